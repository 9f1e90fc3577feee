import PyProof.Rows.All
import Wide.All
import OpenK.AllK
import Wide.FinOn
import HandS.Lambda
import HandS.ForMost
import HandS.Small
import HandS.Iter
import HandS.TupAny
import HandS.TupLe
import HandS.More
import HandS.IsInst
import HandS.Strs
import KE.SortData
import HandS.Style
import HandS.Deep
import HandS.Zip
import HandS.Rev
import HandS.NoneIn
import HandS.DictComp
import HandS.Defaults
import PyProof.ReprRoads
import KE.KRevSl
import HandS.Text
import HandS.Ends
import KE.GoesEnum
import KE.KDictZip
import KE.SortKeyHeap
import KE.KSortKey
import HandS.EndTab
import HandS.SetTxt0
import HandS.Set
import HandS.TupSets
import KE.KDictSum
import PyProof.AutoIntOps
import HandS.List
import KE.KDictList
import KE.DataMinMax
import PyProof.Rows.CountFlat
import HandS.RaiseMore
import HandS.Call
import KE.KEqNest
import HandS.DictEq
import HandS.OwnEq
import HandS.Exc
import HandS.ExcOwn
import HandS.ExcIs
import KE.KExcIs
import OpenK.KOps
import HandS.SetFor
import KE.KDictCopyH
import PyProof.SeqRoads2
import HandS.Zip0
import KE.KDictWalk
import HandS.Dict
import KE.DatumOrd
import KE.DataCmp
import HandS.ExcInit
import KE.KExcLine
import PySem.Challenge.RW_standby_k03_calls_as_they_are_made
set_option Elab.async false
set_option linter.all false
set_option maxRecDepth 100000
set_option maxRecDepth 100000
set_option maxHeartbeats 4000000
namespace DL
open PySem PySem.Spec PyProof.Rows L2
class HW where
  P : Program
  w : World
def HWX [HW] (X : Cx) : Prop := HW.P = X.prog ∧ HW.w = X.w
abbrev KA := List Key × Addr × V
def KR : List KA → List (List Key × Addr × Value) → Prop := Paired fun p q => p.1 = q.1 ∧ p.2.1 = q.2.1 ∧ RelV p.2.2 q.2.2
def dtP (P : Program) (w : World) (a : Addr) (ks : List KA) (h : Heap) : Prop := ks.length ≤ sizeLine ∧ (a == sysModules) = false ∧ ∃ xs : List (List Key × Addr × Value), KR ks xs ∧
  ∃ o es ep, h.get? a = some o ∧ o.ExactDict ∧ o.data = .dict es ep ∧ es.toList = xs.map (entryOfKey (tupleKind (mixKind P w))) ∧ (xs.map (·.1)).Nodup
abbrev dtO [HW] (a : Addr) (ks : List KA) : HO := .ext (dtP HW.P HW.w a ks)
def KX (H : Hp) (ks : List KA) : Prop := ∀ p ∈ ks, Rd H p.2.1 (.tup (p.1.map kV))
def atA (ks : List KA) (k : List Key) : Option (Addr × V) := (ks.find? fun x => decide (x.1 = k)).map (·.2)
def valA (ks : List KA) (k : List Key) : Option V := (atA ks k).map (·.2)
def replA (k : List Key) (v : V) (p : KA) : KA := if p.1 = k then (p.1, p.2.1, v) else p
def putA (ks : List KA) (k : List Key) (b : Addr) (v : V) : List KA := if (atA ks k).isSome = true then ks.map (replA k v) else ks ++ [(k, b, v)]
section
variable {P : Program} {w : World} {H : Hp} {h : Heap} {a : Addr}
theorem KR.len {ks : List KA} {xs : List (List Key × Addr × Value)} (r : KR ks xs) : ks.length = xs.length := Paired.length r
theorem KR.at_ {k : List Key} : ∀ {ks : List KA} {xs : List (List Key × Addr × Value)}, KR ks xs → RelO (valA ks k) ((atKey xs k).map (·.2)) ∧ (atA ks k).isSome = (atKey xs k).isSome
  | _, _, .nil => ⟨trivial, rfl⟩
  | (k1, q1, v1) :: ks, (k2, q2, u2) :: xs, .cons ⟨e1, e2, r⟩ t => by
    have e1 : k1 = k2 := e1
    subst e1
    have ih := KR.at_ (k := k) t
    unfold valA atA atKey at ih ⊢
    simp only [List.find?_cons]
    by_cases e : k1 = k
    · simp only [e, decide_true, Option.map_some]
      exact ⟨r, rfl⟩
    · simp only [e, decide_false]
      exact ih
theorem key_ofR {ks : List Key} (ok : HOk P w H h) (e : Rd H a (.tup (ks.map kV))) : (tupleKind (mixKind P w)).is h ks a := by
  obtain ⟨_, its, r, o, h1, h2, n, h3⟩ := (show ObjOk P w H h a (.tup (ks.map kV)) from rd_of ok e)
  exact ⟨o, its.toArray, n, h1, h2, h3, by simpa using items_are r⟩
theorem dtx_of {ks : List KA} (ok : HOk P w H h) (e : dtP P w a ks h) (hk : KX H ks) : ks.length ≤ sizeLine ∧ (a == sysModules) = false ∧ ∃ xs, KR ks xs ∧ h.DictOfH (tupleKind (mixKind P w)) a xs := by
  obtain ⟨z, y, xs, r, o, es, ep, h1, h2, h3, h4, h5⟩ := e
  refine ⟨z, y, xs, r, o, es, ep, h1, h2, h3, h4, fun x hx => ?_, h5⟩
  have all : ∀ {l : List KA} {m : List (List Key × Addr × Value)}, KR l m → KX H l → ∀ x ∈ m, (tupleKind (mixKind P w)).is h x.1 x.2.1 := by
    intro l m q
    induction q with
    | nil => intro _ x hx; exact nomatch hx
    | @cons p q ps qs hq t ih =>
      intro hk x hx
      rcases List.mem_cons.mp hx with e | hx
      · subst e
        have := hk p List.mem_cons_self
        rw [hq.1, hq.2.1] at this
        exact key_ofR ok this
      · exact ih (fun p hp => hk p (List.mem_cons_of_mem _ hp)) x hx
  exact all r hk x hx
theorem KR.repl (k : List Key) {v : V} {u : Value} (rv : RelV v u) : ∀ {ks : List KA} {xs : List (List Key × Addr × Value)}, KR ks xs → KR (ks.map (replA k v)) (xs.map (putAt k u))
  | _, _, .nil => .nil
  | p :: ks, q :: xs, .cons ⟨e1, e2, r⟩ t => by
    rw [List.map_cons, List.map_cons]
    refine .cons ?_ (KR.repl k rv t)
    unfold replA putAt
    by_cases e : p.1 = k
    · rw [if_pos e, if_pos (e1.symm.trans e)]; exact ⟨e1, e2, rv⟩
    · rw [if_neg e, if_neg fun z => e (e1.trans z)]; exact ⟨e1, e2, r⟩
theorem KR.put {ks : List KA} {xs : List (List Key × Addr × Value)} (r : KR ks xs) (k : List Key) (b : Addr) {v : V} {u : Value} (rv : RelV v u) : KR (putA ks k b v) (storedH xs k b u) := by
  unfold putA storedH
  rw [(r.at_ (k := k)).2]
  by_cases q : (atKey xs k).isSome = true
  · rw [if_pos q, if_pos q]; exact r.repl k rv
  · rw [if_neg q, if_neg q]; exact Paired.snoc r ⟨rfl, rfl, rv⟩
theorem KX.put {ks : List KA} (hk : KX H ks) {k : List Key} {b : Addr} (v : V) (eb : Rd H b (.tup (k.map kV))) : KX H (putA ks k b v) := by
  intro p hp
  unfold putA at hp
  split at hp
  · obtain ⟨q, hq, rfl⟩ := List.mem_map.mp hp
    have := hk q hq
    unfold replA
    split
    · exact this
    · exact this
  · rcases List.mem_append.mp hp with z | z
    · exact hk p z
    · rcases List.mem_singleton.mp z with rfl
      exact eb
theorem KX.nil : KX H [] := fun p hp => nomatch hp
theorem dtx_rd {φ : Heap → Prop} (ok : HOk P w H h) (e : Rd H a (.ext φ)) : φ h := (show ObjOk P w H h a (.ext φ) from rd_of ok e).1
end
section
variable [HW] {X : Cx} {pins : List (Addr × Obj)} {σ : L2.St} {H : Hp} {s : Shared} {a b : Addr} {ks : List KA} {k : List Key} {v : V} {r : Value} {A : Around} {E : Value → Shared → Prop}
theorem dtxI (W : HWX X) (I : Inv X pins σ H s) (e : Rd H a (dtO a ks)) (hk : KX H ks) : ks.length ≤ sizeLine ∧ (a == sysModules) = false ∧ ∃ xs, KR ks xs ∧ s.heap.DictOfH (tupleKind (mixKind X.prog X.w)) a xs := by
  unfold dtO at e
  rw [W.1, W.2] at e
  exact dtx_of I.hok (dtx_rd I.hok e) hk
theorem dtx_getItem {Q : Value → Shared → Prop} (hu : A.units + 1 < cLine) (W : HWX X) (I : Inv X pins σ H s) (e : Rd H a (dtO a ks)) (hk : KX H ks) (eb : Rd H b (.tup (k.map kV))) (l : valA ks k = some v) (h : ∀ w' s', Inv X pins σ H s' → RelV v w' → Q w' s') :
    wpAny (model X.prog X.w) A (getItem (.ref a) (.ref b)) Q E s := by
  obtain ⟨z, hd, xs, rel, dd⟩ := dtxI W I e hk
  obtain ⟨w', hw, rw'⟩ := RelO.some_of (v := v) (o := (atKey xs k).map (·.2)) (by have := (rel.at_ (k := k)).1; rw [l] at this; exact this)
  obtain ⟨p, hp, hp2⟩ := Option.map_eq_some_iff.mp hw
  refine wpAny_getItem_heap (tupleKind_room_in1 hu) (key_ofR I.hok eb) dd hp ?_
  rw [hp2]
  exact h w' _ (I.tok _) rw'
theorem valA_some {ks : List KA} {k : List Key} : (valA ks k).isSome = (atA ks k).isSome := by unfold valA; rw [Option.isSome_map]
theorem dtx_in {Q : Value → Shared → Prop} (hu : A.units + 1 < cLine) (W : HWX X) (I : Inv X pins σ H s) (e : Rd H a (dtO a ks)) (hk : KX H ks) (eb : Rd H b (.tup (k.map kV))) (h : ∀ s', Inv X pins σ H s' → Q (.bool (valA ks k).isSome) s') :
    wpAny (model X.prog X.w) A (compareOp .In (.ref b) (.ref a)) Q E s := by
  obtain ⟨z, hd, xs, rel, dd⟩ := dtxI W I e hk
  refine wpAny_in_heap (tupleKind_room_in1 hu) (key_ofR I.hok eb) hd dd ?_
  rw [← (rel.at_ (k := k)).2, ← valA_some]
  exact h _ (I.tok _)
theorem dtx_notIn {Q : Value → Shared → Prop} (hu : A.units + 1 < cLine) (W : HWX X) (I : Inv X pins σ H s) (e : Rd H a (dtO a ks)) (hk : KX H ks) (eb : Rd H b (.tup (k.map kV))) (h : ∀ s', Inv X pins σ H s' → Q (.bool (!(valA ks k).isSome)) s') :
    wpAny (model X.prog X.w) A (compareOp .NotIn (.ref b) (.ref a)) Q E s := by
  obtain ⟨z, hd, xs, rel, dd⟩ := dtxI W I e hk
  refine wpAny_notIn_heap (tupleKind_room_in1 hu) (key_ofR I.hok eb) hd dd ?_
  rw [← (rel.at_ (k := k)).2, ← valA_some]
  exact h _ (I.tok _)
theorem KX.to {H' : Hp} (hk : KX H ks) (f : ∀ q o, (∃ p ∈ ks, p.2.1 = q) → H q = some o → H' q = some o) : KX H' ks := fun p hp => by
  rcases hk p hp with e | ⟨o, e⟩
  · exact .inl (f _ _ ⟨p, hp, rfl⟩ e)
  · exact .inr ⟨o, f _ _ ⟨p, hp, rfl⟩ e⟩
def DGetX (H : Hp) (a : Addr) (y : V) (r : Option V) : Prop := DGet H a y r ∨ ∃ ks k b, Rd H a (dtO a ks) ∧ KX H ks ∧ y = .ref b ∧ Rd H b (.tup (k.map kV)) ∧ r = valA ks k
theorem dx_getItem {y : V} {u : Value} {Q : Value → Shared → Prop} (hu : A.units + 1 < cLine) (W : HWX X) (I : Inv X pins σ H s) (g : DGetX H a y (some v)) (ry : RelV y u) (h : ∀ w' s', Inv X pins σ H s' → RelV v w' → Q w' s') :
    wpAny (model X.prog X.w) A (getItem (.ref a) u) Q E s := by
  rcases g with g | ⟨ks, k, b, e, hk, ey, eb, l⟩
  · exact d_getItem hu I g ry h
  · subst ey
    cases (show u = Value.ref b from ry)
    exact dtx_getItem hu W I e hk eb l.symm h
theorem dx_in {y : V} {u : Value} {o : Option V} {Q : Value → Shared → Prop} (hu : A.units + 1 < cLine) (W : HWX X) (I : Inv X pins σ H s) (g : DGetX H a y o) (ry : RelV y u) (h : ∀ s', Inv X pins σ H s' → Q (.bool o.isSome) s') :
    wpAny (model X.prog X.w) A (compareOp .In u (.ref a)) Q E s := by
  rcases g with g | ⟨ks, k, b, e, hk, ey, eb, l⟩
  · exact d_in hu I g ry h
  · subst ey l
    cases (show u = Value.ref b from ry)
    exact dtx_in hu W I e hk eb h
theorem dx_notIn {y : V} {u : Value} {o : Option V} {Q : Value → Shared → Prop} (hu : A.units + 1 < cLine) (W : HWX X) (I : Inv X pins σ H s) (g : DGetX H a y o) (ry : RelV y u) (h : ∀ s', Inv X pins σ H s' → Q (.bool (!o.isSome)) s') :
    wpAny (model X.prog X.w) A (compareOp .NotIn u (.ref a)) Q E s := by
  rcases g with g | ⟨ks, k, b, e, hk, ey, eb, l⟩
  · exact d_notIn hu I g ry h
  · subst ey l
    cases (show u = Value.ref b from ry)
    exact dtx_notIn hu W I e hk eb h
theorem dx_typeIs {y : V} {o : Option V} (W : HWX X) (I : Inv X pins σ H s) (g : DGetX H a y o) : s.TypeIs (.ref a) "dict" := by
  rcases g with g | ⟨ks, k, b, e, hk, _, _, _⟩
  · exact dict_typeIs I g
  · obtain ⟨_, _, xs, _, dd⟩ := dtxI W I e hk
    exact dd.typeIs
end
section
variable [HW] {X : Cx}
def IsDX (H : Hp) (a : Addr) : Prop := IsD H a ∨ ∃ ks, Rd H a (dtO a ks)
theorem isDX_at {pins : List (Addr × Obj)} {σ : L2.St} {H : Hp} {s : Shared} {a : Addr} (I : Inv X pins σ H s) (d : IsDX H a) :
    s.TypeIs (.ref a) "dict" ∧ (∀ b, Value.ref a = .ref b → ∃ ob, s.heap.get? b = some ob ∧ ob.dict = none) ∧ (a == sysModules) = false := by
  rcases d with d | ⟨ks, e⟩
  · exact isD_at I d
  · unfold dtO at e
    obtain ⟨_, hd, xs, _, ob, es, ep, h1, h2, _⟩ := dtx_rd I.hok e
    refine ⟨⟨ob, h1, h2.1⟩, fun b q => ?_, hd⟩
    cases q
    exact ⟨ob, h1, h2.2.1⟩
theorem dx_get {pins : List (Addr × Obj)} {σ : L2.St} {H : Hp} {s : Shared} {a : Addr} {y d : V} {u r : Value} {o : Option V} {A : Around} {E : Value → Shared → Prop} {Q : Value → Shared → Prop} (hu : A.units + 1 < cLine) (W : HWX X) (I : Inv X pins σ H s) (g : DGetX H a y o) (ry : RelV y u) :
    (∀ (rd : RelV d r), (∀ w' s', Inv X pins σ H s' → RelV (o.getD d) w' → Q w' s') → wpAny (model X.prog X.w) A (call (.builtin "dict.get") [.ref a, u, r]) Q E s) ∧
    ((∀ w' s', Inv X pins σ H s' → RelV (o.getD .non) w' → Q w' s') → wpAny (model X.prog X.w) A (call (.builtin "dict.get") [.ref a, u]) Q E s) := by
  rcases g with g | ⟨ks, k, b, e, hk, ey, eb, l⟩
  · exact ⟨fun rd h => d_get2 hu I g ry rd h, fun h => d_get1 hu I g ry h⟩
  · subst ey
    cases (show u = Value.ref b from ry)
    obtain ⟨z, hd, xs, rel, dd⟩ := dtxI W I e hk
    have q := (rel.at_ (k := k)).1
    rw [← l] at q
    refine ⟨fun rd h => call_meetsIn PySem.F.slot_dict_get dd.typeIs PySem.F.entry_dict_get (PySem.F.args_dict_get_3 _ _ _) (meetsH_dict_get_default (tupleKind (mixKind X.prog X.w)) a b hd r) ⟨tupleKind_room_in1 hu, k, xs, key_ofR I.hok eb, dd, h _ _ (I.tok _) (q.getD rd)⟩,
      fun h => call_meetsIn PySem.F.slot_dict_get dd.typeIs PySem.F.entry_dict_get (PySem.F.args_dict_get_2 _ _) (meetsH_dict_get (tupleKind (mixKind X.prog X.w)) a b hd) ⟨tupleKind_room_in1 hu, k, xs, key_ofR I.hok eb, dd, h _ _ (I.tok _) (q.getD rfl)⟩⟩
variable {o e f : Expr} {apos cpos : Pos} {td ty tx : TE}
def tDGetX2 (td ty tx : TE) : TE := fun σ H Q => td σ H fun x H1 => ∃ a, x = .ref a ∧ IsDX H1 a ∧ ty σ H1 fun y H2 => tx σ H2 fun z H3 => ∃ ov, DGetX H3 a y ov ∧ Q (ov.getD z) H3
theorem pe_dgetX2 (hu : X.A.units + 1 < cLine) (W : HWX X) (ho : PE X o td) (he : PE X e ty) (hf : PE X f tx) (m : M2 X o "get" apos e f cpos) : PE X (.Call (.Attribute o "get" apos) [e, f] [] cpos) (tDGetX2 td ty tx) := by
  refine ⟨fun pins s σ H Q I h => ?_⟩
  refine wpAny_Call_method m.base m.few m.line PySem.F.plainAttrs_dict PySem.F.slot_dict_get PySem.F.type_dict_get (thn (ho.run pins s σ H _ I h) fun u s1 ⟨x, H1, I1, rx, a, ex, d, q1⟩ => ?_)
  subst ex
  obtain rfl : u = Value.ref a := rx
  obtain ⟨t1, t2, _⟩ := isDX_at I1 d
  refine ⟨t1, t2, ?_⟩
  rw [m.trees]
  refine Calls.callWith_builtin rfl (Calls.evalArgs_plain (Calls.spliced_cons (thn (he.run pins s1 σ H1 _ I1 q1) fun iv s2 ⟨y, H2, I2, ry, q2⟩ =>
    Calls.spliced_cons (thn (hf.run pins s2 σ H2 _ I2 q2) fun fv s3 ⟨z, H3, I3, rz, ov, g, q3⟩ => Calls.spliced_nil ?_))))
  exact (dx_get hu W I3 g ry).1 rz fun w' s4 I4 rw' => ⟨_, H3, I4, rw', q3⟩
end
section
variable [HW] {X : Cx} {pins : List (Addr × Obj)} {σ : L2.St} {H : Hp} {s : Shared} {d : Addr} {o : Obj} {ks : List KA}
theorem KR.get : ∀ {ks : List KA} {xs : List (List Key × Addr × Value)} {i : Nat} {k : List Key} {q : Addr} {v : V}, KR ks xs → ks[i]? = some (k, q, v) → ∃ u, xs[i]? = some (k, q, u) ∧ RelV v u
  | _, _, _, _, _, _, .nil, e => by simp at e
  | _, (k', q', u') :: _, 0, _, _, _, .cons ⟨e1, e2, r⟩ _, e => by
    simp at e; subst e
    have e1 : _ = k' := e1
    have e2 : _ = q' := e2
    subst e1 e2
    exact ⟨u', rfl, r⟩
  | _, _, i + 1, _, _, _, .cons _ t, e => by
    obtain ⟨u, h1, h2⟩ := KR.get (i := i) t (by simpa using e)
    exact ⟨u, by simpa using h1, h2⟩
end
end DL
set_option maxRecDepth 100000
set_option maxHeartbeats 4000000
namespace DL
open PySem PySem.Spec PyProof.Rows L2
variable [HW]
abbrev D := PyData
structure Mm where
  u : List Addr
  m : List (Option Addr)
def Mm.Has (M : Mm) (a : Addr) : Prop := a ∈ M.u ∨ some a ∈ M.m
def kP : Key → D
  | .inl i => .int i
  | .inr s => .str s
def prTx : List D → Option (List (Str × Str))
  | [] => some []
  | .tuple [.str a, .str b] :: ds => (prTx ds).map ((a, b) :: ·)
  | _ :: _ => none
def rowS : List D → Option (List Str)
  | [] => some []
  | .str a :: ds => (rowS ds).map (a :: ·)
  | _ :: _ => none
def pairD (ds : List D) : Bool := match prTx ds with
  | some ps => !ps.isEmpty && decide (ps.map (·.1)).Nodup
  | none => false
def rowD (ds : List D) : Bool := match rowS ds with
  | some l => !l.isEmpty && decide l.Nodup
  | none => false
def callD (ds : List D) : Bool := pairD ds || rowD ds
def TupAt (H : Hp) (a : Addr) (xs : List V) (ds : List D) : Prop := (callD ds = false ∧ H a = some (.tup xs)) ∨ (callD ds = true ∧ ∃ o : Obj, o.dict = none ∧ H a = some (.frz o (.tup xs)))
theorem TupAt.to {H H' : Hp} {a : Addr} {xs : List V} {ds : List D} (t : TupAt H a xs ds) (f : ∀ o, H a = some o → H' a = some o) : TupAt H' a xs ds := by
  rcases t with ⟨c, e⟩ | ⟨c, o, h, e⟩
  · exact .inl ⟨c, f _ e⟩
  · exact .inr ⟨c, o, h, f _ e⟩
theorem TupAt.some_ {H : Hp} {a : Addr} {xs : List V} {ds : List D} (t : TupAt H a xs ds) : ∃ o, H a = some o := by
  rcases t with ⟨c, e⟩ | ⟨c, o, h, e⟩
  · exact ⟨_, e⟩
  · exact ⟨_, e⟩
theorem TupAt.rd {H : Hp} {a : Addr} {xs : List V} {ds : List D} (t : TupAt H a xs ds) : Rd H a (.tup xs) := by
  rcases t with ⟨c, e⟩ | ⟨c, o, h, e⟩
  · exact .inl e
  · exact .inr ⟨o, e⟩
theorem TupAt.sq {K : PySem.W.Frag} {H : Hp} {a : Addr} {xs : List V} {ds : List D} (t : TupAt H a xs ds) : SqT K H a xs := .inl t.rd
theorem TupAt.plain {H : Hp} {a : Addr} {xs : List V} {ds : List D} (t : TupAt H a xs ds) (c : callD ds = false) : H a = some (.tup xs) := by
  rcases t with ⟨_, e⟩ | ⟨c', _⟩
  · exact e
  · rw [c] at c'; cases c'
theorem pairD_not {d : D} (ds : List D) (h : ∀ a b : Str, d ≠ .tuple [.str a, .str b]) : pairD (d :: ds) = false := by
  have e : prTx (d :: ds) = none := by
    unfold prTx
    split
    · rename_i q; cases q
    · rename_i a b ds' q; cases q; exact absurd rfl (h a b)
    · rfl
  unfold pairD
  rw [e]
theorem rowD_not {d : D} (ds : List D) (h : ∀ a : Str, d ≠ .str a) : rowD (d :: ds) = false := by
  have e : rowS (d :: ds) = none := by
    unfold rowS
    split
    · rename_i q; cases q
    · rename_i a ds' q; cases q; exact absurd rfl (h a)
    · rfl
  unfold rowD
  rw [e]
theorem callD_not {d : D} (ds : List D) (h : ∀ a b : Str, d ≠ .tuple [.str a, .str b]) (h' : ∀ a : Str, d ≠ .str a) : callD (d :: ds) = false := by
  unfold callD
  rw [pairD_not ds h, rowD_not ds h']
  rfl
mutual
inductive RD (M : Mm) (H : Hp) : V → D → Prop
  | non : RD M H .non .none
  | bl (b : Bool) : RD M H (.bl b) (.bool b)
  | int (i : Int) : RD M H (.int i) (.int i)
  | str (x : Str) : RD M H (.str x) (.str x)
  | tup {a : Addr} {xs : List V} {ds : List D} : ¬ M.Has a → TupAt H a xs ds → RDs M H xs ds → RD M H (.ref a) (.tuple ds)
  | lst {a : Addr} {xs : List V} {ds : List D} : ¬ M.Has a → H a = some (.lst xs) → RDs M H xs ds → RD M H (.ref a) (.list ds)
  | dic {a : Addr} {kvs : List (Key × V)} {es : List (D × D)} : ¬ M.Has a → H a = some (.dK kvs) → RDk M H kvs es → RD M H (.ref a) (.dict es)
  | dit {a : Addr} {o : Obj} {kvs : List KA} {es : List (D × D)} : ¬ M.Has a → H a = some (.frz o (dtO a kvs)) → RDt M H kvs es → RD M H (.ref a) (.dict ((.none, .none) :: es))
inductive RDs (M : Mm) (H : Hp) : List V → List D → Prop
  | nil : RDs M H [] []
  | cons {v : V} {vs : List V} {d : D} {ds : List D} : RD M H v d → RDs M H vs ds → RDs M H (v :: vs) (d :: ds)
inductive RDk (M : Mm) (H : Hp) : List (Key × V) → List (D × D) → Prop
  | nil : RDk M H [] []
  | cons {k : Key} {v : V} {d : D} {kvs : List (Key × V)} {es : List (D × D)} : RD M H v d → RDk M H kvs es → RDk M H ((k, v) :: kvs) ((kP k, d) :: es)
inductive RDt (M : Mm) (H : Hp) : List KA → List (D × D) → Prop
  | nil : RDt M H [] []
  | cons {k : List Key} {q : Addr} {v : V} {d : D} {kvs : List KA} {es : List (D × D)} : ¬ M.Has q → TupAt H q (k.map kV) (k.map kP) → RD M H v d → RDt M H kvs es → RDt M H ((k, q, v) :: kvs) ((.tuple (k.map kP), d) :: es)
end

structure Ext (M M' : Mm) (H H' : Hp) : Prop where
  us : ∀ a ∈ M'.u, a ∈ M.u ∨ H a = none
  trk : ∀ a o, H a = some o → ∃ o', H' a = some o'
  stab : ∀ a o, H a = some o → some a ∉ M.m → H' a = some o
  fresh : ∀ a, some a ∈ M'.m → some a ∈ M.m ∨ H a = none
  len : M.m.length ≤ M'.m.length
  kill : ∀ i : Nat, i < M.m.length → M'.m[i]? = M.m[i]? ∨ M'.m[i]? = some none
structure ExtE (M M' : Mm) (H H' : Hp) : Prop where
  same : M'.u = M.u
  trk : ∀ a o, H a = some o → ∃ o', H' a = some o'
  stab : ∀ a o, H a = some o → some a ∉ M.m → H' a = some o
  fresh : ∀ a, some a ∈ M'.m → some a ∈ M.m ∨ H a = none
  len : M.m.length ≤ M'.m.length
  pre : ∀ i : Nat, i < M.m.length → M'.m[i]? = M.m[i]?
theorem ExtE.ext {M M' : Mm} {H H' : Hp} (x : ExtE M M' H H') : Ext M M' H H' := ⟨fun a m => .inl (x.same ▸ m), x.trk, x.stab, x.fresh, x.len, fun i h => .inl (x.pre i h)⟩
theorem Ext.outm {M M' : Mm} {H H' : Hp} (x : Ext M M' H H') {a : Addr} {o : HO} (n : some a ∉ M.m) (e : H a = some o) : some a ∉ M'.m := fun m =>
  (x.fresh a m).elim n fun z => by rw [e] at z; cases z
theorem Ext.out {M M' : Mm} {H H' : Hp} (x : Ext M M' H H') {a : Addr} {o : HO} (n : ¬ M.Has a) (e : H a = some o) : ¬ M'.Has a := fun m => by
  rcases m with m | m
  · exact (x.us a m).elim (fun z => n (.inl z)) fun z => by rw [e] at z; cases z
  · exact x.outm (fun z => n (.inr z)) e m
theorem Ext.st {M M' : Mm} {H H' : Hp} (x : Ext M M' H H') {a : Addr} {o : HO} (n : ¬ M.Has a) (e : H a = some o) : H' a = some o := x.stab a o e fun z => n (.inr z)
theorem Ext.refl (M : Mm) (H : Hp) : Ext M M H H := ⟨fun _ m => .inl m, fun a o e => ⟨o, e⟩, fun _ _ e _ => e, fun _ m => .inl m, Nat.le_refl _, fun _ _ => .inl rfl⟩
theorem ExtE.refl (M : Mm) (H : Hp) : ExtE M M H H := ⟨rfl, fun a o e => ⟨o, e⟩, fun _ _ e _ => e, fun _ m => .inl m, Nat.le_refl _, fun _ _ => rfl⟩
theorem Ext.trans {M M1 M2 : Mm} {H H1 H2 : Hp} (x : Ext M M1 H H1) (y : Ext M1 M2 H1 H2) : Ext M M2 H H2 where
  us := fun a m => by
    rcases y.us a m with z | z
    · exact x.us a z
    · right
      cases q : H a with
      | none => rfl
      | some o => obtain ⟨o', e⟩ := x.trk a o q; rw [z] at e; cases e
  trk := fun a o e => by obtain ⟨o', e'⟩ := x.trk a o e; exact y.trk a o' e'
  stab := fun a o e n => y.stab a o (x.stab a o e n) (x.outm n e)
  fresh := fun a m => by
    rcases y.fresh a m with m1 | z
    · exact x.fresh a m1
    · by_cases hm : some a ∈ M.m
      · exact .inl hm
      · right
        cases q : H a with
        | none => rfl
        | some o => rw [x.stab a o q hm] at z; cases z
  len := Nat.le_trans x.len y.len
  kill := fun i h => by
    rcases y.kill i (Nat.lt_of_lt_of_le h x.len) with e | e
    · rw [e]; exact x.kill i h
    · exact .inr e
theorem ExtE.trans {M M1 M2 : Mm} {H H1 H2 : Hp} (x : ExtE M M1 H H1) (y : ExtE M1 M2 H1 H2) : ExtE M M2 H H2 where
  same := y.same.trans x.same
  trk := (x.ext.trans y.ext).trk
  stab := (x.ext.trans y.ext).stab
  fresh := (x.ext.trans y.ext).fresh
  len := Nat.le_trans x.len y.len
  pre := fun i h => by rw [y.pre i (Nat.lt_of_lt_of_le h x.len), x.pre i h]
mutual
theorem RD.mono {M M' : Mm} {H H' : Hp} (x : Ext M M' H H') : ∀ {v : V} {d : D}, RD M H v d → RD M' H' v d
  | _, _, .non => .non
  | _, _, .bl b => .bl b
  | _, _, .int i => .int i
  | _, _, .str s => .str s
  | _, _, .tup n e r => .tup (let ⟨_, q⟩ := e.some_; x.out n q) (e.to fun _ q => x.st n q) (RDs.mono x r)
  | _, _, .lst n e r => .lst (x.out n e) (x.st n e) (RDs.mono x r)
  | _, _, .dic n e r => .dic (x.out n e) (x.st n e) (RDk.mono x r)
  | _, _, .dit n e r => .dit (x.out n e) (x.st n e) (RDt.mono x r)
theorem RDs.mono {M M' : Mm} {H H' : Hp} (x : Ext M M' H H') : ∀ {v : List V} {d : List D}, RDs M H v d → RDs M' H' v d
  | _, _, .nil => .nil
  | _, _, .cons a r => .cons (RD.mono x a) (RDs.mono x r)
theorem RDk.mono {M M' : Mm} {H H' : Hp} (x : Ext M M' H H') : ∀ {v : List (Key × V)} {d : List (D × D)}, RDk M H v d → RDk M' H' v d
  | _, _, .nil => .nil
  | _, _, .cons a r => .cons (RD.mono x a) (RDk.mono x r)
theorem RDt.mono {M M' : Mm} {H H' : Hp} (x : Ext M M' H H') : ∀ {v : List KA} {d : List (D × D)}, RDt M H v d → RDt M' H' v d
  | _, _, .nil => .nil
  | _, _, .cons n e a r => .cons (let ⟨_, q⟩ := e.some_; x.out n q) (e.to fun _ q => x.st n q) (RD.mono x a) (RDt.mono x r)
end

theorem RDt.kx {M : Mm} {H : Hp} : ∀ {ks : List KA} {es : List (D × D)}, RDt M H ks es → KX H ks
  | _, _, .nil => KX.nil
  | _, _, .cons n e a r => fun p hp => by
    rcases List.mem_cons.mp hp with z | z
    · subst z; exact e.rd
    · exact RDt.kx r p z
inductive MO where
  | lst (ds : List D) | dic (es : List (D × D)) | dit (es : List (D × D)) | tab (q : Str) (P : Addr) | ins (C : Addr) (fs : List (Str × D))
abbrev Hh := List (Option MO)
def RF (M : Mm) (H : Hp) (gs : List (Str × V)) (fs : List (Str × D)) : Prop := Paired (fun (p : Str × V) (q : Str × D) => p.1 = q.1 ∧ RD M H p.2 q.2) gs fs
theorem RF.to {M M' : Mm} {H H' : Hp} {gs : List (Str × V)} {fs : List (Str × D)} (r : RF M H gs fs) (h : ∀ v d, RD M H v d → RD M' H' v d) : RF M' H' gs fs := Paired.mapP r fun p q z => ⟨z.1, h _ _ z.2⟩
def RO (M : Mm) (H : Hp) (a : Addr) : MO → Prop
  | .lst ds => ∃ xs, H a = some (.lst xs) ∧ RDs M H xs ds
  | .dic es => ∃ kvs, H a = some (.dK kvs) ∧ RDk M H kvs es
  | .dit es => ∃ kvs, H a = some (dtO a kvs) ∧ RDt M H kvs es
  | .ins C fs => ∃ dx gs, H a = some (.ins C dx gs) ∧ RF M H gs fs
  | .tab q P => a = P ∧ ∃ ps : Array Value, H a = some (.tbl ps) ∧ TriplesOk ps.toList ∧ ∀ pos cv, codeAmong pos ps.toList = some cv → ∃ c, cv = .ref c ∧ ¬ M.Has c ∧ H c = some (LamX.CodeO c q)
def tpO : HO → Bool
  | .tup _ => true
  | .frz _ (.tup _) => true
  | _ => false
structure Rep (M : Mm) (H : Hp) (h : Hh) : Prop where
  us : ∀ a ∈ M.u, some a ∉ M.m ∧ ∃ o, H a = some o ∧ tpO o = false
  len : M.m.length = h.length
  inj : ∀ (i j : Nat) (a : Addr), M.m[i]? = some (some a) → M.m[j]? = some (some a) → i = j
  at_ : ∀ (i : Nat) (a : Addr), M.m[i]? = some (some a) → ∃ o, h[i]? = some (some o) ∧ RO M H a o
  dead : ∀ i : Nat, M.m[i]? = some none → h[i]? = some none
theorem RO.move {M M' : Mm} {H H' : Hp} (x : Ext M M' H H') {a : Addr} {o : MO} (e : H' a = H a) (r : RO M H a o) : RO M' H' a o := by
  cases o with
  | lst ds => obtain ⟨xs, h, r⟩ := r; exact ⟨xs, e.trans h, r.mono x⟩
  | dic ds => obtain ⟨xs, h, r⟩ := r; exact ⟨xs, e.trans h, r.mono x⟩
  | dit ds => obtain ⟨xs, h, r⟩ := r; exact ⟨xs, e.trans h, r.mono x⟩
  | ins C fs => obtain ⟨dx, gs, h, r⟩ := r; exact ⟨dx, gs, e.trans h, r.to fun _ _ => RD.mono x⟩
  | tab q P =>
    obtain ⟨z, ps, h, t, r⟩ := r
    refine ⟨z, ps, e.trans h, t, fun pos cv hc => ?_⟩
    obtain ⟨c, e1, n, e2⟩ := r pos cv hc
    exact ⟨c, e1, x.out n e2, x.st n e2⟩
theorem RO.some_ {M : Mm} {H : Hp} {a : Addr} {o : MO} (r : RO M H a o) : ∃ u, H a = some u := by
  cases o with
  | lst ds => obtain ⟨xs, h, r⟩ := r; exact ⟨_, h⟩
  | dic ds => obtain ⟨xs, h, r⟩ := r; exact ⟨_, h⟩
  | dit ds => obtain ⟨xs, h, r⟩ := r; exact ⟨_, h⟩
  | ins C fs => obtain ⟨dx, gs, h, r⟩ := r; exact ⟨_, h⟩
  | tab q P => obtain ⟨_, ps, h, _⟩ := r; exact ⟨_, h⟩
theorem RO.kind {M : Mm} {H : Hp} {a : Addr} {o : MO} (r : RO M H a o) : ∃ u, H a = some u ∧ tpO u = false := by
  cases o with
  | lst ds => obtain ⟨xs, h, r⟩ := r; exact ⟨_, h, rfl⟩
  | dic ds => obtain ⟨xs, h, r⟩ := r; exact ⟨_, h, rfl⟩
  | dit ds => obtain ⟨xs, h, r⟩ := r; exact ⟨_, h, rfl⟩
  | ins C fs => obtain ⟨dx, gs, h, r⟩ := r; exact ⟨_, h, rfl⟩
  | tab q P => obtain ⟨_, ps, h, _⟩ := r; exact ⟨_, h, rfl⟩
theorem Rep.tracked {M : Mm} {H : Hp} {h : Hh} (r : Rep M H h) {a : Addr} (m : M.Has a) : ∃ u, H a = some u ∧ tpO u = false := by
  rcases m with m | m
  · exact (r.us a m).2
  · obtain ⟨i, hi, e⟩ := List.getElem_of_mem m
    obtain ⟨o, _, ro⟩ := r.at_ i a (by rw [List.getElem?_eq_getElem hi, e])
    exact ro.kind
theorem Rep.new {M : Mm} {H : Hp} {h : Hh} (r : Rep M H h) {p : Addr} (n : H p = none) : ¬ M.Has p := fun m => by
  obtain ⟨u, e, _⟩ := r.tracked m
  rw [n] at e; cases e
theorem trk_upd {H : Hp} {p : Addr} {o : HO} : ∀ a u, H a = some u → ∃ u', upd H p o a = some u' := fun a u e => by
  by_cases h : a = p
  · subst h; exact ⟨o, upd_same⟩
  · exact ⟨u, by rw [upd_ne h]; exact e⟩
theorem ext_new {M : Mm} {H : Hp} {p : Addr} {o : HO} (n : H p = none) : ExtE M M H (upd H p o) :=
  ⟨rfl, trk_upd, fun a u e _ => by rw [upd_ne (ne_of_none e n)]; exact e, fun _ m => .inl m, Nat.le_refl _, fun _ _ => rfl⟩
theorem Rep.upd_new {M : Mm} {H : Hp} {h : Hh} (r : Rep M H h) {p : Addr} {o : HO} (n : H p = none) : Rep M (upd H p o) h :=
  ⟨fun a m => by
    obtain ⟨h1, u, e, ht⟩ := r.us a m
    exact ⟨h1, u, by rw [upd_ne (ne_of_none e n)]; exact e, ht⟩, r.len, r.inj, fun i a e => by
    obtain ⟨u, hu, ro⟩ := r.at_ i a e
    obtain ⟨z, hz⟩ := ro.some_
    exact ⟨u, hu, ro.move (ext_new n).ext (upd_ne (ne_of_none hz n))⟩, r.dead⟩
def Mm.more (M : Mm) (p : Addr) : Mm := ⟨M.u, M.m ++ [some p]⟩
theorem ext_add {M : Mm} {H : Hp} {p : Addr} {o : HO} (n : H p = none) : ExtE M (M.more p) H (upd H p o) :=
  ⟨rfl, trk_upd, fun a u e _ => by rw [upd_ne (ne_of_none e n)]; exact e, fun a m => by
    rcases List.mem_append.mp m with m | m
    · exact .inl m
    · right
      have : a = p := by simpa using m
      rw [this]; exact n, by simp [Mm.more], fun i hi => List.getElem?_append_left hi⟩
theorem Rep.add {M : Mm} {H : Hp} {h : Hh} (r : Rep M H h) {p : Addr} {o : HO} {m : MO} (n : H p = none) (ro : RO (M.more p) (upd H p o) p m) : Rep (M.more p) (upd H p o) (h ++ [some m]) := by
  have nm := r.new n
  have cases_ : ∀ (i : Nat) (z : Option Addr), (M.m ++ [some p])[i]? = some z → (i < M.m.length ∧ M.m[i]? = some z) ∨ (i = M.m.length ∧ z = some p) := fun i z e => by
    by_cases hi : i < M.m.length
    · rw [List.getElem?_append_left hi] at e
      exact .inl ⟨hi, e⟩
    · rw [List.getElem?_append_right (by omega)] at e
      by_cases h0 : i - M.m.length = 0
      · rw [h0] at e
        exact .inr ⟨by omega, by simpa using e.symm⟩
      · rw [List.getElem?_eq_none (by simp; omega)] at e
        cases e
  refine ⟨fun a m => ?_, by simp [Mm.more, r.len], fun i j a e1 e2 => ?_, fun i a e => ?_, fun i e => ?_⟩
  · obtain ⟨h1, u, e, ht⟩ := r.us a m
    refine ⟨fun z => ?_, u, by rw [upd_ne (ne_of_none e n)]; exact e, ht⟩
    rcases List.mem_append.mp z with z | z
    · exact h1 z
    · have : a = p := by simpa using z
      rw [this, n] at e; cases e
  · rcases cases_ i _ e1 with ⟨h1, e1⟩ | ⟨h1, e1⟩ <;> rcases cases_ j _ e2 with ⟨h2, e2⟩ | ⟨h2, e2⟩
    · exact r.inj i j a e1 e2
    · cases e2; exact absurd (Or.inr (List.mem_of_getElem? e1)) nm
    · cases e1; exact absurd (Or.inr (List.mem_of_getElem? e2)) nm
    · omega
  · rcases cases_ i _ e with ⟨h1, e1⟩ | ⟨h1, e1⟩
    · obtain ⟨u, hu, q⟩ := r.at_ i a e1
      obtain ⟨z, hz⟩ := q.some_
      exact ⟨u, by rw [List.getElem?_append_left (by rw [← r.len]; exact h1)]; exact hu, q.move (ext_add n).ext (upd_ne (ne_of_none hz n))⟩
    · cases e1
      subst h1
      exact ⟨m, by rw [r.len]; simp, ro⟩
  · rcases cases_ i _ e with ⟨h1, e1⟩ | ⟨h1, e1⟩
    · rw [List.getElem?_append_left (by rw [← r.len]; exact h1)]
      exact r.dead i e1
    · cases e1
theorem ext_set {M : Mm} {H : Hp} {n : Nat} {a : Addr} {o : HO} (e : M.m[n]? = some (some a)) : ExtE M M H (upd H a o) :=
  ⟨rfl, trk_upd, fun b u q nb => by rw [upd_ne (fun z => nb (by rw [z]; exact List.mem_of_getElem? e))]; exact q, fun _ m => .inl m, Nat.le_refl _, fun _ _ => rfl⟩
theorem Rep.set {M : Mm} {H : Hp} {h : Hh} (r : Rep M H h) {n : Nat} {a : Addr} {o : HO} {m : MO} (e : M.m[n]? = some (some a)) (ro : RO M (upd H a o) a m) : Rep M (upd H a o) (h.set n (some m)) := by
  have hn : n < h.length := by
    obtain ⟨u, hu, _⟩ := r.at_ n a e
    exact (List.getElem?_eq_some_iff.mp hu).1
  refine ⟨fun b mb => ?_, by simpa using r.len, r.inj, fun i b q => ?_, fun i q => ?_⟩
  · obtain ⟨h1, u, q, ht⟩ := r.us b mb
    exact ⟨h1, u, by rw [upd_ne (fun z => h1 (by rw [z]; exact List.mem_of_getElem? e))]; exact q, ht⟩
  · by_cases hi : i = n
    · subst hi
      rw [e] at q; cases q
      exact ⟨m, by rw [List.getElem?_set_self hn], ro⟩
    · obtain ⟨u, hu, q2⟩ := r.at_ i b q
      have hb : b ≠ a := fun z => hi (r.inj i n a (by rw [← z]; exact q) e)
      exact ⟨u, by rw [List.getElem?_set_ne (Ne.symm hi)]; exact hu, q2.move (ext_set e).ext (upd_ne hb)⟩
  · have hi : n ≠ i := fun z => by subst z; rw [e] at q; cases q
    rw [List.getElem?_set_ne hi]
    exact r.dead i q
def XO (C : Addr) (d : Option Addr) (a : Addr) : HO := .ext fun h => ∃ (oe : Obj) (vs : Array Value), h.get? a = some oe ∧ oe.cls = .ref C ∧ oe.dict = d ∧ oe.data = .fields vs
def xk : HO → Bool
  | .ext _ => true
  | .xd _ => true
  | _ => false
def XD (M : Mm) (H : Hp) : Option Addr → List (Str × V) → Prop
  | none, gs => gs = []
  | some d, gs => ¬ M.Has d ∧ H d = some (.xd gs)
theorem XD.to {M M' : Mm} {H H' : Hp} (hn : ∀ b o, H b = some o → ¬ M.Has b → ¬ M'.Has b) (he : ∀ b o, H b = some o → xk o = true → ¬ M.Has b → H' b = some o) : ∀ {d : Option Addr} {gs : List (Str × V)}, XD M H d gs → XD M' H' d gs
  | none, _, e => e
  | some _, _, e => ⟨hn _ _ e.2 e.1, he _ _ e.2 rfl e.1⟩
def RX (M : Mm) (H : Hp) (a C : Addr) (d : Option Addr) (gs : List (Str × V)) (fs : List (Str × D)) : Prop := ¬ M.Has a ∧ H a = some (XO C d a) ∧ XD M H d gs ∧ RF M H gs fs
theorem RX.to {M M' : Mm} {H H' : Hp} {a C : Addr} {d : Option Addr} {gs : List (Str × V)} {fs : List (Str × D)} (r : RX M H a C d gs fs) (hn : ∀ b o, H b = some o → ¬ M.Has b → ¬ M'.Has b) (he : ∀ b o, H b = some o → xk o = true → ¬ M.Has b → H' b = some o) (hd : ∀ v d, RD M H v d → RD M' H' v d) : RX M' H' a C d gs fs :=
  ⟨hn _ _ r.2.1 r.1, he _ _ r.2.1 rfl r.1, r.2.2.1.to hn he, r.2.2.2.to hd⟩
inductive W where
  | dat (d : D) | ref (n : Nat) | scr (ns : List Int) | pack (its : List (Sum Nat D)) | lock (es : List (D × D)) | ins (C : Addr) (fs : List (Str × D)) | exc (k : Nat) (C : Addr) (fs : List (Str × D))
inductive RPs (M : Mm) (H : Hp) : List V → List (Sum Nat D) → Prop
  | nil : RPs M H [] []
  | ref {n : Nat} {a : Addr} {vs : List V} {ds : List (Sum Nat D)} : M.m[n]? = some (some a) → RPs M H vs ds → RPs M H (.ref a :: vs) (.inl n :: ds)
  | dat {v : V} {d : D} {vs : List V} {ds : List (Sum Nat D)} : RD M H v d → RPs M H vs ds → RPs M H (v :: vs) (.inr d :: ds)
theorem RPs.move {M M' : Mm} {H H' : Hp} (hm : ∀ (n : Nat) (a : Addr), M.m[n]? = some (some a) → M'.m[n]? = some (some a)) (hd : ∀ v d, RD M H v d → RD M' H' v d) : ∀ {vs : List V} {ds : List (Sum Nat D)}, RPs M H vs ds → RPs M' H' vs ds
  | _, _, .nil => .nil
  | _, _, .ref e r => .ref (hm _ _ e) (r.move hm hd)
  | _, _, .dat e r => .dat (hd _ _ e) (r.move hm hd)
abbrev Env := List (Option W)
def RV (M : Mm) (H : Hp) (v : V) : W → Prop
  | .dat d => RD M H v d
  | .ref n => ∃ a, M.m[n]? = some (some a) ∧ v = .ref a
  | .scr ns => ∃ a o, v = .ref a ∧ ¬ M.Has a ∧ H a = some (.frz o (.lst (ns.map V.int)))
  | .pack its => ∃ a xs, v = .ref a ∧ ¬ M.Has a ∧ H a = some (.lst xs) ∧ RPs M H xs its
  | .lock es => ∃ a o kvs, v = .ref a ∧ ¬ M.Has a ∧ H a = some (.frz o (.dK kvs)) ∧ RDk M H kvs es
  | .ins C fs => ∃ a dx gs, v = .ref a ∧ ¬ M.Has a ∧ H a = some (.ins C dx gs) ∧ RF M H gs fs
  | .exc _ C fs => ∃ a d gs, v = .ref a ∧ RX M H a C d gs fs
theorem lt_of_get {α : Type} {l : List α} {i : Nat} {x : α} (e : l[i]? = some x) : i < l.length := (List.getElem?_eq_some_iff.mp e).1
theorem RV.mono {M M' : Mm} {H H' : Hp} (x : ExtE M M' H H') {v : V} : ∀ {w : W}, RV M H v w → RV M' H' v w
  | .dat _, r => RD.mono x.ext r
  | .ref n, ⟨a, e, r⟩ => ⟨a, by rw [x.pre n (lt_of_get e)]; exact e, r⟩
  | .scr ns, ⟨a, o, e, n, q⟩ => ⟨a, o, e, x.ext.out n q, x.ext.st n q⟩
  | .pack its, ⟨a, xs, e, n, q, r⟩ => ⟨a, xs, e, x.ext.out n q, x.ext.st n q, r.move (fun i b z => by rw [x.pre i (lt_of_get z)]; exact z) fun _ _ => RD.mono x.ext⟩
  | .lock es, ⟨a, o, kvs, e, n, q, r⟩ => ⟨a, o, kvs, e, x.ext.out n q, x.ext.st n q, r.mono x.ext⟩
  | .ins C fs, ⟨a, dx, gs, e, n, q, r⟩ => ⟨a, dx, gs, e, x.ext.out n q, x.ext.st n q, r.to fun _ _ => RD.mono x.ext⟩
  | .exc _ C fs, ⟨a, d, gs, e, r⟩ => ⟨a, d, gs, e, r.to (fun _ _ q n => x.ext.out n q) (fun _ _ q _ n => x.ext.st n q) fun _ _ => RD.mono x.ext⟩
inductive RVs (M : Mm) (H : Hp) : List V → List W → Prop
  | nil : RVs M H [] []
  | cons {v : V} {vs : List V} {d : W} {ds : List W} : RV M H v d → RVs M H vs ds → RVs M H (v :: vs) (d :: ds)
theorem RVs.mono {M M' : Mm} {H H' : Hp} (x : ExtE M M' H H') : ∀ {vs : List V} {ws : List W}, RVs M H vs ws → RVs M' H' vs ws
  | _, _, .nil => .nil
  | _, _, .cons a r => .cons (a.mono x) (r.mono x)
theorem RVs.length {M : Mm} {H : Hp} : ∀ {vs : List V} {ws : List W}, RVs M H vs ws → vs.length = ws.length
  | _, _, .nil => rfl
  | _, _, .cons _ r => by rw [List.length_cons, List.length_cons, r.length]
theorem RDs.length {M : Mm} {H : Hp} : ∀ {vs : List V} {ws : List D}, RDs M H vs ws → vs.length = ws.length
  | _, _, .nil => rfl
  | _, _, .cons _ r => by rw [List.length_cons, List.length_cons, r.length]
def RS (M : Mm) (H : Hp) (ρ : Env) (σ : L2.St) : Prop := ρ.length = σ.length ∧ ∀ (i : Nat) (w : W), ρ[i]? = some (some w) → ∃ v, σ[i]? = some (some v) ∧ RV M H v w
theorem RS.mono {M M' : Mm} {H H' : Hp} (x : ExtE M M' H H') {ρ : Env} {σ : L2.St} (r : RS M H ρ σ) : RS M' H' ρ σ := ⟨r.1, fun i w e => by
  obtain ⟨v, e1, q⟩ := r.2 i w e
  exact ⟨v, e1, q.mono x⟩⟩
theorem RS.set {M : Mm} {H : Hp} {ρ : Env} {σ : L2.St} (r : RS M H ρ σ) {i : Nat} {v : V} {w : W} (q : RV M H v w) : RS M H (ρ.set i (some w)) (σ.set i (some v)) := by
  refine ⟨by simp [r.1], fun j u e => ?_⟩
  by_cases hj : i = j
  · subst hj
    by_cases hi : i < ρ.length
    · rw [List.getElem?_set_self hi] at e
      cases e
      exact ⟨v, by rw [List.getElem?_set_self (by rw [← r.1]; exact hi)], q⟩
    · rw [List.getElem?_eq_none (by simpa using hi)] at e; cases e
  · rw [List.getElem?_set_ne hj] at e ⊢
    exact r.2 j u e
def obnd {α β : Type} (r : Option (α × Hh)) (k : α → Hh → Option (β × Hh)) : Option (β × Hh) := match r with
  | some (a, h) => k a h
  | none => none
@[simp] theorem obnd_some {α β : Type} (a : α) (h : Hh) (k : α → Hh → Option (β × Hh)) : obnd (some (a, h)) k = k a h := rfl
@[simp] theorem obnd_none {α β : Type} (k : α → Hh → Option (β × Hh)) : obnd none k = none := rfl
def Cont {α β : Type} (rel : Mm → Hp → β → α → Prop) (r : Option (α × Hh)) (M : Mm) (H : Hp) (Q : β → Hp → Prop) : Prop :=
  ∃ w h', r = some (w, h') ∧ ∀ M' H' v, ExtE M M' H H' → Rep M' H' h' → rel M' H' v w → Q v H'
theorem Cont.bind {α β γ δ : Type} {rel : Mm → Hp → β → α → Prop} {r : Option (γ × Hh)} {k : γ → Hh → Option (α × Hh)} {M : Mm} {H : Hp} {Q : β → Hp → Prop} (c : Cont rel (obnd r k) M H Q) :
    ∃ a h1, r = some (a, h1) ∧ ∀ M1 H1, ExtE M M1 H H1 → Cont rel (k a h1) M1 H1 Q := by
  obtain ⟨w, h', e, q⟩ := c
  cases r with
  | none => cases e
  | some p =>
    obtain ⟨a, h1⟩ := p
    exact ⟨a, h1, rfl, fun M1 H1 x => ⟨w, h', e, fun M' H' v y => q M' H' v (x.trans y)⟩⟩
theorem Cont.fin {α β : Type} {rel : Mm → Hp → β → α → Prop} {w : α} {h : Hh} {M : Mm} {H : Hp} {Q : β → Hp → Prop} (c : Cont rel (some (w, h)) M H Q) {M' : Mm} {H' : Hp} {v : β} (x : ExtE M M' H H') (r : Rep M' H' h) (q : rel M' H' v w) : Q v H' := by
  obtain ⟨w', h', e, k⟩ := c
  cases e
  exact k M' H' v x r q
def tX {α β : Type} (rel : Mm → Hp → β → α → Prop) (f : Env → Hh → Option (α × Hh)) : L2.St → Hp → (β → Hp → Prop) → Prop := fun σ H Q => ∃ M h ρ, Rep M H h ∧ RS M H ρ σ ∧ Cont rel (f ρ h) M H Q
abbrev EM := Env → Hh → Option (W × Hh)
abbrev tE : EM → TE := tX RV
abbrev BM := Env → Hh → Option (Bool × Hh)
abbrev tT : BM → TT := tX fun _ _ (b : Bool) (c : Bool) => b = c
abbrev AM := Env → Hh → Option (List W × Hh)
abbrev tA : AM → TA := tX RVs
abbrev OM := Env → Hh → Option (Option Int × Hh)
abbrev tO : OM → TO := tX fun _ _ (b : Option Int) (c : Option Int) => b = c
abbrev DE (X : Cx) (e : Expr) (f : EM) : Prop := PE X e (tE f)
abbrev DT (X : Cx) (e : Expr) (f : BM) : Prop := PT X e (tT f)
abbrev DA (X : Cx) (es : List Expr) (f : AM) : Prop := PA X es (tA f)
abbrev DK (X : Cx) (es : List Keyword) (f : AM) : Prop := PK X es (tA f)
theorem _root_.L2.PE.weak {X : Cx} {e : Expr} {t t' : TE} (h : PE X e t) (i : ∀ σ H Q, t' σ H Q → t σ H Q) : PE X e t' := ⟨fun pins s σ H Q I q => h.run pins s σ H Q I (i σ H Q q)⟩
theorem _root_.L2.PT.weak {X : Cx} {e : Expr} {t t' : TT} (h : PT X e t) (i : ∀ σ H Q, t' σ H Q → t σ H Q) : PT X e t' := ⟨fun pins s σ H Q I q => h.run pins s σ H Q I (i σ H Q q)⟩
theorem _root_.L2.PA.weak {X : Cx} {e : List Expr} {t t' : TA} (h : PA X e t) (i : ∀ σ H Q, t' σ H Q → t σ H Q) : PA X e t' := ⟨fun pos pins s σ H Q I q => h.run pos pins s σ H Q I (i σ H Q q)⟩
theorem _root_.L2.PK.weak {X : Cx} {e : List Keyword} {t t' : TA} (h : PK X e t) (i : ∀ σ H Q, t' σ H Q → t σ H Q) : PK X e t' := ⟨fun pos pins s σ H Q I q => h.run pos pins s σ H Q I (i σ H Q q)⟩
theorem _root_.L2.PS.weak {X : Cx} {e : Stmt} {t t' : TS} (h : PS X e t) (i : ∀ D σ H, t' D σ H → t D σ H) : PS X e t' := ⟨fun pins s σ H Q I q => h.run pins s σ H Q I (i Q σ H q)⟩
theorem _root_.L2.PSs.weak {X : Cx} {e : List Stmt} {t t' : TS} (h : PSs X e t) (i : ∀ D σ H, t' D σ H → t D σ H) : PSs X e t' := ⟨fun pins s σ H Q I q => h.run pins s σ H Q I (i Q σ H q)⟩
theorem _root_.L2.PG.weak {X : Cx} {e : Expr} {t t' : TG} (h : PG X e t) (i : ∀ v σ H Q, t' v σ H Q → t v σ H Q) : PG X e t' := ⟨fun pins s σ H v u Q I r q => h.run pins s σ H v u Q I r (i v σ H Q q)⟩
theorem _root_.L2.PI.weak {X : Cx} {tg e : Expr} {t t' : TI} (h : PI X tg e t) (i : ∀ σ H Q, t' σ H Q → t σ H Q) : PI X tg e t' := ⟨fun pins s σ H R I q => h.run pins s σ H R I (i σ H R q)⟩
section
variable {X : Cx}
def fVar (i : Nat) : EM := fun ρ h => match ρ[i]? with
  | some (some w) => some (w, h)
  | _ => none
theorem dv (i : Nat) {x : Str} {pos : Pos} (h : PE X (.Name x pos) (tVar i)) : DE X (.Name x pos) (fVar i) := h.weak fun σ H Q => by
  rintro ⟨M, h, ρ, r, rs, c⟩
  unfold fVar at c
  split at c
  · rename_i w e
    obtain ⟨v, e1, rv⟩ := rs.2 i w e
    exact ⟨v, e1, c.fin (.refl _ _) r rv⟩
  · obtain ⟨_, _, e, _⟩ := c; cases e
def fC (d : D) : EM := fun _ h => some (.dat d, h)
theorem d_const {e : Expr} {v : V} {d : D} (h : PE X e (tC v)) (q : ∀ M H, RD M H v d) : DE X e (fC d) := h.weak fun σ H Q => by
  rintro ⟨M, h, ρ, r, rs, c⟩
  exact c.fin (.refl _ _) r (q M H)
theorem d_int {i j pos} : DE X (.Constant (.int i) j pos) (fC (.int i)) := d_const pe_int fun _ _ => .int i
theorem d_bl {i j pos} : DE X (.Constant (.bool i) j pos) (fC (.bool i)) := d_const pe_bl fun _ _ => .bl i
theorem d_non {j pos} : DE X (.Constant .none j pos) (fC .none) := d_const pe_non fun _ _ => .non
theorem d_str {i j pos} : DE X (.Constant (.str i) j pos) (fC (.str i)) := d_const pe_str fun _ _ => .str i
def fNil : AM := fun _ h => some ([], h)
def fCons (f : EM) (g : AM) : AM := fun ρ h => obnd (f ρ h) fun w h1 => obnd (g ρ h1) fun ws h2 => some (w :: ws, h2)
theorem da_nil : DA X [] fNil := pa_nil.weak fun σ H Q => by
  rintro ⟨M, h, ρ, r, rs, c⟩
  exact c.fin (.refl _ _) r .nil
theorem cons_imp {f : EM} {g : AM} : ∀ σ H Q, tA (fCons f g) σ H Q → tCons (tE f) (tA g) σ H Q := fun σ H Q => by
  rintro ⟨M, h, ρ, r, rs, c⟩
  obtain ⟨w, h1, e1, c1⟩ := Cont.bind (δ := Unit) c
  refine ⟨M, h, ρ, r, rs, w, h1, e1, fun M1 H1 v x1 r1 v1 => ⟨M1, h1, ρ, r1, rs.mono x1, ?_⟩⟩
  obtain ⟨ws, h2, e2, c2⟩ := Cont.bind (δ := Unit) (c1 M1 H1 x1)
  exact ⟨ws, h2, e2, fun M2 H2 vs x2 r2 v2 => (c2 M2 H2 x2).fin (.refl _ _) r2 (.cons (v1.mono x2) v2)⟩
theorem da_cons {e : Expr} {es : List Expr} {f : EM} {g : AM} (he : DE X e f) (hr : DA X es g) (hs : starEach (e :: es) X.env = (false, eval e X.env) :: starEach es X.env := by rfl) : DA X (e :: es) (fCons f g) :=
  (pa_cons he hr hs).weak cons_imp
theorem dk_nil : DK X [] fNil := pk_nil.weak fun σ H Q => by
  rintro ⟨M, h, ρ, r, rs, c⟩
  exact c.fin (.refl _ _) r .nil
theorem dk_cons {nm : Option Str} {kpos : Pos} {e : Expr} {es : List Keyword} {f : EM} {g : AM} (he : DE X e f) (hr : DK X es g) : DK X (⟨nm, e, kpos⟩ :: es) (fCons f g) :=
  (pk_cons he hr).weak cons_imp
def Sem2 (r : R2) (sem : W → W → Hh → Option (W × Hh)) : Prop := ∀ (M : Mm) (H : Hp) (h : Hh) (x y : V) (wx wy : W) (Q : VK), Rep M H h → RV M H x wx → RV M H y wy → Cont RV (sem wx wy h) M H Q → r x y H Q
def f2 (sem : W → W → Hh → Option (W × Hh)) (f g : EM) : EM := fun ρ h => obnd (f ρ h) fun a h1 => obnd (g ρ h1) fun b h2 => sem a b h2
theorem op_imp {r : R2} {sem : W → W → Hh → Option (W × Hh)} {f g : EM} (hs : Sem2 r sem) : ∀ σ H Q, tE (f2 sem f g) σ H Q → tOp r (tE f) (tE g) σ H Q := fun σ H Q => by
  rintro ⟨M, h, ρ, r, rs, c⟩
  obtain ⟨w, h1, e1, c1⟩ := Cont.bind (δ := Unit) c
  refine ⟨M, h, ρ, r, rs, w, h1, e1, fun M1 H1 v x1 r1 v1 => ⟨M1, h1, ρ, r1, rs.mono x1, ?_⟩⟩
  obtain ⟨w2, h2, e2, c2⟩ := Cont.bind (δ := Unit) (c1 M1 H1 x1)
  exact ⟨w2, h2, e2, fun M2 H2 v2 x2 r2 q2 => hs M2 H2 h2 _ _ w w2 Q r2 (v1.mono x2) q2 (c2 M2 H2 x2)⟩
theorem d_op {a b : Expr} {op : Operator} {pos : Pos} {r : R2} {sem : W → W → Hh → Option (W × Hh)} {f g : EM} (ho : OpR X (binaryOp op) r) (hs : Sem2 r sem) (ha : DE X a f) (hb : DE X b g) : DE X (.BinOp a op b pos) (f2 sem f g) :=
  (pe_op ho ha hb).weak (op_imp hs)
theorem d_cmp {a b : Expr} {op : CmpOp} {pos : Pos} {r : R2} {sem : W → W → Hh → Option (W × Hh)} {f g : EM} (ho : OpR X (compareOp op) r) (hs : Sem2 r sem) (ha : DE X a f) (hb : DE X b g) (hm : behindInMarks op b = false) : DE X (.Compare a [op] [b] pos) (f2 sem f g) :=
  (pe_cmpR ho ha hb hm).weak (op_imp hs)
end
end DL
set_option maxRecDepth 100000
set_option maxHeartbeats 4000000
namespace DL
open PySem PySem.Spec PyProof.Rows L2
variable [HW]
def deref (h : Hh) : W → Option D
  | .dat d => some d
  | .ref n => match h[n]? with
    | some (some (.lst ds)) => some (.list ds)
    | some (some (.dic es)) => some (.dict es)
    | some (some (.dit es)) => some (.dict ((.none, .none) :: es))
    | _ => none
  | .scr _ => none
  | .pack _ => none
  | .lock _ => none
  | .ins _ _ => none
  | .exc _ _ _ => none
@[simp] theorem deref_dat (h : Hh) (d : D) : deref h (.dat d) = some d := rfl
def RR (M : Mm) (H : Hp) (v : V) : D → Prop
  | .list ds => ∃ a xs, v = .ref a ∧ H a = some (.lst xs) ∧ RDs M H xs ds
  | .dict es => (∃ a kvs, v = .ref a ∧ H a = some (.dK kvs) ∧ RDk M H kvs es) ∨ ∃ a kvs es', es = (.none, .none) :: es' ∧ v = .ref a ∧ Rd H a (dtO a kvs) ∧ RDt M H kvs es'
  | d => RD M H v d
theorem RD.rr {M : Mm} {H : Hp} {v : V} : ∀ {d : D}, RD M H v d → RR M H v d
  | .none, r => r
  | .bool _, r => r
  | .int _, r => r
  | .str _, r => r
  | .tuple _, r => r
  | .list _, .lst _ e r => ⟨_, _, rfl, e, r⟩
  | .dict _, .dic _ e r => .inl ⟨_, _, rfl, e, r⟩
  | .dict _, .dit _ e r => .inr ⟨_, _, _, rfl, rfl, .inr ⟨_, e⟩, r⟩
theorem deref_rr {M : Mm} {H : Hp} {h : Hh} {v : V} {w : W} {d : D} (rep : Rep M H h) (r : RV M H v w) (e : deref h w = some d) : RR M H v d := by
  cases w with
  | dat d' => cases e; exact r.rr
  | scr ns => cases e
  | pack its => cases e
  | lock its => cases e
  | ins C fs => cases e
  | exc k C fs => cases e
  | ref n =>
    obtain ⟨a, ea, rfl⟩ := r
    obtain ⟨o, ho, ro⟩ := rep.at_ n a ea
    simp only [deref, ho] at e
    cases o with
    | lst ds => cases e; obtain ⟨xs, h1, h2⟩ := ro; exact ⟨a, xs, rfl, h1, h2⟩
    | dic ds => cases e; obtain ⟨xs, h1, h2⟩ := ro; exact .inl ⟨a, xs, rfl, h1, h2⟩
    | dit ds => cases e; obtain ⟨xs, h1, h2⟩ := ro; exact .inr ⟨a, xs, _, rfl, rfl, .inl h1, h2⟩
    | tab q P => cases e
    | ins C fs => cases e
section
variable {M : Mm} {H : Hp} {h : Hh} {v : V}
theorem rr_int {i : Int} (r : RR M H v (.int i)) : v = .int i := by cases (show RD M H v _ from r); rfl
theorem rr_str {i : Str} (r : RR M H v (.str i)) : v = .str i := by cases (show RD M H v _ from r); rfl
theorem rr_bl {i : Bool} (r : RR M H v (.bool i)) : v = .bl i := by cases (show RD M H v _ from r); rfl
theorem rr_non (r : RR M H v .none) : v = .non := by cases (show RD M H v _ from r); rfl
theorem rr_tup {ds : List D} (r : RR M H v (.tuple ds)) : ∃ a xs, v = .ref a ∧ ¬ M.Has a ∧ TupAt H a xs ds ∧ RDs M H xs ds := by
  cases (show RD M H v _ from r) with
  | tup n e q => exact ⟨_, _, rfl, n, e, q⟩
theorem RDs.get : ∀ {xs : List V} {ds : List D} {i : Nat} {d : D}, RDs M H xs ds → ds[i]? = some d → ∃ v, xs[i]? = some v ∧ RD M H v d
  | _, _, _, _, .nil, e => by simp at e
  | _, _, 0, _, .cons r _, e => by simp at e; subst e; exact ⟨_, rfl, r⟩
  | _, _, i + 1, _, .cons _ t, e => by
    obtain ⟨u, h1, h2⟩ := RDs.get (i := i) t (by simpa using e)
    exact ⟨u, by simpa using h1, h2⟩
theorem RDs.app : ∀ {xs : List V} {ds : List D} {ys : List V} {es : List D}, RDs M H xs ds → RDs M H ys es → RDs M H (xs ++ ys) (ds ++ es)
  | _, _, _, _, .nil, q => q
  | _, _, _, _, .cons r t, q => .cons r (RDs.app t q)
theorem RDs.take : ∀ {xs : List V} {ds : List D} (n : Nat), RDs M H xs ds → RDs M H (xs.take n) (ds.take n)
  | _, _, 0, _ => .nil
  | _, _, _ + 1, .nil => .nil
  | _, _, n + 1, .cons r t => .cons r (RDs.take n t)
theorem RDs.drop : ∀ {xs : List V} {ds : List D} (n : Nat), RDs M H xs ds → RDs M H (xs.drop n) (ds.drop n)
  | _, _, 0, r => r
  | _, _, _ + 1, .nil => .nil
  | _, _, n + 1, .cons _ t => RDs.drop n t
theorem RDs.set : ∀ {xs : List V} {ds : List D} (n : Nat) {v : V} {d : D}, RDs M H xs ds → RD M H v d → RDs M H (xs.set n v) (ds.set n d)
  | _, _, _, _, _, .nil, _ => .nil
  | _, _, 0, _, _, .cons r t, q => .cons q t
  | _, _, n + 1, _, _, .cons r t, q => .cons r (RDs.set n t q)
theorem RDs.erase : ∀ {xs : List V} {ds : List D} (n : Nat), RDs M H xs ds → RDs M H (xs.eraseIdx n) (ds.eraseIdx n)
  | _, _, _, .nil => .nil
  | _, _, 0, .cons r t => t
  | _, _, n + 1, .cons r t => .cons r (RDs.erase n t)
theorem RDs.rep {xs : List V} {ds : List D} (r : RDs M H xs ds) : ∀ k : Nat, RDs M H (List.replicate k xs).flatten (List.replicate k ds).flatten
  | 0 => .nil
  | k + 1 => by rw [List.replicate_succ, List.replicate_succ, List.flatten_cons, List.flatten_cons]; exact RDs.app r (RDs.rep r k)
theorem RDs.atI {xs : List V} {ds : List D} {i : Int} {d : D} (r : RDs M H xs ds) (e : L2.atI ds i = some d) : ∃ v, L2.atI xs i = some v ∧ RD M H v d := by
  unfold L2.atI at e ⊢
  rw [r.length]
  cases q : ixN ds.length i with
  | none => rw [q] at e; cases e
  | some j => rw [q] at e; exact r.get e
end
def mkL (m : Bool) (ds : List D) (h : Hh) : Option (W × Hh) := if m = true then some (.ref h.length, h ++ [some (.lst ds)]) else some (.dat (.list ds), h)
@[simp] theorem mkL_false (ds : List D) (h : Hh) : mkL false ds h = some (.dat (.list ds), h) := rfl
@[simp] theorem mkL_true (ds : List D) (h : Hh) : mkL true ds h = some (.ref h.length, h ++ [some (.lst ds)]) := rfl
theorem mkL_fin {m : Bool} {ds : List D} {h : Hh} {M : Mm} {H : Hp} {Q : VK} {p : Addr} {xs : List V} (rep : Rep M H h) (n : H p = none) (r : RDs M H xs ds) (c : Cont RV (mkL m ds h) M H Q) : Q (.ref p) (upd H p (.lst xs)) := by
  cases m with
  | false => exact c.fin (ext_new n) (rep.upd_new n) (RD.lst (rep.new n) upd_same (r.mono (ext_new n).ext))
  | true => exact c.fin (ext_add n) (rep.add n ⟨xs, upd_same, r.mono (ext_add n).ext⟩) ⟨p, by simp [Mm.more, ← rep.len], rfl⟩
theorem mkT_fin {ds : List D} {h : Hh} {M : Mm} {H : Hp} {Q : VK} {p : Addr} {xs : List V} (rep : Rep M H h) (n : H p = none) (r : RDs M H xs ds) (hd : callD ds = false) (c : Cont RV (some (.dat (.tuple ds), h)) M H Q) : Q (.ref p) (upd H p (.tup xs)) :=
  c.fin (ext_new n) (rep.upd_new n) (RD.tup (rep.new n) (.inl ⟨hd, upd_same⟩) (r.mono (ext_new n).ext))
def bareO (b : Bool) (o : Obj) (xs : List V) : HO := if b = true then .frz o (.tup xs) else .tup xs
theorem mkB_fin {ds : List D} {h : Hh} {M : Mm} {H : Hp} {Q : VK} {p : Addr} {xs : List V} {o : Obj} (rep : Rep M H h) (n : H p = none) (r : RDs M H xs ds) (ho : o.dict = none) (c : Cont RV (some (.dat (.tuple ds), h)) M H Q) : Q (.ref p) (upd H p (bareO (callD ds) o xs)) := by
  cases hd : callD ds with
  | false => exact mkT_fin rep n r hd c
  | true => exact c.fin (ext_new n) (rep.upd_new n) (RD.tup (rep.new n) (.inr ⟨hd, o, ho, upd_same⟩) (r.mono (ext_new n).ext))
theorem bare_ok {P : Program} {w : World} {H : Hp} {h' : Heap} {a : Addr} {xs : List V} {o : Obj} (b : Bool) (e : h'.get? a = some o) (ok : ∀ G, ObjOk P w G h' a (.tup xs)) : ObjOk P w H h' a (bareO b o xs) := by
  cases b with
  | false => exact ok _
  | true => exact ⟨e, ok _⟩
theorem Cont.here {d : D} {h : Hh} {M : Mm} {H : Hp} {Q : VK} {v : V} (c : Cont RV (some (.dat d, h)) M H Q) (rep : Rep M H h) (r : RD M H v d) : Q v H := c.fin (.refl _ _) rep r
theorem Cont.no {α β : Type} {rel : Mm → Hp → β → α → Prop} {M : Mm} {H : Hp} {Q : β → Hp → Prop} (c : Cont rel none M H Q) : False := by obtain ⟨_, _, e, _⟩ := c; cases e
def ok (d : D) (h : Hh) : Option (W × Hh) := some (.dat d, h)
def addW (m : Bool) (x y : W) (h : Hh) : Option (W × Hh) := match deref h x, deref h y with
  | some (.int i), some (.int j) => ok (.int (i + j)) h
  | some (.str a), some (.str b) => if a.length + b.length ≤ sizeLine then ok (.str (a ++ b)) h else none
  | some (.tuple a), some (.tuple b) => if a.length + b.length ≤ sizeLine then ok (.tuple (a ++ b)) h else none
  | some (.list a), some (.list b) => if a.length + b.length ≤ sizeLine then mkL m (a ++ b) h else none
  | _, _ => none
section
variable {X : Cx}
def rCatB (K : PySem.W.Frag) : R2 := fun x y H Q => ∃ a b vs ws, x = .ref a ∧ y = .ref b ∧ SqT K H a vs ∧ SqT K H b ws ∧ vs.length + ws.length ≤ sizeLine ∧
  (vs = [] → Q (.ref b) H) ∧ (vs ≠ [] → ws = [] → Q (.ref a) H) ∧ (vs ≠ [] → ws ≠ [] → ∃ bb : Bool, ∀ p o, H p = none → o.dict = none → Q (.ref p) (upd H p (bareO bb o (vs ++ ws))))
theorem op_catB : OpR X (binaryOp .Add) (rCatB X.K) := by
  rintro pins s σ H x y v u Q I rx ry ⟨a, b, vs, ws, rfl, rfl, ha, hb, hz, f0, f1, f2⟩
  by_cases e : vs = [] ∨ ws = []
  · exact op_catA pins s σ H _ _ v u Q I rx ry ⟨a, b, vs, ws, rfl, rfl, ha, hb, hz, f0, f1, fun n1 n2 => (e.elim n1 n2).elim⟩
  · have n1 : vs ≠ [] := fun z => e (.inl z)
    have n2 : ws ≠ [] := fun z => e (.inr z)
    obtain ⟨bb, f⟩ := f2 n1 n2
    cases rx
    cases ry
    obtain ⟨l1, r1, p1, _⟩ := I.tuple ha
    obtain ⟨l2, r2, p2, _⟩ := I.tuple hb
    apply HT.cat_tup p1 p2 (fun z => n1 (r1.nil_iff.mp z)) (fun z => absurd (r2.nil_iff.mp z) n2)
    · intro _
      refine ⟨.ref s.heap.objs.size, _, I.laid (t' := s.toks) (o := bareO bb _ (vs ++ ws)) (fun _ _ q => Heap.get?_push_of_some _ q) (Nat.le_refl _) (bare_ok bb (Heap.get?_push_size _ rfl) fun G => ⟨?_, _, r1.append r2, IsTup.new _ _⟩), rfl, f _ _ (I.hok.fresh (Nat.le_refl _)) rfl⟩
      rw [List.length_append]
      exact hz
    · rw [← r1.length, ← r2.length]
      exact hz
theorem s_add (m : Bool) : Sem2 (fun x y H Q => rI0 (fun i j => .int (i + j)) x y H Q ∨ (∃ i j, x = .str i ∧ y = .str j ∧ i.length + j.length ≤ sizeLine ∧ Q (.str (i ++ j)) H) ∨ rCatB X.K x y H Q ∨ rCat x y H Q) (addW m) := by
  intro M H h x y wx wy Q rep rx ry c
  unfold addW at c
  split at c
  · rename_i i j h1 h2
    obtain rfl := rr_int (deref_rr rep rx h1)
    obtain rfl := rr_int (deref_rr rep ry h2)
    exact .inl ⟨i, j, rfl, rfl, c.here rep (.int _)⟩
  · rename_i i j h1 h2
    obtain rfl := rr_str (deref_rr rep rx h1)
    obtain rfl := rr_str (deref_rr rep ry h2)
    split at c
    · rename_i hz
      exact .inr (.inl ⟨i, j, rfl, rfl, hz, c.here rep (.str _)⟩)
    · exact c.no.elim
  · rename_i i j h1 h2
    obtain ⟨a, xs, rfl, na, ha, qa⟩ := rr_tup (deref_rr rep rx h1)
    obtain ⟨b, ys, rfl, nb, hb, qb⟩ := rr_tup (deref_rr rep ry h2)
    split at c
    · rename_i hz
      refine .inr (.inr (.inl ⟨a, b, xs, ys, rfl, rfl, .inl ha.rd, .inl hb.rd, by rw [qa.length, qb.length]; exact hz, fun e => ?_, fun _ e => ?_, fun _ _ => ⟨callD (i ++ j), fun p o np ho => ?_⟩⟩))
      · subst e; cases qa
        exact c.here rep (.tup nb hb qb)
      · subst e; cases qb; rw [List.append_nil] at c
        exact c.here rep (.tup na ha qa)
      · exact mkB_fin rep np (qa.app qb) ho c
    · exact c.no.elim
  · rename_i i j h1 h2
    obtain ⟨a, xs, rfl, ha, qa⟩ := deref_rr rep rx h1
    obtain ⟨b, ys, rfl, hb, qb⟩ := deref_rr rep ry h2
    split at c
    · rename_i hz
      exact .inr (.inr (.inr ⟨a, b, xs, ys, rfl, rfl, ha, hb, by rw [qa.length, qb.length]; exact hz, fun p np => mkL_fin rep np (qa.app qb) c⟩))
    · exact c.no.elim
  · exact c.no.elim
theorem d_add (m : Bool) {a b : Expr} {pos : Pos} {f g : EM} (ha : DE X a f) (hb : DE X b g) : DE X (.BinOp a .Add b pos) (f2 (addW m) f g) :=
  d_op (op_add.or (op_add_str.or (op_catB.or op_cat))) (s_add m) ha hb
def intW (C : Int → Int → Bool) (g : Int → Int → Int) (x y : W) (h : Hh) : Option (W × Hh) := match deref h x, deref h y with
  | some (.int i), some (.int j) => if C i j = true then ok (.int (g i j)) h else none
  | _, _ => none
theorem s_int {C : Int → Int → Prop} {Cb : Int → Int → Bool} {g : Int → Int → Int} (hc : ∀ i j, Cb i j = true → C i j) : Sem2 (rI C fun i j => .int (g i j)) (intW Cb g) := by
  intro M H h x y wx wy Q rep rx ry c
  unfold intW at c
  split at c
  · rename_i i j h1 h2
    obtain rfl := rr_int (deref_rr rep rx h1)
    obtain rfl := rr_int (deref_rr rep ry h2)
    split at c
    · rename_i hz
      exact ⟨i, j, rfl, rfl, hc i j hz, c.here rep (.int _)⟩
    · exact c.no.elim
  · exact c.no.elim
def subW := intW (fun _ _ => true) fun i j => i - j
def modW := intW (fun _ j => decide (0 < j)) fun i j => i % j
theorem d_mod {a b : Expr} {pos : Pos} {f g : EM} (ha : DE X a f) (hb : DE X b g) : DE X (.BinOp a .Mod b pos) (f2 modW f g) := d_op op_mod (s_int fun _ _ h => of_decide_eq_true h) ha hb
def divW := intW (fun _ j => decide (0 < j ∧ j < 1073741824)) fun i j => i / j
theorem d_div {a b : Expr} {pos : Pos} {f g : EM} (ha : DE X a f) (hb : DE X b g) : DE X (.BinOp a .FloorDiv b pos) (f2 divW f g) := d_op op_fdiv (s_int fun _ _ h => by simpa [CDiv] using h) ha hb
def powW := intW (fun i j => decide (0 ≤ j ∧ j ≤ 1000000 ∧ i.natAbs < 18446744073709551616)) fun i j => i ^ j.toNat
theorem d_pow {a b : Expr} {pos : Pos} {f g : EM} (ha : DE X a f) (hb : DE X b g) : DE X (.BinOp a .Pow b pos) (f2 powW f g) := d_op op_pow (s_int fun _ _ h => by simpa [CPow] using h) ha hb
def mulW (m : Bool) (x y : W) (h : Hh) : Option (W × Hh) := match deref h x, deref h y with
  | some (.int i), some (.int j) => if ((-18446744073709551616 < i && i < 18446744073709551616) || (-18446744073709551616 < j && j < 18446744073709551616)) = true then ok (.int (i * j)) h else none
  | some (.list a), some (.int k) => if (0 ≤ k && k < 1000000 && a.length * k.toNat ≤ sizeLine) = true then mkL m (List.replicate k.toNat a).flatten h else none
  | _, _ => none
theorem s_mul (m : Bool) : Sem2 (fun x y H Q => rI CMul (fun i j => .int (i * j)) x y H Q ∨ rRep x y H Q) (mulW m) := by
  intro M H h x y wx wy Q rep rx ry c
  unfold mulW at c
  split at c
  · rename_i i j h1 h2
    obtain rfl := rr_int (deref_rr rep rx h1)
    obtain rfl := rr_int (deref_rr rep ry h2)
    split at c
    · rename_i hz
      refine .inl ⟨i, j, rfl, rfl, ?_, c.here rep (.int _)⟩
      simpa [CMul] using hz
    · exact c.no.elim
  · rename_i i j h1 h2
    obtain ⟨a, xs, rfl, ha, qa⟩ := deref_rr rep rx h1
    obtain rfl := rr_int (deref_rr rep ry h2)
    split at c
    · rename_i hz
      simp only [Bool.and_eq_true, decide_eq_true_eq] at hz
      refine .inr ⟨a, j, xs, rfl, rfl, ha, by omega, by omega, by rw [qa.length]; exact hz.2, fun p np => mkL_fin rep np (qa.rep _) c⟩
    · exact c.no.elim
  · exact c.no.elim
theorem d_mul (m : Bool) {a b : Expr} {pos : Pos} {f g : EM} (ha : DE X a f) (hb : DE X b g) : DE X (.BinOp a .Mult b pos) (f2 (mulW m) f g) := d_op (op_mul.or op_rep) (s_mul m) ha hb
def fNeg (f : EM) : EM := fun ρ h => obnd (f ρ h) fun w h1 => match w with
  | .dat (.int i) => ok (.int (-i)) h1
  | _ => none
def bok (b : Bool) (h : Hh) : Option (W × Hh) := some (.dat (.bool b), h)
def ltW (g : Int → Int → Bool) (k : List Nat → List Nat → Bool) (x y : W) (h : Hh) : Option (W × Hh) := match deref h x, deref h y with
  | some (.int i), some (.int j) => bok (g i j) h
  | some (.str i), some (.str j) => bok (k i.cps.toList j.cps.toList) h
  | _, _ => none
theorem s_lt {g : Int → Int → Bool} {k : List Nat → List Nat → Bool} : Sem2 (fun x y H Q => rI0 (fun i j => .bl (g i j)) x y H Q ∨ ∃ i j, x = .str i ∧ y = .str j ∧ Q (.bl (k i.cps.toList j.cps.toList)) H) (ltW g k) := by
  intro M H h x y wx wy Q rep rx ry c
  unfold ltW at c
  split at c
  · rename_i i j h1 h2
    obtain rfl := rr_int (deref_rr rep rx h1)
    obtain rfl := rr_int (deref_rr rep ry h2)
    exact .inl ⟨i, j, rfl, rfl, c.here rep (.bl _)⟩
  · rename_i i j h1 h2
    obtain rfl := rr_str (deref_rr rep rx h1)
    obtain rfl := rr_str (deref_rr rep ry h2)
    exact .inr ⟨i, j, rfl, rfl, c.here rep (.bl _)⟩
  · exact c.no.elim
def lt_W := ltW (fun i j => decide (i < j)) fun i j => decide (i < j)
def gt_W := ltW (fun i j => decide (j < i)) fun i j => decide (j < i)
def le_W := ltW (fun i j => decide (i ≤ j)) fun i j => !decide (j < i)
def ge_W := ltW (fun i j => decide (j ≤ i)) fun i j => !decide (i < j)
theorem d_ge {a b : Expr} {pos : Pos} {f g : EM} (ha : DE X a f) (hb : DE X b g) : DE X (.Compare a [.GtE] [b] pos) (f2 ge_W f g) := d_cmp (op_ge.or op_ge_str) s_lt ha hb (nomark _)
end
mutual
theorem RD.dp {K : PySem.W.Frag} {M : Mm} {H : Hp} : ∀ {v : V} {d : D}, RD M H v d → d.canLay0 = true → Dp K H v d
  | _, _, .non, _ => .non
  | _, _, .bl b, _ => .bl b
  | _, _, .int i, _ => .int i
  | _, _, .str x, _ => .str x
  | _, _, .tup _ e r, h => .tup e.sq (RDs.dp r (by simpa [PyData.canLay0] using h))
  | _, _, .lst _ e r, h => .lst (.of e) (RDs.dp r (by simpa [PyData.canLay0] using h))
  | _, _, .dic _ _ _, h => by simp [PyData.canLay0] at h
  | _, _, .dit _ _ _, h => by simp [PyData.canLay0] at h
theorem RDs.dp {K : PySem.W.Frag} {M : Mm} {H : Hp} : ∀ {v : List V} {d : List D}, RDs M H v d → PyData.canLayAll0 d = true → DpAll K H v d
  | _, _, .nil, _ => .nil
  | _, _, .cons a r, h => by
    simp only [PyData.canLayAll0, Bool.and_eq_true] at h
    exact .cons (RD.dp a h.1) (RDs.dp r h.2)
end
theorem rr_dp {K : PySem.W.Frag} {M : Mm} {H : Hp} {v : V} : ∀ {d : D}, RR M H v d → d.canLay0 = true → Dp K H v d
  | .none, r, h => RD.dp r h
  | .bool _, r, h => RD.dp r h
  | .int _, r, h => RD.dp r h
  | .str _, r, h => RD.dp r h
  | .tuple _, r, h => RD.dp r h
  | .list _, ⟨_, _, e, h1, h2⟩, h => by subst e; exact .lst (.of h1) (h2.dp (by simpa [PyData.canLay0] using h))
  | .dict _, _, h => by simp [PyData.canLay0] at h
def eqS : D → D → Option Bool
  | .int i, .int j => some (decide (i = j))
  | .str i, .str j => some (decide (i = j))
  | .bool i, .bool j => some (decide (i = j))
  | .none, .none => some true
  | .none, .int _ => some false
  | .none, .str _ => some false
  | .none, .bool _ => some false
  | .int _, .none => some false
  | .str _, .none => some false
  | .bool _, .none => some false
  | .int _, .str _ => some false
  | .str _, .int _ => some false
  | .bool _, .str _ => some false
  | .str _, .bool _ => some false
  | _, _ => none
theorem eqS_ok {M : Mm} {H : Hp} {x y : V} {a b : D} {r : Bool} (ra : RR M H x a) (rb : RR M H y b) (e : eqS a b = some r) : scal x y = true ∧ r = decide (x = y) := by
  cases a <;> cases b <;> simp only [eqS, Option.some.injEq, reduceCtorEq] at e <;> subst e <;> cases (show RD M H x _ from ra) <;> cases (show RD M H y _ from rb) <;> simp [scal]
def shp (d : D) : Bool := d.canLay0 && decide (d.depth ≤ 64)
def eqW (neg : Bool) (x y : W) (h : Hh) : Option (W × Hh) := match deref h x, deref h y with
  | some a, some b => match eqS a b with
    | some r => bok (if neg = true then !r else r) h
    | none => if shp a && shp b then bok (if neg = true then !PyData.eqv a b else PyData.eqv a b) h else none
  | _, _ => none
section
variable {X : Cx}
theorem s_eq : Sem2 (fun x y H Q => rEq x y H Q ∨ rEqD X.K x y H Q) (eqW false) := by
  intro M H h x y wx wy Q rep rx ry c
  unfold eqW at c
  split at c
  · rename_i a b h1 h2
    have ra := deref_rr rep rx h1
    have rb := deref_rr rep ry h2
    split at c
    · rename_i r e
      obtain ⟨e1, e2⟩ := eqS_ok ra rb e
      subst e2
      exact .inl ⟨e1, c.here rep (.bl _)⟩
    · split at c
      · rename_i hz
        rw [Bool.and_eq_true] at hz
        exact .inr ⟨a, b, rr_dp ra (SeqAt.canLay_of_shaped hz.1), rr_dp rb (SeqAt.canLay_of_shaped hz.2), hz.1, hz.2, c.here rep (.bl _)⟩
      · exact c.no.elim
  · exact c.no.elim
theorem s_ne : Sem2 (fun x y H Q => rNe x y H Q ∨ rNeD X.K x y H Q) (eqW true) := by
  intro M H h x y wx wy Q rep rx ry c
  unfold eqW at c
  split at c
  · rename_i a b h1 h2
    have ra := deref_rr rep rx h1
    have rb := deref_rr rep ry h2
    split at c
    · rename_i r e
      obtain ⟨e1, e2⟩ := eqS_ok ra rb e
      subst e2
      exact .inl ⟨e1, c.here rep (.bl _)⟩
    · split at c
      · rename_i hz
        rw [Bool.and_eq_true] at hz
        exact .inr ⟨a, b, rr_dp ra (SeqAt.canLay_of_shaped hz.1), rr_dp rb (SeqAt.canLay_of_shaped hz.2), hz.1, hz.2, c.here rep (.bl _)⟩
      · exact c.no.elim
  · exact c.no.elim
theorem d_eq {k : Nat} (hr : Room k X.A) {a b : Expr} {pos : Pos} {f g : EM} (ha : DE X a f) (hb : DE X b g) : DE X (.Compare a [.Eq] [b] pos) (f2 (eqW false) f g) := d_cmp (op_eq.or (op_eqD hr.units)) s_eq ha hb (nomark _)
def isW (neg : Bool) (x y : W) (h : Hh) : Option (W × Hh) := match x, y with
  | .dat (.bool a), .dat (.bool b) => bok (if neg = true then !decide (a = b) else decide (a = b)) h
  | .dat .none, .dat .none => bok (!neg) h
  | _, .dat .none => bok neg h
  | _, _ => none
theorem rv_non {M : Mm} {H : Hp} {w : W} (r : RV M H .non w) : w = .dat .none := by
  cases w with
  | dat d => cases (show RD M H _ d from r); rfl
  | ref n => obtain ⟨_, _, e⟩ := r; cases e
  | scr n => obtain ⟨_, _, e, _⟩ := r; cases e
  | pack its => obtain ⟨_, _, e, _⟩ := r; cases e
  | lock its => obtain ⟨_, _, _, e, _⟩ := r; cases e
  | ins C fs => obtain ⟨_, _, _, e, _⟩ := r; cases e
  | exc k C fs => obtain ⟨_, _, _, e, _⟩ := r; cases e
theorem s_is : Sem2 (fun x y H Q => (y = .non ∧ Q (.bl (decide (x = .non))) H) ∨ ∃ a b, x = .bl a ∧ y = .bl b ∧ Q (.bl (decide (a = b))) H) (isW false) := by
  intro M H h x y wx wy Q rep rx ry c
  unfold isW at c
  split at c
  · cases (show RD M H _ _ from rx); cases (show RD M H _ _ from ry)
    exact .inr ⟨_, _, rfl, rfl, c.here rep (.bl _)⟩
  · cases (show RD M H _ _ from rx); cases (show RD M H _ _ from ry)
    exact .inl ⟨rfl, c.here rep (.bl _)⟩
  · rename_i hn
    cases (show RD M H _ _ from ry)
    refine .inl ⟨rfl, ?_⟩
    have e : decide (x = V.non) = false := decide_eq_false fun z => by subst z; exact hn (rv_non rx)
    rw [e]
    exact c.here rep (.bl _)
  · exact c.no.elim
theorem d_is {a b : Expr} {pos : Pos} {f g : EM} (ha : DE X a f) (hb : DE X b g) : DE X (.Compare a [.Is] [b] pos) (f2 (isW false) f g) := d_cmp (op_isN.or op_is_bl) s_is ha hb (nomark _)
def fB (f : EM) : BM := fun ρ h => obnd (f ρ h) fun w h1 => match w with
  | .dat (.bool b) => some (b, h1)
  | _ => none
theorem test_imp {f : EM} : ∀ σ H Q, tT (fB f) σ H Q → tTest (tE f) σ H Q := fun σ H Q => by
  rintro ⟨M, h, ρ, r, rs, c⟩
  obtain ⟨w, h1, e1, c1⟩ := Cont.bind (δ := Unit) c
  refine ⟨M, h, ρ, r, rs, w, h1, e1, fun M1 H1 v x1 r1 v1 => ?_⟩
  have c2 := c1 M1 H1 x1
  split at c2
  · cases v1; exact ⟨_, rfl, c2.fin (.refl _ _) r1 rfl⟩
  · exact c2.no.elim
theorem dt_val {e : Expr} {f : EM} (h : DE X e f) (he : ∀ whole, isTrue e X.env whole = (do let v ← whole; standAt e.pos; holding [v] (truthy v)) := by intro _; rfl) : DT X e (fB f) := (pt_val h he).weak test_imp
theorem dt_of_cmp {a b : Expr} {op : CmpOp} {pos : Pos} {r : R2} {sem : W → W → Hh → Option (W × Hh)} {f g : EM} (ho : OpR X (compareOp op) r) (hs : Sem2 r sem) (ha : DE X a f) (hb : DE X b g) (hm : behindInMarks op b = false) : DT X (.Compare a [op] [b] pos) (fB (f2 sem f g)) :=
  (pt_cmpR ho ha hb hm).weak fun σ H Q q => by
    obtain ⟨M, h, ρ, r, rs, c⟩ := q
    obtain ⟨w, h1, e1, c1⟩ := Cont.bind (δ := Unit) c
    refine op_imp hs σ H _ ⟨M, h, ρ, r, rs, w, h1, e1, fun M1 H1 v x1 r1 v1 => ?_⟩
    have c2 := c1 M1 H1 x1
    split at c2
    · cases v1; exact ⟨_, rfl, c2.fin (.refl _ _) r1 rfl⟩
    · exact c2.no.elim
theorem t_lt {a b : Expr} {pos : Pos} {f g : EM} (ha : DE X a f) (hb : DE X b g) : DT X (.Compare a [.Lt] [b] pos) (fB (f2 lt_W f g)) := dt_of_cmp (op_lt.or op_lt_str) s_lt ha hb (nomark _)
theorem t_gt {a b : Expr} {pos : Pos} {f g : EM} (ha : DE X a f) (hb : DE X b g) : DT X (.Compare a [.Gt] [b] pos) (fB (f2 gt_W f g)) := dt_of_cmp (op_gt.or op_gt_str) s_lt ha hb (nomark _)
theorem t_eq {k : Nat} (hr : Room k X.A) {a b : Expr} {pos : Pos} {f g : EM} (ha : DE X a f) (hb : DE X b g) : DT X (.Compare a [.Eq] [b] pos) (fB (f2 (eqW false) f g)) := dt_of_cmp (op_eq.or (op_eqD hr.units)) s_eq ha hb (nomark _)
theorem t_ne {k : Nat} (hr : Room k X.A) {a b : Expr} {pos : Pos} {f g : EM} (ha : DE X a f) (hb : DE X b g) : DT X (.Compare a [.NotEq] [b] pos) (fB (f2 (eqW true) f g)) := dt_of_cmp (op_ne.or (op_neD hr.units)) s_ne ha hb (nomark _)
theorem t_is {a b : Expr} {pos : Pos} {f g : EM} (ha : DE X a f) (hb : DE X b g) : DT X (.Compare a [.Is] [b] pos) (fB (f2 (isW false) f g)) := dt_of_cmp (op_isN.or op_is_bl) s_is ha hb (nomark _)
def bAnd (f g : BM) : BM := fun ρ h => obnd (f ρ h) fun b h1 => if b = true then g ρ h1 else some (false, h1)
def bOr (f g : BM) : BM := fun ρ h => obnd (f ρ h) fun b h1 => if b = true then some (true, h1) else g ρ h1
def bNot (f : BM) : BM := fun ρ h => obnd (f ρ h) fun b h1 => some (!b, h1)
abbrev DW (X : Cx) (e : Expr) (f : BM) : Prop := PW X e (tT f)
theorem _root_.L2.PW.weak {X : Cx} {e : Expr} {t t' : TT} (h : PW X e t) (i : ∀ σ H Q, t' σ H Q → t σ H Q) : PW X e t' := ⟨fun wh pins s σ H Q I q => h.run wh pins s σ H Q I (i σ H Q q)⟩
theorem dw_or1 {a : Expr} {pos : Pos} {f : BM} (ha : DT X a f) : DW X (.BoolOp .Or [a] pos) f := pw_or1 ha
theorem dw_or {a b : Expr} {rest : List Expr} {pos : Pos} {f g : BM} (ha : DT X a f) (hb : DW X (.BoolOp .Or (b :: rest) pos) g) : DW X (.BoolOp .Or (a :: b :: rest) pos) (bOr f g) := (pw_or ha hb).weak fun σ H Q => by
  rintro ⟨M, h, ρ, r, rs, c⟩
  obtain ⟨w, h1, e1, c1⟩ := Cont.bind (δ := Unit) c
  refine ⟨M, h, ρ, r, rs, w, h1, e1, fun M1 H1 v x1 r1 v1 => ?_⟩
  subst v1
  have c2 := c1 M1 H1 x1
  cases v with
  | true => exact iteT (c2.fin (.refl _ _) r1 rfl)
  | false => exact iteF ⟨M1, h1, ρ, r1, rs.mono x1, c2⟩
theorem dt_not {a : Expr} {pos : Pos} {f : BM} (ha : DT X a f) : DT X (.UnaryOp .Not a pos) (bNot f) := (pt_not ha).weak fun σ H Q => by
  rintro ⟨M, h, ρ, r, rs, c⟩
  obtain ⟨w, h1, e1, c1⟩ := Cont.bind (δ := Unit) c
  refine ⟨M, h, ρ, r, rs, w, h1, e1, fun M1 H1 v x1 r1 v1 => ?_⟩
  subst v1
  exact (c1 M1 H1 x1).fin (.refl _ _) r1 rfl
def fAnd (f g : EM) : EM := fun ρ h => obnd (f ρ h) fun w h1 => match w with
  | .dat (.bool true) => g ρ h1
  | .dat (.bool false) => bok false h1
  | _ => none
def fOr (f g : EM) : EM := fun ρ h => obnd (f ρ h) fun w h1 => match w with
  | .dat (.bool true) => bok true h1
  | .dat (.bool false) => g ρ h1
  | _ => none
def fNot (f : EM) : EM := fun ρ h => obnd (f ρ h) fun w h1 => match w with
  | .dat (.bool b) => bok (!b) h1
  | _ => none
theorem d_one {op} {a : Expr} {pos : Pos} {f : EM} (ha : DE X a f) : DE X (.BoolOp op [a] pos) f := pe_one ha
theorem d_and {a b : Expr} {rest : List Expr} {pos : Pos} {f g : EM} (ha : DE X a f) (hb : DE X (.BoolOp .And (b :: rest) pos) g) : DE X (.BoolOp .And (a :: b :: rest) pos) (fAnd f g) := (pe_and ha hb).weak fun σ H Q => by
  rintro ⟨M, h, ρ, r, rs, c⟩
  obtain ⟨w, h1, e1, c1⟩ := Cont.bind (δ := Unit) c
  refine ⟨M, h, ρ, r, rs, w, h1, e1, fun M1 H1 v x1 r1 v1 => ?_⟩
  have c2 := c1 M1 H1 x1
  split at c2
  · cases v1; exact ⟨true, rfl, iteT ⟨M1, h1, ρ, r1, rs.mono x1, c2⟩⟩
  · cases v1; exact ⟨false, rfl, iteF (c2.here r1 (.bl _))⟩
  · exact c2.no.elim
def fIf (t : BM) (f g : EM) : EM := fun ρ h => obnd (t ρ h) fun b h1 => if b = true then f ρ h1 else g ρ h1
theorem d_if {c a b : Expr} {pos : Pos} {t : BM} {f g : EM} (hc : DT X c t) (ha : DE X a f) (hb : DE X b g) : DE X (.IfExp c a b pos) (fIf t f g) := (pe_ifExp hc ha hb).weak fun σ H Q => by
  rintro ⟨M, h, ρ, r, rs, c⟩
  obtain ⟨w, h1, e1, c1⟩ := Cont.bind (δ := Unit) c
  refine ⟨M, h, ρ, r, rs, w, h1, e1, fun M1 H1 v x1 r1 v1 => ?_⟩
  subst v1
  have c2 := c1 M1 H1 x1
  cases v with
  | true => exact iteT ⟨M1, h1, ρ, r1, rs.mono x1, c2⟩
  | false => exact iteF ⟨M1, h1, ρ, r1, rs.mono x1, c2⟩
def fChain (s1 s2 : W → W → Hh → Option (W × Hh)) (f g k : EM) : EM := fun ρ h => obnd (f ρ h) fun a h1 => obnd (g ρ h1) fun b h2 => obnd (s1 a b h2) fun z h3 => match z with
  | .dat (.bool true) => obnd (k ρ h3) fun d h4 => s2 b d h4
  | .dat (.bool false) => bok false h3
  | _ => none
theorem chain_imp {r1 r2 : R2} {s1 s2 : W → W → Hh → Option (W × Hh)} {f g k : EM} (hs1 : Sem2 r1 s1) (hs2 : Sem2 r2 s2) : ∀ σ H Q, tE (fChain s1 s2 f g k) σ H Q → tChain r1 r2 (tE f) (tE g) (tE k) σ H Q := fun σ H Q => by
  rintro ⟨M, h, ρ, r, rs, c⟩
  obtain ⟨w, h1, e1, c1⟩ := Cont.bind (δ := Unit) c
  refine ⟨M, h, ρ, r, rs, w, h1, e1, fun M1 H1 v x1 r1 v1 => ⟨M1, h1, ρ, r1, rs.mono x1, ?_⟩⟩
  obtain ⟨w2, h2, e2, c2⟩ := Cont.bind (δ := Unit) (c1 M1 H1 x1)
  refine ⟨w2, h2, e2, fun M2 H2 v2 x2 r2 q2 => hs1 M2 H2 h2 _ _ w w2 _ r2 (v1.mono x2) q2 ?_⟩
  obtain ⟨w3, h3, e3, c3⟩ := Cont.bind (δ := Unit) (c2 M2 H2 x2)
  refine ⟨w3, h3, e3, fun M3 H3 v3 x3 r3 q3 => ?_⟩
  have c4 := c3 M3 H3 x3
  split at c4
  · cases q3
    refine ⟨true, rfl, iteT ⟨M3, h3, ρ, r3, ((rs.mono x1).mono x2).mono x3, ?_⟩⟩
    obtain ⟨w5, h5, e5, c5⟩ := Cont.bind (δ := Unit) c4
    exact ⟨w5, h5, e5, fun M5 H5 v5 x5 r5 q5 => hs2 M5 H5 h5 _ _ w2 w5 _ r5 ((q2.mono x3).mono x5) q5 (c5 M5 H5 x5)⟩
  · cases q3
    exact ⟨false, rfl, iteF (c4.here r3 (.bl _))⟩
  · exact c4.no.elim
theorem d_chain {a b c : Expr} {op op' : CmpOp} {pos : Pos} {r1 r2 : R2} {s1 s2 : W → W → Hh → Option (W × Hh)} {f g k : EM} (h1 : OpR X (compareOp op) r1) (hs1 : Sem2 r1 s1) (h2 : OpR X (compareOp op') r2) (hs2 : Sem2 r2 s2) (ha : DE X a f) (hb : DE X b g) (hc : DE X c k)
    (hm : lastMarks [op, op'] [b, c] = false := by with_unfolding_all rfl) : DE X (.Compare a [op, op'] [b, c] pos) (fChain s1 s2 f g k) := (pe_chain h1 h2 ha hb hc hm).weak (chain_imp hs1 hs2)
end
end DL
set_option maxRecDepth 100000
set_option maxHeartbeats 4000000
namespace DL
open PySem PySem.Spec PyProof.Rows L2
variable [HW]
def dKey : D → Option Key
  | .int i => some (.inl i)
  | .str s => some (.inr s)
  | _ => none
def dKeys : List D → Option (List Key)
  | [] => some []
  | d :: ds => match dKey d, dKeys ds with
    | some k, some ks => some (k :: ks)
    | _, _ => none
def tKey : D → Option (List Key)
  | .tuple ds => dKeys ds
  | _ => none
def getK (es : List (D × D)) (k : Key) : Option D := (es.find? fun e => decide (dKey e.1 = some k)).map (·.2)
def getT (es : List (D × D)) (k : List Key) : Option D := (es.find? fun e => decide (tKey e.1 = some k)).map (·.2)
def isT : List (D × D) → Bool
  | (.none, .none) :: _ => true
  | _ => false
def bareK : D → Bool
  | .tuple ds => pairD ds
  | _ => false
def getD (es : List (D × D)) (k : D) : Option (Option D) := if isT es = true then (if bareK k = true then none else (tKey k).map (getT es.tail)) else (dKey k).map (getK es)
theorem dKey_kP (k : Key) : dKey (kP k) = some k := by cases k <;> rfl
theorem dKeys_kP : ∀ ks : List Key, dKeys (ks.map kP) = some ks
  | [] => rfl
  | k :: ks => by simp only [List.map_cons, dKeys, dKey_kP, dKeys_kP ks]
theorem kP_dKey {d : D} {k : Key} (e : dKey d = some k) : d = kP k := by
  cases d <;> simp only [dKey, Option.some.injEq, reduceCtorEq] at e <;> subst e <;> rfl
theorem kP_dKeys : ∀ {ds : List D} {ks : List Key}, dKeys ds = some ks → ds = ks.map kP
  | [], ks, e => by cases e; rfl
  | d :: ds, ks, e => by
    simp only [dKeys] at e
    split at e
    · rename_i k ks' h1 h2
      cases e
      rw [List.map_cons, ← kP_dKey h1, ← kP_dKeys h2]
    · cases e
section
variable {M : Mm} {H : Hp}
theorem rd_kP {v : V} {k : Key} (r : RD M H v (kP k)) : v = kV k := by
  cases k <;> (cases r; rfl)
theorem rds_kP : ∀ {vs : List V} {ks : List Key}, RDs M H vs (ks.map kP) → vs = ks.map kV
  | _, [], r => by cases r; rfl
  | _, k :: ks, r => by
    cases r with
    | cons a t => rw [List.map_cons, ← rd_kP a, ← rds_kP t]
def RDo (M : Mm) (H : Hp) : Option V → Option D → Prop
  | some v, some d => RD M H v d
  | none, none => True
  | _, _ => False
theorem RDk.val (k : Key) : ∀ {kvs : List (Key × V)} {es : List (D × D)}, RDk M H kvs es → RDo M H (valV kvs k) (getK es k)
  | _, _, .nil => trivial
  | _, _, .cons (k := j) r t => by
    by_cases e : j = k
    · subst e
      rw [valV_pos rfl]
      unfold getK
      simp only [List.find?_cons, dKey_kP, decide_true, Option.map_some]
      exact r
    · rw [valV_neg e]
      have ih := RDk.val k t
      unfold getK at ih ⊢
      simp only [List.find?_cons, dKey_kP, Option.some.injEq, e, decide_false]
      exact ih
theorem RDt.val (k : List Key) : ∀ {kvs : List KA} {es : List (D × D)}, RDt M H kvs es → RDo M H (valA kvs k) (getT es k)
  | _, _, .nil => trivial
  | _, _, .cons (k := j) _ _ r t => by
    have ih := RDt.val k t
    unfold getT valA atA at ih ⊢
    by_cases e : j = k
    · subst e
      simp only [List.find?_cons, tKey, dKeys_kP, decide_true, Option.map_some]
      exact r
    · simp only [List.find?_cons, tKey, dKeys_kP, Option.some.injEq, e, decide_false]
      exact ih
theorem isT_rdk : ∀ {kvs : List (Key × V)} {es : List (D × D)}, RDk M H kvs es → isT es = false
  | _, _, .nil => rfl
  | _, _, .cons (k := k) r t => by cases k <;> rfl
theorem get_ok {x y : V} {es : List (D × D)} {k : D} {o : Option D} (rx : RR M H x (.dict es)) (ry : RD M H y k) (e : getD es k = some o) : ∃ a ov, x = .ref a ∧ DGetX H a y ov ∧ RDo M H ov o := by
  rcases rx with ⟨a, kvs, rfl, ha, r⟩ | ⟨a, kvs, es', rfl, rfl, ha, r⟩
  · unfold getD at e
    rw [isT_rdk r] at e
    simp only [Bool.false_eq_true, if_false, Option.map_eq_some_iff] at e
    obtain ⟨k', e1, e2⟩ := e
    have := kP_dKey e1
    subst this
    rw [rd_kP ry]
    exact ⟨a, _, rfl, .inl (DGet.k ha), e2 ▸ r.val k'⟩
  · unfold getD at e
    simp only [isT, if_true] at e
    split at e
    · cases e
    simp only [Option.map_eq_some_iff, List.tail_cons] at e
    obtain ⟨k', e1, e2⟩ := e
    cases k with
    | tuple ds =>
      have := kP_dKeys (show dKeys ds = some k' from e1)
      subst this
      cases ry with
      | tup _ hb rb =>
        rw [rds_kP rb] at hb
        exact ⟨a, _, rfl, .inr ⟨_, _, _, ha, r.kx, rfl, hb.rd, rfl⟩, e2 ▸ r.val k'⟩
    | _ => cases e1
end
def idxW (x y : W) (h : Hh) : Option (W × Hh) := match x, y with
  | .scr ns, .dat (.int i) => match atI ns i with
    | some n => ok (.int n) h
    | none => none
  | x, .dat k => match deref h x, k with
    | some (.list ds), .int i => match atI ds i with
      | some d => ok d h
      | none => none
    | some (.tuple ds), .int i => match atI ds i with
      | some d => ok d h
      | none => none
    | some (.str z), .int i => if z.length ≤ sizeLine then match atI z.cps.toList i with
        | some c => ok (.str ⟨#[c]⟩) h
        | none => none
      else none
    | some (.dict es), k => match getD es k with
      | some (some d) => ok d h
      | _ => none
    | _, _ => none
  | _, _ => none
section
variable {X : Cx}
def rIxDict : R2 := fun x y H Q => ∃ a v, x = .ref a ∧ DGetX H a y (some v) ∧ Q v H
theorem ix_dict (hu : X.A.units + 1 < cLine) (W : HWX X) : IxR X rIxDict := by
  intro value slice pins s σ H x y v u Q I rx ry q hs
  obtain ⟨a, z, rfl, g, q⟩ := q
  obtain rfl : v = Value.ref a := rx
  have tis := dx_typeIs W I g
  unfold subscriptTail
  refine wpAny_bind ?_
  rw [getitemInPython_of_ne tis.not_modules]
  refine wpAny_bind (wpAny_specialOf tis F.slot_dict_getitem.lookup ?_)
  have gi := dx_getItem (A := X.A) (E := X.xe) hu W I g ry fun w' s3 I3 rw' => (⟨z, H, I3, rw', q⟩ : EP X pins σ Q w' s3)
  have done : wpAny (model X.prog X.w) X.A (subscripted slice false (.ref a) u) (fun r s₃ => wpAny (model X.prog X.w) X.A (letTemporaryGo value (.ref a) r >>= fun _ => pure r) (EP X pins σ Q) X.xe s₃) X.xe s := by
    rw [hs]; exact wpAny_operating (wpAny_mono gi (fun r s₃ k => wpAny_bind (wpAny_letTemporaryGo (wpAny_pure k))) fun _ _ k => k)
  first | exact wpAny_pure (wpAny_bind done) | exact wpAny_bind (wpAny_pure (wpAny_bind done)) | exact wpAny_bind done
theorem scr_atI {ns : List Int} {i : Int} {n : Int} (e : atI ns i = some n) : atI (ns.map V.int) i = some (.int n) := by
  unfold atI at e ⊢
  rw [List.length_map]
  cases q : ixN ns.length i with
  | none => rw [q] at e; cases e
  | some j => rw [q] at e; simp only [Option.bind_some] at e ⊢; rw [List.getElem?_map, e]; rfl
theorem s_idx : Sem2 (fun x y H Q => rIx X.K x y H Q ∨ rIxDict x y H Q) idxW := by
  intro M H h x y wx wy Q rep rx ry c
  unfold idxW at c
  split at c
  · rename_i ns i
    obtain ⟨a, o, rfl, _, ha⟩ := rx
    cases (show RD M H _ _ from ry)
    split at c
    · rename_i n e
      exact .inl (.inl ⟨a, _, i, _, rfl, rfl, .inl (.inr ⟨o, ha⟩), scr_atI e, c.here rep (.int _)⟩)
    · exact c.no.elim
  · split at c
    · rename_i ds i e1 hn
      obtain ⟨a, xs, rfl, ha, qa⟩ := deref_rr rep rx e1
      cases (show RD M H _ _ from ry)
      split at c
      · rename_i d e
        obtain ⟨v, ev, rv⟩ := qa.atI e
        exact .inl (.inl ⟨a, _, i, v, rfl, rfl, .of ha, ev, c.here rep rv⟩)
      · exact c.no.elim
    · rename_i ds i e1 hn
      obtain ⟨a, xs, rfl, _, ha, qa⟩ := rr_tup (deref_rr rep rx e1)
      cases (show RD M H _ _ from ry)
      split at c
      · rename_i d e
        obtain ⟨v, ev, rv⟩ := qa.atI e
        exact .inl (.inr (.inl ⟨a, _, i, v, rfl, rfl, ha.sq, ev, c.here rep rv⟩))
      · exact c.no.elim
    · rename_i z i e1 hn
      obtain rfl := rr_str (deref_rr rep rx e1)
      cases (show RD M H _ _ from ry)
      split at c
      · rename_i hz
        split at c
        · rename_i d e
          exact .inl (.inr (.inr ⟨z, i, d, rfl, rfl, hz, e, c.here rep (.str _)⟩))
        · exact c.no.elim
      · exact c.no.elim
    · rename_i es e1 hn
      split at c
      · rename_i d e
        obtain ⟨a, ov, rfl, g, ro⟩ := get_ok (deref_rr rep rx e1) ry e
        cases ov with
        | none => exact ro.elim
        | some v => exact .inr ⟨a, v, rfl, g, c.here rep ro⟩
      · exact c.no.elim
    · exact c.no.elim
  · exact c.no.elim
theorem d_idx {k : Nat} (hr : Room k X.A) {a b : Expr} {pos : Pos} {f g : EM} (ha : DE X a f) (hb : DE X b g) (hs : PlainIx b) (W : HWX X := by exact ⟨rfl, rfl⟩) : DE X (.Subscript a b pos) (f2 idxW f g) :=
  (pe_ix (ix_seq.or (ix_dict (hu_of hr) W)) ha hb hs).weak (op_imp s_idx)
def cutG {α : Type} (xs : List α) (lo hi : Option Int) : List α := (xs.drop (HT.sIx xs.length 0 lo)).take (HT.sIx xs.length xs.length hi - HT.sIx xs.length 0 lo)
theorem RDs.cut {M : Mm} {H : Hp} {xs : List V} {ds : List D} (r : RDs M H xs ds) (lo hi : Option Int) : RDs M H (cutV xs lo hi) (cutG ds lo hi) := by
  unfold cutV cutG
  rw [r.length]
  exact (r.drop _).take _
def oNone : OM := fun _ h => some (none, h)
def oSome (f : EM) : OM := fun ρ h => obnd (f ρ h) fun w h1 => match w with
  | .dat (.int i) => some (some i, h1)
  | _ => none
abbrev DO (X : Cx) (e : Option Expr) (f : OM) : Prop := PO X e (tO f)
theorem _root_.L2.PO.weak {X : Cx} {e : Option Expr} {t t' : TO} (h : PO X e t) (i : ∀ σ H Q, t' σ H Q → t σ H Q) : PO X e t' := ⟨fun pins s σ H Q I q => h.run pins s σ H Q I (i σ H Q q)⟩
theorem do_none : DO X none oNone := po_none.weak fun σ H Q => by
  rintro ⟨M, h, ρ, r, rs, c⟩
  exact c.fin (.refl _ _) r rfl
theorem do_some {e : Expr} {f : EM} (he : DE X e f) : DO X (some e) (oSome f) := (po_some he).weak fun σ H Q => by
  rintro ⟨M, h, ρ, r, rs, c⟩
  obtain ⟨w, h1, e1, c1⟩ := Cont.bind (δ := Unit) c
  refine ⟨M, h, ρ, r, rs, w, h1, e1, fun M1 H1 v x1 r1 v1 => ?_⟩
  have c2 := c1 M1 H1 x1
  split at c2
  · cases v1; exact ⟨_, rfl, c2.fin (.refl _ _) r1 rfl⟩
  · exact c2.no.elim
def cutW (m : Bool) (x : W) (lo hi : Option Int) (h : Hh) : Option (W × Hh) := match x with
  | .scr ns => mkL m ((cutG ns lo hi).map .int) h
  | x => match deref h x with
    | some (.list ds) => mkL m (cutG ds lo hi) h
    | some (.tuple ds) => ok (.tuple (cutG ds lo hi)) h
    | some (.str z) => if z.length ≤ sizeLine then ok (.str (cutS z lo hi)) h else none
    | _ => none
def fSl (m : Bool) (f : EM) (lo hi : OM) : EM := fun ρ h => obnd (f ρ h) fun w h1 => obnd (lo ρ h1) fun a h2 => obnd (hi ρ h2) fun b h3 => cutW m w a b h3
theorem cut_ints (ns : List Int) (lo hi : Option Int) {M : Mm} {H : Hp} : RDs M H (cutV (ns.map V.int) lo hi) ((cutG ns lo hi).map .int) := by
  have e : cutV (ns.map V.int) lo hi = (cutG ns lo hi).map V.int := by
    unfold cutV cutG
    rw [List.length_map, List.map_take, List.map_drop]
  rw [e]
  generalize cutG ns lo hi = l
  induction l with
  | nil => exact .nil
  | cons a t ih => exact .cons (.int a) ih
theorem cut_whole {α : Type} {xs : List α} {lo hi : Option Int} (e : HT.sIx xs.length 0 lo = 0 ∧ HT.sIx xs.length xs.length hi = xs.length) : cutG xs lo hi = xs := by
  unfold cutG
  rw [e.1, e.2]
  simp
def rSlB (K : PySem.W.Frag) : V → Option Int → Option Int → Hp → VK → Prop := fun x lo hi H Q => ∃ a vs, x = .ref a ∧ SqT K H a vs ∧
  ((HT.sIx vs.length 0 lo = 0 ∧ HT.sIx vs.length vs.length hi = vs.length → Q (.ref a) H) ∧ ∃ bb : Bool, ∀ p o, H p = none → o.dict = none → Q (.ref p) (upd H p (bareO bb o (cutV vs lo hi))))
theorem sl_tupB : SlR X (rSlB X.K) := by
  rintro pins s σ H x v vl vu lo hi sl Q I rx hs pl pu ⟨a, vs, rfl, hx, f1, bb, f2⟩
  by_cases hw : HT.sIx vs.length 0 lo = 0 ∧ HT.sIx vs.length vs.length hi = vs.length
  · exact sl_tupA pins s σ H _ v vl vu lo hi sl Q I rx hs pl pu ⟨a, vs, rfl, hx, f1, fun n => absurd hw n⟩
  · cases rx
    obtain ⟨l, r, ht, hz⟩ := I.tuple hx
    have hn : l.toArray.size = vs.length := by rw [List.size_toArray, r.length]
    refine ⟨"tuple", _, PyProof.Rows.slot_tuple_getitem.lookup, ht.typeIs, HT.getItem_tuple_cut ht hs pl pu (by rwa [hn]) ?_ (by rwa [hn])⟩
    rw [hn]
    exact ⟨.ref s.heap.objs.size, _, I.laid (t' := s.toks) (o := bareO bb _ (cutV vs lo hi)) (fun _ _ q => Heap.get?_push_of_some _ q) (Nat.le_refl _)
      (bare_ok bb (Heap.get?_push_size _ rfl) fun G => ⟨Nat.le_trans (cutV_length vs lo hi) hz, _, (r.drop _).take _, IsTup.new _ _⟩), rfl, f2 _ _ (I.hok.fresh (Nat.le_refl _)) rfl⟩
theorem d_slice (m : Bool) {a : Expr} {lo hi : Option Expr} {p2 pos : Pos} {f : EM} {fl fh : OM} (ha : DE X a f) (hl : DO X lo fl) (hh : DO X hi fh) : DE X (.Subscript a (.Slice lo hi none p2) pos) (fSl m f fl fh) :=
  (pe_slice (sl_list.or (sl_tupB.or sl_str)) ha hl hh).weak fun σ H Q => by
    rintro ⟨M, h, ρ, r, rs, c⟩
    obtain ⟨w, h1, e1, c1⟩ := Cont.bind (δ := Unit) c
    refine ⟨M, h, ρ, r, rs, w, h1, e1, fun M1 H1 v x1 r1 v1 => ⟨M1, h1, ρ, r1, rs.mono x1, ?_⟩⟩
    obtain ⟨w2, h2, e2, c2⟩ := Cont.bind (δ := Unit) (c1 M1 H1 x1)
    refine ⟨w2, h2, e2, fun M2 H2 v2 x2 r2 q2 => ⟨M2, h2, ρ, r2, (rs.mono x1).mono x2, ?_⟩⟩
    subst q2
    obtain ⟨w3, h3, e3, c3⟩ := Cont.bind (δ := Unit) (c2 M2 H2 x2)
    refine ⟨w3, h3, e3, fun M3 H3 v3 x3 r3 q3 => ?_⟩
    subst q3
    have c4 := c3 M3 H3 x3
    have v3' := (v1.mono x2).mono x3
    unfold cutW at c4
    split at c4
    · obtain ⟨b, o, rfl, _, hb⟩ := v3'
      exact .inl ⟨b, _, rfl, .inl (.inr ⟨o, hb⟩), fun p np => mkL_fin r3 np (cut_ints _ _ _) c4⟩
    · split at c4
      · rename_i ds e4
        obtain ⟨b, xs, rfl, hb, qb⟩ := deref_rr r3 v3' e4
        exact .inl ⟨b, xs, rfl, .of hb, fun p np => mkL_fin r3 np (qb.cut _ _) c4⟩
      · rename_i ds e4
        obtain ⟨b, xs, rfl, nb, hb, qb⟩ := rr_tup (deref_rr r3 v3' e4)
        refine .inr (.inl ⟨b, xs, rfl, hb.sq, fun e => ?_, _, fun p o np ho => mkB_fin r3 np (qb.cut _ _) ho c4⟩)
        rw [qb.length] at e
        rw [cut_whole e] at c4
        exact c4.here r3 (.tup nb hb qb)
      · rename_i z e4
        obtain rfl := rr_str (deref_rr r3 v3' e4)
        split at c4
        · rename_i hz
          exact .inr (.inr ⟨z, rfl, hz, c4.here r3 (.str _)⟩)
        · exact c4.no.elim
      · exact c4.no.elim
def dats : List W → Option (List D)
  | [] => some []
  | .dat d :: ws => (dats ws).map (d :: ·)
  | _ :: _ => none
@[simp] theorem dats_nil : dats [] = some [] := rfl
@[simp] theorem dats_cons (d : D) (ws : List W) : dats (.dat d :: ws) = (dats ws).map (d :: ·) := rfl
theorem rvs_dats {M : Mm} {H : Hp} : ∀ {vs : List V} {ws : List W} {ds : List D}, RVs M H vs ws → dats ws = some ds → RDs M H vs ds
  | _, _, _, .nil, e => by cases e; exact .nil
  | _, .dat d :: ws, _, .cons a t, e => by
    simp only [dats_cons, Option.map_eq_some_iff] at e
    obtain ⟨ds', e1, rfl⟩ := e
    exact .cons a (rvs_dats t e1)
  | _, .ref n :: ws, _, .cons a t, e => by cases e
  | _, .scr n :: ws, _, .cons a t, e => by cases e
  | _, .pack n :: ws, _, .cons a t, e => by cases e
  | _, .lock n :: ws, _, .cons a t, e => by cases e
  | _, .ins C fs :: ws, _, .cons a t, e => by cases e
  | _, .exc k C fs :: ws, _, .cons a t, e => by cases e
def lstW (m : Bool) (ws : List W) (h : Hh) : Option (W × Hh) := match dats ws with
  | some ds => if ds.length ≤ sizeLine then mkL m ds h else none
  | none => none
def tupW (ws : List W) (h : Hh) : Option (W × Hh) := match dats ws with
  | some ds => if ds.length ≤ sizeLine then ok (.tuple ds) h else none
  | none => none
def fA (sem : List W → Hh → Option (W × Hh)) (g : AM) : EM := fun ρ h => obnd (g ρ h) sem
theorem d_lst (m : Bool) {es : List Expr} {pos : Pos} {g : AM} (hg : DA X es g) : DE X (.List es pos) (fA (lstW m) g) := (pe_lst hg).weak fun σ H Q => by
  rintro ⟨M, h, ρ, r, rs, c⟩
  obtain ⟨w, h1, e1, c1⟩ := Cont.bind (δ := Unit) c
  refine ⟨M, h, ρ, r, rs, w, h1, e1, fun M1 H1 v x1 r1 v1 => ?_⟩
  have c2 := c1 M1 H1 x1
  unfold lstW at c2
  split at c2
  · rename_i ds e
    have q := rvs_dats v1 e
    split at c2
    · rename_i hz
      exact ⟨by rw [q.length]; exact hz, fun p np => mkL_fin r1 np q c2⟩
    · exact c2.no.elim
  · exact c2.no.elim
def tTupB (t : TA) : TE := fun σ H Q => t σ H fun xs H1 => xs.length ≤ sizeLine ∧ ∃ b : Bool, ∀ p o, H1 p = none → o.dict = none → Q (.ref p) (upd H1 p (bareO b o xs))
theorem pe_tupB {x1} {es : List Expr} {t : TA} {pos : Pos} (h : PA X es t) : PE X (.Tuple es x1 pos) (tTupB t) := by
  constructor
  intro pins s σ H Q I hq
  apply wpAny_Tuple_spliced
  refine thn (h.run pos pins s σ H _ I hq) fun us s1 ⟨xs, H1, I1, r, z, b, q⟩ => ⟨r.length ▸ z, ?_⟩
  have hn := I1.hok.fresh (Nat.le_refl s1.heap.objs.size)
  exact ⟨.ref s1.heap.objs.size, _, I1.laid (t' := s1.toks) (o := bareO b _ xs) (fun _ _ e => Heap.get?_push_of_some _ e) (Nat.le_refl _) (bare_ok b (Heap.get?_push_size _ rfl) fun G => ⟨z, us, r, IsTup.new _ _⟩), rfl, q _ _ hn rfl⟩
theorem d_tup {x1} {es : List Expr} {pos : Pos} {g : AM} (hg : DA X es g) : DE X (.Tuple es x1 pos) (fA tupW g) := (pe_tupB hg).weak fun σ H Q => by
  rintro ⟨M, h, ρ, r, rs, c⟩
  obtain ⟨w, h1, e1, c1⟩ := Cont.bind (δ := Unit) c
  refine ⟨M, h, ρ, r, rs, w, h1, e1, fun M1 H1 v x1 r1 v1 => ?_⟩
  have c2 := c1 M1 H1 x1
  unfold tupW at c2
  split at c2
  · rename_i ds e
    have q := rvs_dats v1 e
    split at c2
    · rename_i hz
      exact ⟨by rw [q.length]; exact hz, callD ds, fun p o np ho => mkB_fin r1 np q ho c2⟩
    · exact c2.no.elim
  · exact c2.no.elim
end
end DL
set_option maxRecDepth 100000
set_option maxHeartbeats 4000000
namespace DL
open PySem PySem.Spec PyProof.Rows L2
variable [HW]
def SemA (r : List V → Hp → VK → Prop) (sem : List W → Hh → Option (W × Hh)) : Prop := ∀ (M : Mm) (H : Hp) (h : Hh) (vs : List V) (ws : List W) (Q : VK), Rep M H h → RVs M H vs ws → Cont RV (sem ws h) M H Q → r vs H Q
theorem call_imp {r : List V → Hp → VK → Prop} {sem : List W → Hh → Option (W × Hh)} {g : AM} (hs : SemA r sem) : ∀ σ H Q, tE (fA sem g) σ H Q → tCB r (tA g) σ H Q := fun σ H Q => by
  rintro ⟨M, h, ρ, r, rs, c⟩
  obtain ⟨w, h1, e1, c1⟩ := Cont.bind (δ := Unit) c
  exact ⟨M, h, ρ, r, rs, w, h1, e1, fun M1 H1 v x1 r1 v1 => hs M1 H1 h1 v w Q r1 v1 (c1 M1 H1 x1)⟩
section
variable {X : Cx}
theorem d_callB {x : Str} {p pos : Pos} {e : Expr} {es : List Expr} {id : String} {r : List V → Hp → VK → Prop} {sem : List W → Hh → Option (W × Hh)} {g : AM} (hc : CallR X (.builtin id) r) (hs : SemA r sem) (hm : X.mg x = none) (hv : bootBuiltins x = some (.builtin id)) (ha : DA X (e :: es) g)
    (hg : Gl X x := by rfl) (hn : x ≠ "__name__" := by decide) (hdb : (x == ("__debug__" : Str)) = false := by decide) (he : starEach (e :: es) X.env = (false, eval e X.env) :: starEach es X.env := by rfl) (hpl : (backTo pos (starEach es X.env)).any (·.1) = false := by rfl) :
    DE X (.Call (.Name x p) (e :: es) [] pos) (fA sem g) := (pe_callB hc hg hm hv ha hn hdb he hpl).weak (call_imp hs)
theorem d_callT {x : Str} {p pos : Pos} {e : Expr} {es : List Expr} {T : String} {r : List V → Hp → VK → Prop} {sem : List W → Hh → Option (W × Hh)} {g : AM} (hc : CallR X (.type T) r) (hs : SemA r sem) (hm : X.mg x = none) (hv : bootBuiltins x = some (.type T)) (ha : DA X (e :: es) g)
    (hg : Gl X x := by rfl) (hn : x ≠ "__name__" := by decide) (hdb : (x == ("__debug__" : Str)) = false := by decide) (he : starEach (e :: es) X.env = (false, eval e X.env) :: starEach es X.env := by rfl) (hpl : (backTo pos (starEach es X.env)).any (·.1) = false := by rfl) :
    DE X (.Call (.Name x p) (e :: es) [] pos) (fA sem g) := (pe_callTy hc hg hm hv ha hn hdb he hpl).weak (call_imp hs)
theorem rvs1 {M : Mm} {H : Hp} {vs : List V} {w : W} (r : RVs M H vs [w]) : ∃ v, vs = [v] ∧ RV M H v w := by
  cases r with
  | cons a t => cases t; exact ⟨_, rfl, a⟩
theorem rvs2 {M : Mm} {H : Hp} {vs : List V} {w u : W} (r : RVs M H vs [w, u]) : ∃ v v', vs = [v, v'] ∧ RV M H v w ∧ RV M H v' u := by
  cases r with
  | cons a t => cases t with
    | cons b t => cases t; exact ⟨_, _, rfl, a, b⟩
def lenW (ws : List W) (h : Hh) : Option (W × Hh) := match ws with
  | [.scr ns] => ok (.int ns.length) h
  | [w] => match deref h w with
    | some (.list ds) => ok (.int ds.length) h
    | some (.tuple ds) => ok (.int ds.length) h
    | some (.str z) => if z.length ≤ sizeLine then ok (.int z.length) h else none
    | some (.dict es) => if isT es = true then none else ok (.int es.length) h
    | _ => none
  | _ => none
theorem RDk.length {M : Mm} {H : Hp} : ∀ {kvs : List (Key × V)} {es : List (D × D)}, RDk M H kvs es → kvs.length = es.length
  | _, _, .nil => rfl
  | _, _, .cons _ r => by rw [List.length_cons, List.length_cons, r.length]
theorem s_len : SemA (fun xs H Q => (∃ x n, xs = [x] ∧ LenV X.K x H n ∧ Q (.int n) H) ∨ ∃ d kvs, xs = [.ref d] ∧ H d = some (.dK kvs) ∧ Q (.int (kvs.length : Nat)) H) lenW := by
  intro M H h vs ws Q rep rv c
  unfold lenW at c
  split at c
  · rename_i ns
    obtain ⟨v, rfl, r⟩ := rvs1 rv
    obtain ⟨a, o, rfl, _, ha⟩ := r
    exact .inl ⟨_, ns.length, rfl, .inl ⟨_, .inl (.inr ⟨o, ha⟩), by simp⟩, c.here rep (.int _)⟩
  · obtain ⟨v, rfl, r⟩ := rvs1 rv
    split at c
    · rename_i ds e
      obtain ⟨a, xs, rfl, ha, q⟩ := deref_rr rep r e
      exact .inl ⟨_, ds.length, rfl, .inl ⟨_, .of ha, q.length.symm⟩, c.here rep (.int _)⟩
    · rename_i ds e
      obtain ⟨a, xs, rfl, _, ha, q⟩ := rr_tup (deref_rr rep r e)
      exact .inl ⟨_, ds.length, rfl, .inr ⟨_, ha.sq, q.length.symm⟩, c.here rep (.int _)⟩
    · rename_i z e
      obtain rfl := rr_str (deref_rr rep r e)
      split at c
      · rename_i hz
        exact .inl ⟨_, z.length, rfl, ⟨hz, rfl⟩, c.here rep (.int _)⟩
      · exact c.no.elim
    · rename_i es e
      split at c
      · exact c.no.elim
      · rename_i ht
        rcases deref_rr rep r e with ⟨a, kvs, rfl, ha, q⟩ | ⟨a, kvs, es', rfl, rfl, ha, q⟩
        · rw [← q.length] at c
          exact .inr ⟨a, kvs, rfl, ha, c.here rep (.int _)⟩
        · exact absurd rfl ht
    · exact c.no.elim
  · exact c.no.elim
theorem d_len (hm : X.mg "len" = none) {p pos : Pos} {e : Expr} {g : AM} (ha : DA X [e] g) (hg : Gl X "len" := by rfl) (he : starEach [e] X.env = (false, eval e X.env) :: starEach [] X.env := by rfl) (hpl : (backTo pos (starEach [] X.env)).any (·.1) = false := by rfl) : DE X (.Call (.Name "len" p) [e] [] pos) (fA lenW g) :=
  d_callB (call_len.or call_lenD) s_len hm boot_len ha hg (by decide) (by decide) he hpl
def absW (ws : List W) (h : Hh) : Option (W × Hh) := match ws with
  | [.dat (.int i)] => ok (.int (if i < 0 then -i else i)) h
  | _ => none
theorem s_abs : SemA (fun xs H Q => ∃ i, xs = [.int i] ∧ Q (.int (if i < 0 then -i else i)) H) absW := by
  intro M H h vs ws Q rep rv c
  unfold absW at c
  split at c
  · obtain ⟨v, rfl, r⟩ := rvs1 rv
    cases (show RD M H _ _ from r)
    exact ⟨_, rfl, c.here rep (.int _)⟩
  · exact c.no.elim
def intC (ws : List W) (h : Hh) : Option (W × Hh) := match ws with
  | [.dat (.int i)] => ok (.int i) h
  | [.dat (.bool b)] => ok (.int (if b = true then 1 else 0)) h
  | _ => none
theorem s_intC : SemA (fun xs H Q => (∃ i, xs = [.int i] ∧ Q (.int i) H) ∨ ∃ k, xs = [.bl k] ∧ Q (.int (if k then 1 else 0)) H) intC := by
  intro M H h vs ws Q rep rv c
  unfold intC at c
  split at c
  · obtain ⟨v, rfl, r⟩ := rvs1 rv
    cases (show RD M H _ _ from r)
    exact .inl ⟨_, rfl, c.here rep (.int _)⟩
  · obtain ⟨v, rfl, r⟩ := rvs1 rv
    cases (show RD M H _ _ from r)
    exact .inr ⟨_, rfl, c.here rep (.int _)⟩
  · exact c.no.elim
def maxW (ws : List W) (h : Hh) : Option (W × Hh) := match ws with
  | [.dat (.int i), .dat (.int j)] => ok (.int (if j > i then j else i)) h
  | _ => none
def minW (ws : List W) (h : Hh) : Option (W × Hh) := match ws with
  | [.dat (.int i), .dat (.int j)] => ok (.int (if j < i then j else i)) h
  | _ => none
theorem s_max : SemA (fun xs H Q => ∃ i j, xs = [.int i, .int j] ∧ Q (.int (if j > i then j else i)) H) maxW := by
  intro M H h vs ws Q rep rv c
  unfold maxW at c
  split at c
  · obtain ⟨v, v', rfl, r, r'⟩ := rvs2 rv
    cases (show RD M H _ _ from r)
    cases (show RD M H _ _ from r')
    exact ⟨_, _, rfl, c.here rep (.int _)⟩
  · exact c.no.elim
theorem s_min : SemA (fun xs H Q => ∃ i j, xs = [.int i, .int j] ∧ Q (.int (if j < i then j else i)) H) minW := by
  intro M H h vs ws Q rep rv c
  unfold minW at c
  split at c
  · obtain ⟨v, v', rfl, r, r'⟩ := rvs2 rv
    cases (show RD M H _ _ from r)
    cases (show RD M H _ _ from r')
    exact ⟨_, _, rfl, c.here rep (.int _)⟩
  · exact c.no.elim
def bools : List D → Option (List Bool)
  | [] => some []
  | .bool b :: ds => (bools ds).map (b :: ·)
  | _ :: _ => none
def intsD : List D → Option (List Int)
  | [] => some []
  | .int b :: ds => (intsD ds).map (b :: ·)
  | _ :: _ => none
theorem rds_bools {M : Mm} {H : Hp} : ∀ {vs : List V} {ds : List D} {bs : List Bool}, RDs M H vs ds → bools ds = some bs → vs = bs.map V.bl
  | _, _, _, .nil, e => by cases e; rfl
  | _, .bool b :: ds, _, .cons a t, e => by
    simp only [bools, Option.map_eq_some_iff] at e
    obtain ⟨bs', e1, rfl⟩ := e
    cases a
    rw [List.map_cons, ← rds_bools t e1]
  | _, .none :: ds, _, .cons a t, e => by cases e
  | _, .int _ :: ds, _, .cons a t, e => by cases e
  | _, .str _ :: ds, _, .cons a t, e => by cases e
  | _, .list _ :: ds, _, .cons a t, e => by cases e
  | _, .tuple _ :: ds, _, .cons a t, e => by cases e
  | _, .dict _ :: ds, _, .cons a t, e => by cases e
def lW {α : Type} (cv : List D → Option (List α)) (k : List α → D) (ws : List W) (h : Hh) : Option (W × Hh) := match ws with
  | [w] => match deref h w with
    | some (.list ds) => match cv ds with
      | some bs => ok (k bs) h
      | none => none
    | _ => none
  | _ => none
def allW := lW bools fun bs => .bool (bs.all id)
def anyW := lW bools fun bs => .bool (bs.any id)
def sumW := lW intsD fun bs => .int bs.sum
theorem s_lW {α : Type} {cv : List D → Option (List α)} {k : List α → D} {kv : List α → V} {em : α → V} (h1 : ∀ {M : Mm} {H : Hp} {vs : List V} {ds : List D} {bs : List α}, RDs M H vs ds → cv ds = some bs → vs = bs.map em) (h2 : ∀ M H bs, RD M H (kv bs) (k bs)) :
    SemA (fun vs H Q => ∃ (a : Addr) (bs : List α), vs = [V.ref a] ∧ SqL X.K H a (bs.map em) ∧ Q (kv bs) H) (lW cv k) := by
  intro M H h vs ws Q rep rv c
  unfold lW at c
  split at c
  · obtain ⟨v, rfl, r⟩ := rvs1 rv
    split at c
    · rename_i ds e
      obtain ⟨a, xs, rfl, ha, q⟩ := deref_rr rep r e
      split at c
      · rename_i bs e2
        have e3 := h1 q e2
        subst e3
        exact ⟨a, bs, rfl, .of ha, c.here rep (h2 _ _ _)⟩
      · exact c.no.elim
    · exact c.no.elim
  · exact c.no.elim
theorem s_all : SemA (rAll X.K) allW := s_lW rds_bools fun _ _ _ => .bl _
theorem s_any : SemA (rAny X.K) anyW := s_lW rds_bools fun _ _ _ => .bl _
def tupleW (ws : List W) (h : Hh) : Option (W × Hh) := match ws with
  | [w] => match deref h w with
    | some (.list ds) => ok (.tuple ds) h
    | some (.tuple ds) => ok (.tuple ds) h
    | _ => none
  | _ => none
def rTupB (K : PySem.W.Frag) : List V → Hp → VK → Prop := fun xs H Q => ∃ p ys, xs = [.ref p] ∧ ((SqL K H p ys ∧ ∃ b : Bool, ∀ l o, H l = none → o.dict = none → Q (.ref l) (upd H l (bareO b o ys))) ∨ (SqT K H p ys ∧ Q (.ref p) H))
theorem call_tupB : CallR X (.type "tuple") (rTupB X.K) := by
  intro pins s σ H xs us Q I r h
  obtain ⟨p, ys, rfl, h⟩ := h
  obtain ⟨u, rfl, rx⟩ := vals1 r
  cases rx
  rcases h with ⟨hq, b, q⟩ | ⟨hq, q⟩
  · obtain ⟨its, r', pl, hz⟩ := I.list hq
    have hlen := r'.length
    apply call_tuple_list pl.isList _ (by simp only [List.size_toArray] <;> omega)
    intro h' kp
    have I1 : Inv X pins σ H { s with heap := h' } := I.kept (t' := s.toks) kp
    exact ⟨.ref h'.objs.size, _, I1.laid (t' := s.toks) (o := bareO b _ ys) (fun _ _ e => Heap.get?_push_of_some _ e) (Nat.le_refl _) (bare_ok b (Heap.get?_push_size _ rfl) fun G => ⟨hz, its, r', IsTup.new _ _⟩), rfl, q _ _ (I1.hok.fresh (Nat.le_refl _)) rfl⟩
  · obtain ⟨its, r', pl, hz⟩ := I.tuple hq
    exact call_tuple_same pl ⟨.ref p, H, I, rfl, q⟩
theorem s_tuple : SemA (rTupB X.K) tupleW := by
  intro M H h vs ws Q rep rv c
  unfold tupleW at c
  split at c
  · obtain ⟨v, rfl, r⟩ := rvs1 rv
    split at c
    · rename_i ds e
      obtain ⟨a, xs, rfl, ha, q⟩ := deref_rr rep r e
      exact ⟨a, xs, rfl, .inl ⟨.of ha, callD ds, fun l o nl ho => mkB_fin rep nl q ho c⟩⟩
    · rename_i ds e
      obtain ⟨a, xs, rfl, na, ha, q⟩ := rr_tup (deref_rr rep r e)
      exact ⟨a, xs, rfl, .inr ⟨ha.sq, c.here rep (.tup na ha q)⟩⟩
    · exact c.no.elim
  · exact c.no.elim
def listW (m : Bool) (ws : List W) (h : Hh) : Option (W × Hh) := match ws with
  | [w] => match deref h w with
    | some (.list ds) => mkL m ds h
    | some (.tuple ds) => mkL m ds h
    | _ => none
  | _ => none
def putK' (es : List (D × D)) (k : Key) (v : D) : List (D × D) := if (getK es k).isSome = true then es.map (fun e => if dKey e.1 = some k then (e.1, v) else e) else es ++ [(kP k, v)]
def pairsK : List D → Option (List (Key × D))
  | [] => some []
  | .tuple [k, v] :: ds => match dKey k, pairsK ds with
    | some k, some r => some ((k, v) :: r)
    | _, _ => none
  | _ :: _ => none
def mergeD (es : List (D × D)) (ps : List (Key × D)) : List (D × D) := ps.foldl (fun acc p => putK' acc p.1 p.2) es
section
variable {M : Mm} {H : Hp}
theorem RDo.some_iff {o : Option V} {p : Option D} (r : RDo M H o p) : o.isSome = p.isSome := by
  cases o <;> cases p <;> first | rfl | exact r.elim
theorem RDk.snoc {k : Key} {v : V} {d : D} (q : RD M H v d) : ∀ {kvs : List (Key × V)} {es : List (D × D)}, RDk M H kvs es → RDk M H (kvs ++ [(k, v)]) (es ++ [(kP k, d)])
  | _, _, .nil => .cons q .nil
  | _, _, .cons a t => .cons a (RDk.snoc q t)
theorem RDk.repl {k : Key} {v : V} {d : D} (q : RD M H v d) : ∀ {kvs : List (Key × V)} {es : List (D × D)}, RDk M H kvs es → RDk M H (kvs.map fun kv => if kv.1 = k then (kv.1, v) else kv) (es.map fun e => if dKey e.1 = some k then (e.1, d) else e)
  | _, _, .nil => .nil
  | _, _, .cons (k := j) a t => by
    simp only [List.map_cons, dKey_kP, Option.some.injEq]
    by_cases e : j = k
    · rw [if_pos e, if_pos e]; exact .cons q (RDk.repl q t)
    · rw [if_neg e, if_neg e]; exact .cons a (RDk.repl q t)
theorem RDk.put {kvs : List (Key × V)} {es : List (D × D)} (r : RDk M H kvs es) (k : Key) {v : V} {d : D} (q : RD M H v d) : RDk M H (putK kvs k v) (putK' es k d) := by
  unfold putK putK'
  rw [valV_any, (r.val k).some_iff]
  split
  · exact r.repl q
  · exact r.snoc q
theorem RDk.merge : ∀ {ps : List (Key × V)} {qs : List (Key × D)} {kvs : List (Key × V)} {es : List (D × D)}, Paired (fun p q => p.1 = q.1 ∧ RD M H p.2 q.2) ps qs → RDk M H kvs es → RDk M H (mergeK kvs ps) (mergeD es qs)
  | _, _, _, _, .nil, r => r
  | (k, v) :: ps, (k', d) :: qs, kvs, es, .cons ⟨e, q⟩ t, r => by
    have e' : k = k' := e
    subst e'
    show RDk M H (mergeK (putK kvs k v) ps) (mergeD (putK' es k d) qs)
    exact RDk.merge t (r.put k q)
theorem pairs_ok : ∀ {xs : List V} {ds : List D} {qs : List (Key × D)}, RDs M H xs ds → pairsK ds = some qs → ∃ (ps : List Addr) (kvs : List (Key × V)), xs = ps.map V.ref ∧ Paired (fun p kv => Rd H p (.tup [kV kv.1, kv.2])) ps kvs ∧ Paired (fun (p : Key × V) (q : Key × D) => p.1 = q.1 ∧ RD M H p.2 q.2) kvs qs
  | _, [], _, r, e => by
    cases e; cases r
    exact ⟨[], [], rfl, .nil, .nil⟩
  | _, d :: ds, qs, r, e => by
    unfold pairsK at e
    split at e
    · cases e
      rename_i h1
      cases h1
    · rename_i k v ds' h0
      cases h0
      split at e
      · rename_i k' r' e1 e2
        cases e
        cases r with
        | cons a t =>
          obtain ⟨ps, kvs, hx, h1, h2⟩ := pairs_ok t e2
          have := kP_dKey e1
          subst this
          cases a with
          | tup n ha ra =>
            cases ra with
            | cons rk rr =>
              cases rr with
              | cons rv rr =>
                cases rr
                have ha := ha.rd
                rw [rd_kP rk] at ha
                exact ⟨_ :: ps, (k', _) :: kvs, by rw [hx]; rfl, .cons ha h1, .cons ⟨rfl, rv⟩ h2⟩
      · cases e
    · cases e
end
def mkK (m : Bool) (es : List (D × D)) (h : Hh) : Option (W × Hh) := if m = true then some (.ref h.length, h ++ [some (.dic es)]) else some (.dat (.dict es), h)
theorem mkK_fin {m : Bool} {es : List (D × D)} {h : Hh} {M : Mm} {H : Hp} {Q : VK} {p : Addr} {kvs : List (Key × V)} (rep : Rep M H h) (n : H p = none) (r : RDk M H kvs es) (c : Cont RV (mkK m es h) M H Q) : Q (.ref p) (upd H p (.dK kvs)) := by
  cases m with
  | false => exact c.fin (ext_new n) (rep.upd_new n) (RD.dic (rep.new n) upd_same (r.mono (ext_new n).ext))
  | true => exact c.fin (ext_add n) (rep.add n ⟨kvs, upd_same, r.mono (ext_add n).ext⟩) ⟨p, by simp [Mm.more, ← rep.len], rfl⟩
def dictW (m : Bool) (ws : List W) (h : Hh) : Option (W × Hh) := match ws with
  | [w] => match deref h w with
    | some (.list ds) => match pairsK ds with
      | some qs => mkK m (mergeD [] qs) h
      | none => none
    | some (.dict es) => if isT es = true then none else mkK m es h
    | _ => none
  | _ => none
section
variable {X : Cx}
theorem s_dict (m : Bool) : SemA (fun xs H Q => (∃ (a : Addr) (ps : List Addr) (kvs : List (Key × V)), xs = [.ref a] ∧ SqL X.K H a (ps.map V.ref) ∧ Paired (fun p kv => SqT X.K H p [kV kv.1, kv.2]) ps kvs ∧
    ∀ p, H p = none → Q (.ref p) (upd H p (.dK (mergeK [] kvs)))) ∨ ∃ (a : Addr) (kvs : List (Key × V)), xs = [.ref a] ∧ Rd H a (.dK kvs) ∧ ∀ p, H p = none → Q (.ref p) (upd H p (.dK kvs))) (dictW m) := by
  intro M H h vs ws Q rep rv c
  unfold dictW at c
  split at c
  · obtain ⟨v, rfl, r⟩ := rvs1 rv
    split at c
    · rename_i ds e
      obtain ⟨a, xs, rfl, ha, q⟩ := deref_rr rep r e
      split at c
      · rename_i qs e2
        obtain ⟨ps, kvs, rfl, h1, h2⟩ := pairs_ok q e2
        exact .inl ⟨a, ps, kvs, rfl, .of ha, Paired.mapP h1 fun _ _ z => .inl z, fun p np => mkK_fin rep np (RDk.merge h2 .nil) c⟩
      · exact c.no.elim
    · rename_i es e
      split at c
      · exact c.no.elim
      · rename_i ht
        rcases deref_rr rep r e with ⟨a, kvs, rfl, ha, q⟩ | ⟨a, kvs, es', rfl, rfl, ha, q⟩
        · exact .inr ⟨a, kvs, rfl, .of ha, fun p np => mkK_fin rep np q c⟩
        · exact absurd rfl ht
    · exact c.no.elim
  · exact c.no.elim
def tyN : D → String
  | .none => "NoneType"
  | .bool _ => "bool"
  | .int _ => "int"
  | .str _ => "str"
  | .list _ => "list"
  | .tuple _ => "tuple"
  | .dict _ => "dict"
def isN (n t : String) : Bool := decide (n = t) || (decide (n = "bool") && decide (t = "int"))
def isT1 (t : String) (d : D) : Bool := isN (tyN d) t
theorem kitN : ∀ n ∈ ["NoneType", "bool", "int", "str", "list", "tuple", "dict"], ∀ t ∈ ["bool", "int", "str", "list", "tuple", "dict"], kitB n t = some (isN n t) := by decide +kernel
theorem rr_ty {K : PySem.W.Frag} {M : Mm} {H : Hp} {v : V} : ∀ {d : D}, (∀ es, d = .dict ((.none, .none) :: es) → False) → RR M H v d → TyX K H v (.type (tyN d))
  | .none, _, r => by rw [rr_non r]; exact .base .non
  | .bool b, _, r => by rw [rr_bl r]; exact .base (.bl b)
  | .int b, _, r => by rw [rr_int r]; exact .base (.int b)
  | .str b, _, r => by rw [rr_str r]; exact .base (.str b)
  | .list b, _, ⟨a, xs, e, h, _⟩ => by rw [e]; exact .base (.lst h)
  | .tuple b, _, r => by
    obtain ⟨a, xs, e, _, h, _⟩ := rr_tup r
    rw [e]
    rcases h with ⟨_, h⟩ | ⟨_, o, _, h⟩
    · exact .base (.tup h)
    · exact .fTuple h
  | .dict b, _, .inl ⟨a, xs, e, h, _⟩ => by rw [e]; exact .base (.dK h)
  | .dict b, n0, .inr ⟨a, xs, es, e0, e, h, _⟩ => by subst e0; exact (n0 _ rfl).elim
theorem kit1 (t : String) (ht : t = "int" ∨ t = "bool" ∨ t = "str" ∨ t = "list" ∨ t = "tuple" ∨ t = "dict") (d : D) : kitB (tyN d) t = some (isT1 t d) := by
  refine kitN (tyN d) ?_ t ?_
  · cases d <;> simp [tyN]
  · rcases ht with rfl | rfl | rfl | rfl | rfl | rfl <;> simp
def isiW (ts : List String) (w : W) (h : Hh) : Option (W × Hh) := match deref h w with
  | some (.dict ((.none, .none) :: _)) => none
  | some d => bok (ts.any fun t => isT1 t d) h
  | none => none
def f1 (sem : W → Hh → Option (W × Hh)) (f : EM) : EM := fun ρ h => obnd (f ρ h) sem
theorem d_isi (hm : X.mg "isinstance" = none) {t : Str} {T : String} (hmt : X.mg t = none) (hv : bootBuiltins t = some (.type T)) (ht : T = "int" ∨ T = "bool" ∨ T = "str" ∨ T = "list" ∨ T = "tuple" ∨ T = "dict") {p pt pos : Pos} {e : Expr} {f : EM} (he : DE X e f)
    (hg : Gl X "isinstance" := by rfl) (hgt : Gl X t := by rfl) (hnt : t ≠ "__name__" := by decide) (hdt : (t == ("__debug__" : Str)) = false := by decide)
    (h1 : starEach [e, .Name t pt] X.env = (false, eval e X.env) :: starEach [.Name t pt] X.env := by rfl) (h2 : starEach [.Name t pt] X.env = (false, eval (.Name t pt) X.env) :: starEach [] X.env := by rfl)
    (hpl : (backTo pos (starEach [.Name t pt] X.env)).any (·.1) = false := by rfl) : DE X (.Call (.Name "isinstance" p) [e, .Name t pt] [] pos) (f1 (isiW [T]) f) :=
  (pe_callB call_isi hg hm boot_isinstance (pa_cons he (pa_cons (pe_bltn (v := .ty T) hgt hmt hv rfl hnt hdt) pa_nil h2) h1) (by decide) (by decide) h1 hpl).weak fun σ H Q => by
    rintro ⟨M, h, ρ, r, rs, c⟩
    obtain ⟨w, h1, e1, c1⟩ := Cont.bind (δ := Unit) c
    refine ⟨M, h, ρ, r, rs, w, h1, e1, fun M1 H1 v x1 r1 v1 => ?_⟩
    have c2 := c1 M1 H1 x1
    unfold isiW at c2
    split at c2
    · exact c2.no.elim
    · rename_i d n0 e
      have q := c2.here r1 (.bl _)
      refine ⟨v, .ty T, _, _, _, rfl, .ty T, (rr_ty n0 (deref_rr r1 v1 e)), kit_ty (kit1 T ht d), ?_⟩
      simpa using q
    · exact c2.no.elim
theorem d_isi2 (hm : X.mg "isinstance" = none) {t t' : Str} {T T' : String} (hmt : X.mg t = none) (hv : bootBuiltins t = some (.type T)) (ht : T = "int" ∨ T = "bool" ∨ T = "str" ∨ T = "list" ∨ T = "tuple" ∨ T = "dict") (hmt' : X.mg t' = none) (hv' : bootBuiltins t' = some (.type T')) (ht' : T' = "int" ∨ T' = "bool" ∨ T' = "str" ∨ T' = "list" ∨ T' = "tuple" ∨ T' = "dict") {p pt pt' ptt pos : Pos} {kt} {e : Expr} {f : EM} (he : DE X e f)
    (hg : Gl X "isinstance" := by rfl) (hgt : Gl X t := by rfl) (hnt : t ≠ "__name__" := by decide) (hdt : (t == ("__debug__" : Str)) = false := by decide) (hgt' : Gl X t' := by rfl) (hnt' : t' ≠ "__name__" := by decide) (hdt' : (t' == ("__debug__" : Str)) = false := by decide)
    (h1 : starEach [e, .Tuple [.Name t pt, .Name t' pt'] kt ptt] X.env = (false, eval e X.env) :: starEach [.Tuple [.Name t pt, .Name t' pt'] kt ptt] X.env := by rfl)
    (h2 : starEach [.Tuple [.Name t pt, .Name t' pt'] kt ptt] X.env = (false, eval (.Tuple [.Name t pt, .Name t' pt'] kt ptt) X.env) :: starEach [] X.env := by rfl)
    (h3 : starEach [.Name t pt, .Name t' pt'] X.env = (false, eval (.Name t pt) X.env) :: starEach [.Name t' pt'] X.env := by rfl) (h4 : starEach [.Name t' pt'] X.env = (false, eval (.Name t' pt') X.env) :: starEach [] X.env := by rfl)
    (hpl : (backTo pos (starEach [.Tuple [.Name t pt, .Name t' pt'] kt ptt] X.env)).any (·.1) = false := by rfl) : DE X (.Call (.Name "isinstance" p) [e, .Tuple [.Name t pt, .Name t' pt'] kt ptt] [] pos) (f1 (isiW [T, T']) f) :=
  (pe_callB call_isiT hg hm boot_isinstance (pa_cons he (pa_cons (pe_tup (pa_cons (pe_bltn (v := .ty T) hgt hmt hv rfl hnt hdt) (pa_cons (pe_bltn (v := .ty T') hgt' hmt' hv' rfl hnt' hdt') pa_nil h4) h3)) pa_nil h2) h1) (by decide) (by decide) h1 hpl).weak fun σ H Q => by
    rintro ⟨M, h, ρ, r, rs, c⟩
    obtain ⟨w, h1, e1, c1⟩ := Cont.bind (δ := Unit) c
    refine ⟨M, h, ρ, r, rs, w, h1, e1, fun M1 H1 v x1 r1 v1 => ⟨by show 2 ≤ sizeLine; decide, fun tp ntp => ?_⟩⟩
    have c2 := c1 M1 H1 x1
    unfold isiW at c2
    split at c2
    · exact c2.no.elim
    · rename_i d n0 e
      have r2 := r1.upd_new (o := .tup [.ty T, .ty T']) ntp
      have q := c2.fin (v := .bl _) (ext_new ntp) r2 (.bl _)
      refine ⟨v, tp, [.ty T, .ty T'], _, [.type T, .type T'], _, rfl, upd_same, .cons (.ty T) (.cons (.ty T') .nil), (rr_ty n0 (deref_rr r2 (v1.mono (ext_new ntp)) e)), ?_, q⟩
      refine kitAny_cons (kit_ty (kit1 T ht d)) (fun hb => kitAny_cons (r := isT1 T' d) (kit_ty (kit1 T' ht' d)) (fun hb' => by rw [hb']; rfl) (fun hb' => hb') |>.trans ?_) (fun hb => ?_)
      · simp [hb]
      · simp [hb]
    · exact c2.no.elim
end
end
end DL
set_option maxRecDepth 100000
set_option maxHeartbeats 4000000
namespace DL
open PySem PySem.Spec PyProof.Rows L2
variable [HW]
def flatD : D → Bool
  | .none => true
  | .bool _ => true
  | .int _ => true
  | .str _ => true
  | _ => false
theorem rd_flat {M : Mm} {H : Hp} {v : V} {d : D} (r : RD M H v d) (f : flatD d = true) : flatV v = true := by
  cases d <;> first | (cases r; rfl) | cases f
theorem rds_flat {M : Mm} {H : Hp} : ∀ {vs : List V} {ds : List D}, RDs M H vs ds → ds.all flatD = true → vs.all flatV = true
  | _, _, .nil, _ => rfl
  | _, _, .cons a t, f => by
    rw [List.all_cons, Bool.and_eq_true] at f
    rw [List.all_cons, rd_flat a f.1, rds_flat t f.2]; rfl
theorem eqV_eqv {M : Mm} {H : Hp} {x y : V} {a b : D} (ra : RD M H x a) (rb : RD M H y b) (fa : flatD a = true) (fb : flatD b = true) : eqV x y = PyData.eqv a b := by
  cases a <;> cases b <;> first | (exfalso; simp [flatD] at fa; done) | (exfalso; simp [flatD] at fb; done) | (cases ra; cases rb; simp [eqV, PyData.eqv])
theorem inV_eq {M : Mm} {H : Hp} {x : V} {d : D} (r : RD M H x d) (f : flatD d = true) : ∀ {vs : List V} {ds : List D}, RDs M H vs ds → ds.all flatD = true → inV x vs = ds.any fun y => PyData.eqv y d
  | _, _, .nil, _ => rfl
  | _, _, .cons a t, q => by
    rw [List.all_cons, Bool.and_eq_true] at q
    have ih := inV_eq r f t q.2
    unfold inV at ih ⊢
    rw [List.any_cons, List.any_cons, ih, eqV_eqv a r q.1 f]
def inW (neg : Bool) (x y : W) (h : Hh) : Option (W × Hh) := match x with
  | .dat d => match deref h y with
    | some (.dict es) => match getD es d with
      | some o => bok (if neg = true then !o.isSome else o.isSome) h
      | none => none
    | some (.list ds) => if (flatD d && ds.all flatD) = true then bok (if neg = true then !ds.any (fun z => PyData.eqv z d) else ds.any fun z => PyData.eqv z d) h
      else if (shp d && shp (.list ds)) = true then bok (if neg = true then !ds.any (fun z => PyData.eqv z d) else ds.any fun z => PyData.eqv z d) h else none
    | some (.tuple ds) => if (flatD d && ds.all flatD) = true then bok (if neg = true then !ds.any (fun z => PyData.eqv z d) else ds.any fun z => PyData.eqv z d) h else none
    | some (.str z) => match d with
      | .str ⟨⟨[c]⟩⟩ => bok (if neg = true then !decide (c ∈ z.cps.toList) else decide (c ∈ z.cps.toList)) h
      | _ => none
    | _ => none
  | _ => none
section
variable {X : Cx}
def rInDict (neg : Bool) : R2 := fun y x H Q => ∃ a o, x = .ref a ∧ DGetX H a y o ∧ Q (.bl (if neg = true then !o.isSome else o.isSome)) H
theorem op_inDict (hu : X.A.units + 1 < cLine) (W : HWX X) : OpR X (compareOp .In) (rInDict false) := by
  intro pins s σ H x y v u Q I rx ry q
  obtain ⟨a, o, rfl, g, q⟩ := q
  obtain rfl : u = Value.ref a := ry
  exact dx_in hu W I g rx fun s' I' => ⟨.bl _, H, I', rfl, q⟩
theorem op_notInDict (hu : X.A.units + 1 < cLine) (W : HWX X) : OpR X (compareOp .NotIn) (rInDict true) := by
  intro pins s σ H x y v u Q I rx ry q
  obtain ⟨a, o, rfl, g, q⟩ := q
  obtain rfl : u = Value.ref a := ry
  exact dx_notIn hu W I g rx fun s' I' => ⟨.bl _, H, I', rfl, q⟩
def rInA (K : PySem.W.Frag) (neg : Bool) : R2 := fun x y H Q => rIn K neg x y H Q ∨ rInDict neg x y H Q ∨
  (∃ d ds, Dp K H x d ∧ Dp K H y (.list ds) ∧ SeqAt.shaped d = true ∧ SeqAt.shaped (.list ds) = true ∧ Q (.bl (if neg = true then !ds.any (fun z => PyData.eqv z d) else ds.any fun z => PyData.eqv z d)) H) ∨
  ∃ c z, x = .str ⟨#[c]⟩ ∧ y = .str z ∧ Q (.bl (if neg = true then !decide (c ∈ z.cps.toList) else decide (c ∈ z.cps.toList))) H
theorem o_in {k : Nat} (hr : Room k X.A) (W : HWX X := by exact ⟨rfl, rfl⟩) : OpR X (compareOp .In) (rInA X.K false) :=
  op_in_seq.or ((op_inDict (hu_of hr) W).or ((op_inD (Nat.lt_of_le_of_lt (Nat.add_le_add_left (by decide) _) (show X.A.units + 200 < cLine by have := hr.un; omega))).or op_in_sign))
theorem o_notin {k : Nat} (hr : Room k X.A) (W : HWX X := by exact ⟨rfl, rfl⟩) : OpR X (compareOp .NotIn) (rInA X.K true) :=
  op_notIn_seq.or ((op_notInDict (hu_of hr) W).or ((op_notInD (Nat.lt_of_le_of_lt (Nat.add_le_add_left (by decide) _) (show X.A.units + 200 < cLine by have := hr.un; omega))).or op_notIn_sign))
theorem s_in (neg : Bool) : Sem2 (rInA X.K neg) (inW neg) := by
  intro M H h x y wx wy Q rep rx ry c
  unfold inW at c
  split at c
  · rename_i d
    split at c
    · rename_i es e
      split at c
      · rename_i o eo
        obtain ⟨a, ov, rfl, g, ro⟩ := get_ok (deref_rr rep ry e) rx eo
        refine .inr (.inl ⟨a, ov, rfl, g, ?_⟩)
        rw [ro.some_iff]
        exact c.here rep (.bl _)
      · exact c.no.elim
    · rename_i ds e
      obtain ⟨a, xs, rfl, ha, q⟩ := deref_rr rep ry e
      split at c
      · rename_i hz
        rw [Bool.and_eq_true] at hz
        refine .inl ⟨a, xs, rfl, .inl (.of ha), rd_flat rx hz.1, rds_flat q hz.2, ?_⟩
        rw [inV_eq rx hz.1 q hz.2]
        cases neg <;> exact c.here rep (.bl _)
      · split at c
        · rename_i hz
          rw [Bool.and_eq_true] at hz
          exact .inr (.inr (.inl ⟨d, ds, RD.dp rx (SeqAt.canLay_of_shaped hz.1), rr_dp (deref_rr rep ry e) (SeqAt.canLay_of_shaped hz.2), hz.1, hz.2, c.here rep (.bl _)⟩))
        · exact c.no.elim
    · rename_i ds e
      obtain ⟨a, xs, rfl, _, ha, q⟩ := rr_tup (deref_rr rep ry e)
      split at c
      · rename_i hz
        rw [Bool.and_eq_true] at hz
        refine .inl ⟨a, xs, rfl, .inr ha.sq, rd_flat rx hz.1, rds_flat q hz.2, ?_⟩
        rw [inV_eq rx hz.1 q hz.2]
        cases neg <;> exact c.here rep (.bl _)
      · exact c.no.elim
    · rename_i z e
      obtain rfl := rr_str (deref_rr rep ry e)
      split at c
      · rename_i ch
        cases (show RD M H _ _ from rx)
        exact .inr (.inr (.inr ⟨ch, z, rfl, rfl, c.here rep (.bl _)⟩))
      · exact c.no.elim
    · exact c.no.elim
  · exact c.no.elim
theorem d_in' {k : Nat} (hr : Room k X.A) {a b : Expr} {pos : Pos} {f g : EM} (ha : DE X a f) (hb : DE X b g) (hm : behindInMarks .In b = false := by rfl) (W : HWX X := by exact ⟨rfl, rfl⟩) : DE X (.Compare a [.In] [b] pos) (f2 (inW false) f g) := d_cmp (o_in hr W) (s_in false) ha hb hm
theorem t_notin {k : Nat} (hr : Room k X.A) {a b : Expr} {pos : Pos} {f g : EM} (ha : DE X a f) (hb : DE X b g) (hm : behindInMarks .NotIn b = false := by rfl) (W : HWX X := by exact ⟨rfl, rfl⟩) : DT X (.Compare a [.NotIn] [b] pos) (fB (f2 (inW true) f g)) := dt_of_cmp (o_notin hr W) (s_in true) ha hb hm
theorem collect_grown {prog : Program} {w : World} {A : Around} {E : Value → Shared → Prop} {s : Shared} {Q : List Value → Shared → Prop} (it : Addr) {T : String} {o : Obj} {its : Array Value} {n : Nat} (hT : T = "list" ∨ T = "tuple") (ho : s.heap.get? it = some o) (hc : o.cls = .type T) (hd : o.data = .seq its n) (hsz : its.size ≤ sizeLine)
    (hQ : ∀ h', s.heap.objs.size ≤ h'.objs.size → (∀ b o', s.heap.get? b = some o' → h'.get? b = some o') → Q its.toList { s with heap := h' }) : wpAny (model prog w) A (collect (.ref it)) Q E s := by
  let g0 : Heap := s.heap.push { cls := .type "list", data := .seq ([] : List Value).toArray }
  let g1 : Heap := g0.update s.heap.objs.size (Obj.mapSeq (· ++ its))
  have a0 : g0.get? s.heap.objs.size = some { cls := .type "list", data := .seq #[] 0 } := Heap.get?_push_size _ rfl
  have a1 : g1.get? s.heap.objs.size = _ := Heap.get?_update_self (Obj.mapSeq (· ++ its)) a0 rfl
  have last : wpAny (model prog w) A (match Value.ref s.heap.objs.size with
      | Value.ref a => do
        match (← load a).data with
          | Data.seq xs _ => pure xs.toList
          | _ => unsupported "internal:collect"
      | _ => unsupported "internal:collect") Q E { s with heap := g1 } := by
    show wpAny _ A (load s.heap.objs.size >>= _) _ _ _
    refine wpAny_bind (wpAny_load a1 (wpAny_pure ?_))
    have e : ((#[] : Array Value) ++ its).toList = its.toList := by simp
    show Q ((#[] : Array Value) ++ its).toList _
    rw [e]
    refine hQ g1 ?_ fun b o' hb => (Heap.get?_update_other _ _ (Nat.ne_of_gt (Heap.lt_size hb))).trans (Heap.get?_push_of_some _ hb)
    show _ ≤ (g0.update s.heap.objs.size (Obj.mapSeq (· ++ its))).objs.size
    rw [Heap.size_update, size_push']
    exact Nat.le_succ _
  unfold collect
  refine wpAny_bind (wpAny_runValue (codeAny_builtin F.entry_proto_collect ?_))
  rw [Around.under_plainId F.plain_proto_collect _]
  show wpAny _ A.in1 (newList [] >>= fun l => again (.builtin "list.__iadd__" ⟨[l, .ref it], []⟩)) _ _ s
  refine wpAny_bind (wpAny_newObj_type (wpAny_pure ⟨plainId_quiet F.plain_list_iadd _, codeAny_builtin F.entry_list_iadd ?_⟩))
  rw [Around.under_plainId F.plain_list_iadd _]
  show wpAny _ A.in1 (Builtin.List.listExtendWith (.ref s.heap.objs.size) (.ref it) (.ref s.heap.objs.size)) _ _ _
  refine wpAny_mono (wpAny_extend_seq (hsz := hsz) (A := A) (R := fun r s' => r = .ok (.ret (.ref s.heap.objs.size)) ∧ s' = { s with heap := g1 }) (s := { s with heap := g0 }) _ it _ 0 hT a0 (Heap.get?_push_of_some _ ho) hc hd ⟨rfl, rfl⟩) (fun fin s' q => ?_) fun e s' q => absurd q.1 (by simp)
  cases fin with
  | done f => obtain ⟨e, rfl⟩ := q; cases e; exact last
  | again c' => exact ⟨q.1, codeAny_mono q.2 fun r s2 hr => by obtain ⟨rfl, rfl⟩ := hr; exact last⟩
theorem sorted_any {prog : Program} {w : World} {A : Around} {E : Value → Shared → Prop} {s : Shared} {x : Value} {β : Type} {R : Value → β → Prop} {vs : List Value} {bs : List β} {enc : β → PyData} {Q : Value → Shared → Prop}
    (hcol : ∀ (Q' : List Value → Shared → Prop), (∀ h', s.heap.objs.size ≤ h'.objs.size → (∀ b o, s.heap.get? b = some o → h'.get? b = some o) → Q' vs { s with heap := h' }) → wpAny (model prog w) A.in1 (collect x) Q' E s)
    (e : PySem.W.EachIs R vs bs) (er : PySem.W.EachIs (fun v b => ∃ as, Reads s.heap v (enc b) as) vs bs) (hal : PySem.W.AllAlike (bs.map enc)) (hk : PySem.W.Sortable (bs.map enc)) (hL : bs.length ≤ sizeLine) (hu : ∀ b, b ∈ bs → A.units + 2 + (enc b).depth < cLine)
    (h : ∀ out p c h', (∀ b o, s.heap.get? b = some o → h'.get? b = some o) → s.heap.objs.size ≤ p → h'.get? p = some (seqObj "list" (List.toArray out) c) → PySem.W.EachIs R out (bs.mergeSort (PySem.W.dataLe false enc)) → Q (.ref p) { s with heap := h' }) :
    wpAny (model prog w) A (call (.builtin "sorted") [x]) Q E s := by
  refine call_function_entry_kw kind_sorted plain_sorted entry_sorted (args_sorted1 _) ?_
  have hv : vs.length ≤ sizeLine := by rw [e.length]; exact hL
  unfold Builtin.«sorted»
  refine wpAny_bind (m := checkCount "sorted" 1 1 _) (wpAny_pure (wpAny_bind (hcol _ fun g hg kg => wpAny_bind (wpAny_newList ?_ hv))))
  have at_ : (g.push (seqObj "list" vs.toArray 0)).get? g.objs.size = some (seqObj "list" vs.toArray 0) := Heap.get?_push_size _ rfl
  have up : ∀ b o, s.heap.get? b = some o → b ≠ g.objs.size ∧ (g.push (seqObj "list" vs.toArray 0)).get? b = some o := fun b o q => ⟨Nat.ne_of_lt (Heap.lt_size (kg b o q)), Heap.get?_push_of_some _ (kg b o q)⟩
  have er' : PySem.W.EachIs (fun v b => ∃ as, Reads (PySem.W.sortingHeap (g.push (seqObj "list" vs.toArray 0)) g.objs.size vs) v (enc b) as) vs bs := er.mono fun _ _ ⟨as, r⟩ => ⟨as, PyProof.Rows.Reads.keeps (fun b o q => PySem.W.sortingHeap_old (up b o q).1 (up b o q).2) r⟩
  refine wpAny_bind (wpAny_holding (wpAny_call_entry_kw slot_list_sort ⟨_, at_, rfl⟩ entry_list_sort ?_ (args_list_sort _)))
  refine PySem.W.list_sort_vals (s := { s with heap := g.push (seqObj "list" vs.toArray 0) }) at_ (PySem.W.SortsAt.data (s := { s with heap := PySem.W.sortingHeap (g.push (seqObj "list" vs.toArray 0)) g.objs.size vs }) (PySem.W.each_map (R := fun v d => ∃ as, Reads (PySem.W.sortingHeap (g.push (seqObj "list" vs.toArray 0)) g.objs.size vs) v d as) enc er') hal hk (PySem.W.bound_map (A := A.in1.in1) hu)) hv ?_
  refine ⟨_, rfl, wpAny_pure ⟨_, rfl, ?_⟩⟩
  obtain ⟨c, hc⟩ := sortedHeap_at (vs := vs) (out := (PySem.W.sortVals (PySem.W.dataKind (PySem.W.sortingHeap (g.push (seqObj "list" vs.toArray 0)) g.objs.size vs) (bs.map enc)) false vs vs).toArray) at_
  exact h _ _ c _ (fun b o q => by rw [sortedHeap_old (up b o q).1 (Heap.lt_size (up b o q).2)]; exact (up b o q).2) hg hc (PySem.W.sortVals_data false e er' hal)
def rSortedA (K : PySem.W.Frag) : List V → Hp → VK → Prop := fun vs H Q => ∃ (a : Addr) (bs : List (V × D)), vs = [.ref a] ∧ (SqL K H a (bs.map (·.1)) ∨ SqT K H a (bs.map (·.1))) ∧ (∀ b ∈ bs, Dp K H b.1 b.2) ∧ PySem.W.AllAlike (bs.map (·.2)) ∧ PySem.W.Sortable (bs.map (·.2)) ∧
  (∀ b ∈ bs, b.2.depth ≤ 64) ∧ ∀ p, H p = none → Q (.ref p) (upd H p (.lst ((bs.mergeSort (PySem.W.dataLe false (·.2))).map (·.1))))
theorem each_zip {I : Prop} {s : Shared} {K : PySem.W.Frag} {H : Hp} (rd : ∀ (d : D) (v : V) (u : Value), Dp K H v d → RelV v u → ∃ as, Reads s.heap u d as) : ∀ {bs : List (V × D)} {its : List Value}, Vals (bs.map (·.1)) its → (∀ b ∈ bs, Dp K H b.1 b.2) →
    PySem.W.EachIs (fun (u : Value) (b : V × D) => RelV b.1 u) its bs ∧ PySem.W.EachIs (fun (u : Value) (b : V × D) => ∃ as, Reads s.heap u b.2 as) its bs
  | [], _, r, _ => by cases r; exact ⟨.nil, .nil⟩
  | b :: bs, _, r, q => by
    cases r with
    | cons r1 r2 =>
      obtain ⟨h1, h2⟩ := each_zip (I := I) rd r2 fun b hb => q b (List.mem_cons_of_mem _ hb)
      exact ⟨.cons r1 h1, .cons (rd _ _ _ (q b List.mem_cons_self) r1) h2⟩
theorem each_vals : ∀ {out : List Value} {bs : List (V × D)}, PySem.W.EachIs (fun (u : Value) (b : V × D) => RelV b.1 u) out bs → Vals (bs.map (·.1)) out
  | _, _, .nil => .nil
  | _, _, .cons a t => .cons a (each_vals t)
theorem cr_sortedA {k : Nat} (hr : Room k X.A) : CallR X (.builtin "sorted") (rSortedA X.K) := by
  intro pins s σ H vs us Q I rv q
  obtain ⟨a, bs, rfl, hs, hd, hal, hk, hdep, q⟩ := q
  obtain rfl := Vals.ref1 rv
  obtain ⟨its, T, o, n, vl, ho, hc, hdat, hT, hz⟩ : ∃ (its : List Value) (T : String) (o : Obj) (n : Nat), Vals (bs.map (·.1)) its ∧ s.heap.get? a = some o ∧ o.cls = .type T ∧ o.data = .seq its.toArray n ∧ (T = "list" ∨ T = "tuple") ∧ (bs.map (·.1)).length ≤ sizeLine := by
    rcases hs with hs | hs
    · obtain ⟨its, vl, ⟨o, n, h1, h2, _, h3⟩, hz⟩ := I.list hs
      exact ⟨its, "list", o, n, vl, h1, h2, h3, .inl rfl, hz⟩
    · obtain ⟨its, vl, ⟨o, h1, h2, n, h3⟩, hz⟩ := I.tuple hs
      exact ⟨its, "tuple", o, n, vl, h1, h2, h3, .inr rfl, hz⟩
  have hl : bs.length ≤ sizeLine := by rw [List.length_map] at hz; exact hz
  obtain ⟨e1, e2⟩ := each_zip (I := True) (fun d v u => Dp.reads I d v u) vl hd
  refine sorted_any (x := .ref a) (vs := its) (bs := bs) (enc := (·.2)) (fun Q' k => collect_grown a hT ho hc hdat (by have := vl.length; simp only [List.size_toArray]; omega) fun h' hz kh => k h' hz kh) e1 e2 hal hk hl (fun b hb => by have := hr.un; have := hdep b hb; show X.A.units + 2 + b.2.depth < cLine; omega) fun out p c h' kp hp hD eo => ?_
  have vo := each_vals eo
  have hlen : ((bs.mergeSort (PySem.W.dataLe false (·.2))).map (·.1)).length ≤ sizeLine := by rw [List.length_map, List.length_mergeSort]; exact hl
  exact ⟨.ref p, upd H p (.lst ((bs.mergeSort (PySem.W.dataLe false (·.2))).map (·.1))), I.laid (t' := s.toks) kp hp ⟨hlen, out, c, vo, hD⟩, rfl, q p (I.hok.fresh hp)⟩
noncomputable def sortD (ds : List D) : List D := ds.mergeSort (PySem.W.dataLe false fun d => d)
def sortable (ds : List D) : Bool := (ds.all fun d => ds.all fun e => PySem.W.alike d e) && ((ds.all fun d => match d with | .tuple (_ :: _) => true | _ => false) || (ds.all fun d => match d with | .none => false | .tuple _ => false | _ => true)) && ds.all shp
noncomputable def sortW (m : Bool) (ws : List W) (h : Hh) : Option (W × Hh) := match ws with
  | [w] => match deref h w with
    | some (.list ds) => if sortable ds = true then mkL m (sortD ds) h else none
    | some (.tuple ds) => if sortable ds = true then mkL m (sortD ds) h else none
    | _ => none
  | _ => none
theorem rds_zip {M : Mm} {H : Hp} : ∀ {xs : List V} {ds : List D}, RDs M H xs ds → ∃ bs : List (V × D), xs = bs.map (·.1) ∧ ds = bs.map (·.2) ∧ ∀ b ∈ bs, RD M H b.1 b.2
  | _, _, .nil => ⟨[], rfl, rfl, fun b hb => by cases hb⟩
  | x :: xs, d :: ds, .cons a t => by
    obtain ⟨bs, e1, e2, q⟩ := rds_zip t
    refine ⟨(x, d) :: bs, by rw [e1]; rfl, by rw [e2]; rfl, fun b hb => ?_⟩
    rcases List.mem_cons.mp hb with rfl | hb
    · exact a
    · exact q b hb
theorem zip_rds {M : Mm} {H : Hp} : ∀ {bs : List (V × D)}, (∀ b ∈ bs, RD M H b.1 b.2) → RDs M H (bs.map (·.1)) (bs.map (·.2))
  | [], _ => .nil
  | b :: bs, q => .cons (q b List.mem_cons_self) (zip_rds fun c hc => q c (List.mem_cons_of_mem _ hc))
theorem sortable_ok {ds : List D} (h : sortable ds = true) : PySem.W.AllAlike ds ∧ PySem.W.Sortable ds ∧ ∀ d ∈ ds, shp d = true := by
  unfold sortable at h
  simp only [Bool.and_eq_true, Bool.or_eq_true, List.all_eq_true] at h
  obtain ⟨⟨h1, h2⟩, h3⟩ := h
  refine ⟨fun d hd d' hd' => h1 d hd d' hd', ?_, h3⟩
  rcases h2 with h2 | h2
  · refine .inl fun d hd => ?_
    have q := h2 d hd
    split at q
    · exact ⟨_, _, rfl⟩
    · cases q
  · refine .inr fun d hd => ⟨fun e => ?_, fun xs e => ?_⟩
    · subst e; exact absurd (h2 _ hd) (by simp)
    · subst e; exact absurd (h2 _ hd) (by simp)
theorem sort_imp {M : Mm} {H : Hp} {xs : List V} {ds : List D} {a : Addr} {m : Bool} {h : Hh} {Q : VK} (rep : Rep M H h) (q : RDs M H xs ds) (hs : SqL X.K H a xs ∨ SqT X.K H a xs) (hz : sortable ds = true) (c : Cont RV (mkL m (sortD ds) h) M H Q) : rSortedA X.K [.ref a] H Q := by
  obtain ⟨bs, rfl, rfl, qb⟩ := rds_zip q
  obtain ⟨h1, h2, h3⟩ := sortable_ok hz
  have h3' : ∀ b ∈ bs, shp b.2 = true := fun b hb => h3 _ (List.mem_map.mpr ⟨b, hb, rfl⟩)
  refine ⟨a, bs, rfl, hs, fun b hb => RD.dp (qb b hb) (SeqAt.canLay_of_shaped (h3' b hb)), h1, h2, fun b hb => SeqAt.depth_of_shaped (h3' b hb), fun p np => ?_⟩
  have e : sortD (bs.map (·.2)) = (bs.mergeSort (PySem.W.dataLe false (·.2))).map (·.2) := (PySem.W.sort_maps (r := PySem.W.dataLe false fun b : V × D => b.2) (s := PySem.W.dataLe false fun d : D => d) (fun b : V × D => b.2) (l := bs) fun _ _ _ _ => rfl).symm
  rw [e] at c
  exact mkL_fin rep np (zip_rds fun b hb => qb b ((List.mergeSort_perm bs _).mem_iff.mp hb)) c
theorem s_sorted (m : Bool) : SemA (rSortedA X.K) (sortW m) := by
  intro M H h vs ws Q rep rv c
  unfold sortW at c
  split at c
  · obtain ⟨v, rfl, r⟩ := rvs1 rv
    split at c
    · rename_i ds e
      obtain ⟨a, xs, rfl, ha, q⟩ := deref_rr rep r e
      split at c
      · rename_i hz
        exact sort_imp rep q (.inl (.of ha)) hz c
      · exact c.no.elim
    · rename_i ds e
      obtain ⟨a, xs, rfl, _, ha, q⟩ := rr_tup (deref_rr rep r e)
      split at c
      · rename_i hz
        exact sort_imp rep q (.inr ha.sq) hz c
      · exact c.no.elim
    · exact c.no.elim
  · exact c.no.elim
def isL (w : W) (h : Hh) : Bool := match deref h w with
  | some (.list _) => true
  | _ => false
def fM (chk : W → Hh → Bool) (sem : W → List W → Hh → Option (W × Hh)) (f : EM) (g : AM) : EM := fun ρ h => obnd (f ρ h) fun w h1 => if chk w h1 = true then obnd (g ρ h1) fun ws h2 => sem w ws h2 else none
def SemM (r : V → List V → Hp → VK → Prop) (sem : W → List W → Hh → Option (W × Hh)) : Prop := ∀ (M : Mm) (H : Hp) (h : Hh) (x : V) (w : W) (vs : List V) (ws : List W) (Q : VK), Rep M H h → RV M H x w → RVs M H vs ws → Cont RV (sem w ws h) M H Q → r x vs H Q
theorem isL_ty {K : PySem.W.Frag} {M : Mm} {H : Hp} {h : Hh} {v : V} {w : W} (rep : Rep M H h) (r : RV M H v w) (e : isL w h = true) : tyV K "list" v H := by
  unfold isL at e
  split at e
  · rename_i ds q
    obtain ⟨a, xs, rfl, ha, _⟩ := deref_rr rep r q
    exact .inl ⟨rfl, _, .of ha⟩
  · cases e
theorem meth_imp {K : PySem.W.Frag} {r : V → List V → Hp → VK → Prop} {sem : W → List W → Hh → Option (W × Hh)} {f : EM} {g : AM} (hs : SemM r sem) : ∀ σ H Q, tE (fM isL sem f g) σ H Q → tBM K "list" r (tE f) (tA g) σ H Q := fun σ H Q => by
  rintro ⟨M, h, ρ, r, rs, c⟩
  obtain ⟨w, h1, e1, c1⟩ := Cont.bind (δ := Unit) c
  refine ⟨M, h, ρ, r, rs, w, h1, e1, fun M1 H1 v x1 r1 v1 => ?_⟩
  have c2 := c1 M1 H1 x1
  split at c2
  · rename_i hl
    refine ⟨isL_ty r1 v1 hl, M1, h1, ρ, r1, rs.mono x1, ?_⟩
    obtain ⟨w2, h2, e2, c3⟩ := Cont.bind (δ := Unit) c2
    exact ⟨w2, h2, e2, fun M2 H2 v2 x2 r2 q2 => hs M2 H2 h2 _ w _ w2 Q r2 (v1.mono x2) q2 (c3 M2 H2 x2)⟩
  · exact c2.no.elim
def lstAt (h : Hh) (n : Nat) : Option (List D) := match h[n]? with
  | some (some (.lst ds)) => some ds
  | _ => none
theorem lstAt_ok {M : Mm} {H : Hp} {h : Hh} {n : Nat} {ds : List D} {a : Addr} (rep : Rep M H h) (e : lstAt h n = some ds) (ea : M.m[n]? = some (some a)) : ∃ xs, H a = some (.lst xs) ∧ RDs M H xs ds := by
  obtain ⟨o, ho, ro⟩ := rep.at_ n a ea
  unfold lstAt at e
  rw [ho] at e
  cases o with
  | lst ds' => cases e; exact ro
  | dic _ => cases e
  | dit _ => cases e
  | tab _ _ => cases e
  | ins _ _ => cases e
def setL (h : Hh) (n : Nat) (ds : List D) (r : D) : Option (W × Hh) := some (.dat r, h.set n (some (.lst ds)))
theorem setL_fin {M : Mm} {H : Hp} {h : Hh} {n : Nat} {a : Addr} {ds : List D} {d : D} {ys : List V} {v : V} {Q : VK} (rep : Rep M H h) (ea : M.m[n]? = some (some a)) (q : RDs M H ys ds) (rv : RD M H v d) (c : Cont RV (setL h n ds d) M H Q) : Q v (upd H a (.lst ys)) :=
  c.fin (ext_set ea) (rep.set ea ⟨ys, upd_same, q.mono (ext_set ea).ext⟩) (rv.mono (ext_set ea).ext)
def appendW (w : W) (ws : List W) (h : Hh) : Option (W × Hh) := match w, ws with
  | .ref n, [.dat d] => match lstAt h n with
    | some ds => if ds.length < sizeLine then setL h n (ds ++ [d]) .none else none
    | none => none
  | _, _ => none
theorem s_append : SemM rAppend appendW := by
  intro M H h x w vs ws Q rep rx rv c
  unfold appendW at c
  split at c
  · rename_i n d
    obtain ⟨a, ea, rfl⟩ := rx
    obtain ⟨v, rfl, r⟩ := rvs1 rv
    split at c
    · rename_i ds e
      obtain ⟨xs, ha, q⟩ := lstAt_ok rep e ea
      split at c
      · rename_i hz
        exact ⟨a, xs, v, rfl, rfl, ha, by rw [q.length]; exact hz, setL_fin rep ea (q.app (.cons r .nil)) .non c⟩
      · exact c.no.elim
    · exact c.no.elim
  · exact c.no.elim
def insertW (w : W) (ws : List W) (h : Hh) : Option (W × Hh) := match w, ws with
  | .ref n, [.dat (.int i), .dat d] => match lstAt h n with
    | some ds => if ds.length < sizeLine ∧ 0 ≤ i ∧ i < 1000000 then setL h n (ds.take i.toNat ++ [d] ++ ds.drop i.toNat) .none else none
    | none => none
  | _, _ => none
theorem s_insert : SemM (fun x vs H Q => ∃ (l : Addr) (xs : List V) (i : Int) (y : V), x = .ref l ∧ vs = [.int i, y] ∧ H l = some (.lst xs) ∧ xs.length < sizeLine ∧ 0 ≤ i ∧ i < 2 ^ 63 ∧ Q .non (upd H l (.lst (xs.take i.toNat ++ [y] ++ xs.drop i.toNat)))) insertW := by
  intro M H h x w vs ws Q rep rx rv c
  unfold insertW at c
  split at c
  · rename_i n i d
    obtain ⟨a, ea, rfl⟩ := rx
    obtain ⟨v, v', rfl, r, r'⟩ := rvs2 rv
    cases (show RD M H _ _ from r)
    split at c
    · rename_i ds e
      obtain ⟨xs, ha, q⟩ := lstAt_ok rep e ea
      split at c
      · rename_i hz
        exact ⟨a, xs, i, v', rfl, rfl, ha, by rw [q.length]; exact hz.1, hz.2.1, by omega, setL_fin rep ea (((q.take _).app (.cons r' .nil)).app (q.drop _)) .non c⟩
      · exact c.no.elim
    · exact c.no.elim
  · exact c.no.elim
end
end DL
set_option maxRecDepth 100000
set_option maxHeartbeats 4000000
namespace DL
open PySem PySem.Spec PyProof.Rows L2
variable [HW]
abbrev TM := W → Env → Hh → Option Env
abbrev TMs := List D → Env → Hh → Option Env
def tGd (ts : List Nat) (g : TM) : TG := fun v σ H Q => ∃ M h ρ w ρ', Rep M H h ∧ RS M H ρ σ ∧ RV M H v w ∧ g w ρ h = some ρ' ∧ ∀ σ' : L2.St, RS M H ρ' σ' → σ'.length = σ.length → (∀ j, j ∉ ts → σ'[j]? = σ[j]?) → Q σ' H
def tGds (ts : List Nat) (g : TMs) : TGs := fun vs σ H Q => ∃ M h ρ ds ρ', Rep M H h ∧ RS M H ρ σ ∧ RDs M H vs ds ∧ g ds ρ h = some ρ' ∧ ∀ σ' : L2.St, RS M H ρ' σ' → σ'.length = σ.length → (∀ j, j ∉ ts → σ'[j]? = σ[j]?) → Q σ' H
abbrev DG (X : Cx) (tg : Expr) (ts : List Nat) (g : TM) : Prop := PG X tg (tGd ts g)
abbrev DGs (X : Cx) (tgs : List Expr) (ts : List Nat) (g : TMs) : Prop := PGs X tgs (tGds ts g)
theorem _root_.L2.PGs.weak {X : Cx} {e : List Expr} {t t' : TGs} (h : PGs X e t) (i : ∀ v σ H Q, t' v σ H Q → t v σ H Q) : PGs X e t' := ⟨fun pins s σ H v u Q I r q => h.run pins s σ H v u Q I r (i v σ H Q q)⟩
def gN (i : Nat) : TM := fun w ρ _ => some (ρ.set i (some w))
def gE : TMs := fun ds ρ _ => match ds with
  | [] => some ρ
  | _ => none
def gC (g : TM) (k : TMs) : TMs := fun ds ρ h => match ds with
  | d :: ds => match g (.dat d) ρ h with
    | some ρ' => k ds ρ' h
    | none => none
  | [] => none
def gT (n : Nat) (k : TMs) : TM := fun w ρ h => match deref h w with
  | some (.tuple ds) => if ds.length = n then k ds ρ h else none
  | some (.list ds) => if ds.length = n then k ds ρ h else none
  | _ => none
section
variable {X : Cx}
theorem dg_name (i : Nat) {x : Str} {pos : Pos} (h : PG X (.Name x pos) (gName i)) : DG X (.Name x pos) [i] (gN i) := h.weak fun v σ H Q => by
  rintro ⟨M, h, ρ, w, ρ', r, rs, rv, e, q⟩
  cases e
  exact q _ (rs.set rv) (by simp) fun j hj => List.getElem?_set_ne (fun z => hj (by simp [z]))
theorem dgs_nil : DGs X [] [] gE := pgs_nil.weak fun v σ H Q => by
  rintro ⟨M, h, ρ, ds, ρ', r, rs, rv, e, q⟩
  unfold gE at e
  split at e
  · cases e; cases rv; exact ⟨rfl, q σ rs rfl fun _ _ => rfl⟩
  · cases e
theorem dgs_cons {tg : Expr} {tgs : List Expr} {ts ts' : List Nat} {g : TM} {k : TMs} (h1 : DG X tg ts g) (h2 : DGs X tgs ts' k) (hs : (assignEach (tg :: tgs) X.env).map (·.2) = assign tg X.env :: (assignEach tgs X.env).map (·.2) := by rfl) : DGs X (tg :: tgs) (ts ++ ts') (gC g k) :=
  (pgs_cons h1 h2 hs).weak fun v σ H Q => by
    rintro ⟨M, h, ρ, ds, ρ', r, rs, rv, e, q⟩
    unfold gC at e
    split at e
    · rename_i d ds'
      split at e
      · rename_i ρ1 e1
        cases rv with
        | cons a t =>
          refine ⟨_, _, rfl, M, h, ρ, .dat d, ρ1, r, rs, a, e1, fun σ1 rs1 l1 o1 => ⟨M, h, ρ1, ds', ρ', r, rs1, t, e, fun σ2 rs2 l2 o2 => q σ2 rs2 (l2.trans l1) fun j hj => ?_⟩⟩
          rw [o2 j (fun z => hj (List.mem_append_right _ z)), o1 j (fun z => hj (List.mem_append_left _ z))]
      · cases e
    · cases e
theorem _root_.L2.PG.or {tg : Expr} {t t' : TG} (h : PG X tg t) (h' : PG X tg t') : PG X tg (fun v σ H Q => t v σ H Q ∨ t' v σ H Q) := ⟨fun pins s σ H v u Q I r q => q.elim (h.run pins s σ H v u Q I r) (h'.run pins s σ H v u Q I r)⟩
theorem dg_tup {tgs : List Expr} {k : Nat} {pos : Pos} {ts : List Nat} {g : TMs} {n : Nat} (hc : X.calm = true) (h : DGs X tgs ts g) (hn : (assignEach tgs X.env).length = n := by rfl) (hst : (assignEach tgs X.env).findIdx? (·.1) = none := by rfl) : DG X (.Tuple tgs k pos) ts (gT n g) :=
  ((pg_tup hc h hn hst).or (pg_unl hc h hn hst)).weak fun v σ H Q => by
    rintro ⟨M, h, ρ, w, ρ', r, rs, rv, e, q⟩
    unfold gT at e
    split at e
    · rename_i ds ed
      obtain ⟨a, xs, rfl, _, ha, qa⟩ := rr_tup (deref_rr r rv ed)
      split at e
      · rename_i hz
        exact .inl ⟨a, xs, rfl, ha.sq, by rw [qa.length]; exact hz, M, h, ρ, ds, ρ', r, rs, qa, e, q⟩
      · cases e
    · rename_i ds ed
      obtain ⟨a, xs, rfl, ha, qa⟩ := deref_rr r rv ed
      split at e
      · rename_i hz
        exact .inr ⟨a, xs, rfl, .of ha, by rw [qa.length]; exact hz, M, h, ρ, ds, ρ', r, rs, qa, e, q⟩
      · cases e
    · cases e
end
theorem Rep.grow {M : Mm} {H H' : Hp} {h : Hh} (r : Rep M H h) (s : Same H H') : Rep M H' h ∧ ExtE M M H H' := by
  have x : ExtE M M H H' := ⟨rfl, fun a o e => ⟨o, s a o e⟩, fun a o e _ => s a o e, fun _ m => .inl m, Nat.le_refl _, fun _ _ => rfl⟩
  refine ⟨⟨fun a m => ?_, r.len, r.inj, fun i a e => ?_, r.dead⟩, x⟩
  · obtain ⟨h1, o, e, ht⟩ := r.us a m
    exact ⟨h1, o, s a o e, ht⟩
  · obtain ⟨u, hu, ro⟩ := r.at_ i a e
    obtain ⟨z, hz⟩ := ro.some_
    exact ⟨u, hu, ro.move x.ext (by rw [hz]; exact s a z hz)⟩
theorem new_out {M : Mm} {H : Hp} (tr : ∀ a, M.Has a → ∃ o, H a = some o ∧ tpO o = false) {T : Addr} (n : H T = none) : ¬ M.Has T := fun z => by
  obtain ⟨o, e, _⟩ := tr T z
  rw [n] at e; cases e
theorem grow_ext {M : Mm} {H H' : Hp} (s : Same H H') : Ext M M H H' := ⟨fun _ m => .inl m, fun a o e => ⟨o, s a o e⟩, fun a o e _ => s a o e, fun _ m => .inl m, Nat.le_refl _, fun _ _ => .inl rfl⟩
def ItD (M : Mm) (H : Hp) (J : It) (ds : List D) : Prop := ∀ M1 H1, Ext M M1 H H1 → (∀ a, M1.Has a → ∃ o, H1 a = some o ∧ tpO o = false) → (∀ (i : Nat) (d : D), ds[i]? = some d → J.go i H1 ∧ ∀ x H2, J.yld i H1 x H2 → Same H1 H2 ∧ RD M1 H2 x d) ∧ J.stop ds.length H1
abbrev IM := Env → Hh → Option (List D × Hh)
def tI (g : IM) : TI := fun σ H R => ∃ M h ρ ds h', Rep M H h ∧ RS M H ρ σ ∧ g ρ h = some (ds, h') ∧ ∀ M' H' J, ExtE M M' H H' → Rep M' H' h' → ItD M' H' J ds → R J H'
abbrev DI (X : Cx) (tg it : Expr) (g : IM) : Prop := PI X tg it (tI g)
theorem _root_.L2.PI.or {X : Cx} {tg e : Expr} {t t' : TI} (h : PI X tg e t) (h' : PI X tg e t') : PI X tg e (fun σ H R => t σ H R ∨ t' σ H R) := ⟨fun pins s σ H R I q => q.elim (h.run pins s σ H R I) (h'.run pins s σ H R I)⟩
theorem same_refl' {H : Hp} : Same H H := fun _ _ e => e
theorem same_new {H : Hp} {p : Addr} {o : HO} (n : H p = none) : Same H (upd H p o) := fun b x e => by rw [upd_ne (ne_of_none e n)]; exact e
theorem itd_list {K : PySem.W.Frag} {M : Mm} {H : Hp} {a : Addr} {xs : List V} {ds : List D} (n : ¬ M.Has a) (ha : H a = some (.lst xs)) (q : RDs M H xs ds) : ItD M H (Itl K a) ds := fun M1 H1 x tr => by
  have ha1 := x.st n ha
  have q1 := q.mono x
  refine ⟨fun i d e => ?_, ⟨xs, .of ha1, by rw [q.length]; exact Nat.le_refl _⟩⟩
  obtain ⟨v, ev, rv⟩ := q1.get e
  refine ⟨⟨xs, v, .of ha1, ev⟩, fun y H2 hy => ?_⟩
  obtain ⟨e2, hy⟩ := hy
  subst e2
  have := hy xs (.of ha1)
  rw [ev] at this; cases this
  exact ⟨same_refl', rv⟩
theorem itd_tup {K : PySem.W.Frag} {M : Mm} {H : Hp} {a : Addr} {xs : List V} {ds : List D} (n : ¬ M.Has a) (ha : TupAt H a xs ds) (q : RDs M H xs ds) : ItD M H (Itt K a) ds := fun M1 H1 x tr => by
  have ha1 := (ha.to fun _ z => x.st n z).sq (K := K)
  have q1 := q.mono x
  refine ⟨fun i d e => ?_, ⟨xs, ha1, by rw [q.length]; exact Nat.le_refl _⟩⟩
  obtain ⟨v, ev, rv⟩ := q1.get e
  refine ⟨⟨xs, v, ha1, ev⟩, fun y H2 hy => ?_⟩
  obtain ⟨e2, hy⟩ := hy
  subst e2
  have := hy xs ha1
  rw [ev] at this; cases this
  exact ⟨same_refl', rv⟩
def seqI (f : EM) : IM := fun ρ h => obnd (f ρ h) fun w h1 => match w with
  | .dat (.list ds) => some (ds, h1)
  | .dat (.tuple ds) => some (ds, h1)
  | _ => none
section
variable {X : Cx} {tg : Expr}
theorem di_seq {e : Expr} {f : EM} (he : DE X e f) : DI X tg e (seqI f) := ((pi_list he).or (pi_tup he)).weak fun σ H R => by
  rintro ⟨M, h, ρ, ds, h', r, rs, e, q⟩
  unfold seqI at e
  cases ef : f ρ h with
  | none => rw [ef] at e; cases e
  | some p =>
    obtain ⟨w, h1⟩ := p
    rw [ef] at e
    simp only [obnd_some] at e
    split at e
    · cases e
      refine .inl ⟨M, h, ρ, r, rs, _, _, ef, fun M1 H1 v x1 r1 v1 => ?_⟩
      cases (show RD M1 H1 v _ from v1) with
      | lst n ha qa => exact ⟨_, rfl, ⟨_, .of ha⟩, q M1 H1 _ x1 r1 (itd_list n ha qa)⟩
    · cases e
      refine .inr ⟨M, h, ρ, r, rs, _, _, ef, fun M1 H1 v x1 r1 v1 => ?_⟩
      cases (show RD M1 H1 v _ from v1) with
      | tup n ha qa => exact ⟨_, rfl, ⟨_, ha.sq⟩, q M1 H1 _ x1 r1 (itd_tup n ha qa)⟩
    · cases e
def rngD (lo : Int) (n : Nat) : List D := (List.range n).map fun (i : Nat) => .int (lo + (i : Int))
theorem rngD_get {lo : Int} {n i : Nat} {d : D} (e : (rngD lo n)[i]? = some d) : i < n ∧ d = .int (lo + i) := by
  unfold rngD at e
  rw [List.getElem?_map] at e
  cases q : (List.range n)[i]? with
  | none => rw [q] at e; cases e
  | some j =>
    rw [q] at e
    obtain ⟨h1, h2⟩ := List.getElem?_eq_some_iff.mp q
    rw [List.length_range] at h1
    rw [List.getElem_range] at h2
    subst h2
    exact ⟨h1, by simpa using e.symm⟩
theorem itd_rng {M : Mm} {H : Hp} {lo : Int} {n : Nat} : ItD M H (Itr lo n) (rngD lo n) := fun M1 H1 x tr => by
  refine ⟨fun i d e => ?_, ?_⟩
  · obtain ⟨h1, rfl⟩ := rngD_get e
    exact ⟨h1, fun y H2 hy => by obtain ⟨e1, e2⟩ := hy; subst e1 e2; exact ⟨same_refl', .int _⟩⟩
  · show n ≤ _
    simp [rngD]
def rng1I (g : AM) : IM := fun ρ h => obnd (g ρ h) fun ws h1 => match ws with
  | [.dat (.int j)] => if -1000000000 ≤ j ∧ j ≤ 1000000000 then some (rngD 0 j.toNat, h1) else none
  | _ => none
def rng2I (g : AM) : IM := fun ρ h => obnd (g ρ h) fun ws h1 => match ws with
  | [.dat (.int i), .dat (.int j)] => if -1000000000 ≤ i ∧ i ≤ 1000000000 ∧ -1000000000 ≤ j ∧ j ≤ 1000000000 then some (rngD i (j - i).toNat, h1) else none
  | _ => none
theorem di_rng1 (hm : X.mg "range" = none) {a : Expr} {p pos : Pos} {g : AM} (ha : DA X [a] g) (hg : Gl X "range" := by rfl) (hs : starEach [a] X.env = [(false, eval a X.env)] := by rfl) : DI X tg (.Call (.Name "range" p) [a] [] pos) (rng1I g) := (pi_range1 hg hm ha hs).weak fun σ H R => by
  rintro ⟨M, h, ρ, ds, h', r, rs, e, q⟩
  unfold rng1I at e
  cases ef : g ρ h with
  | none => rw [ef] at e; cases e
  | some p =>
    obtain ⟨ws, h1⟩ := p
    rw [ef] at e
    simp only [obnd_some] at e
    split at e
    · split at e
      · rename_i hz
        cases e
        refine ⟨M, h, ρ, r, rs, _, _, ef, fun M1 H1 v x1 r1 v1 => ?_⟩
        obtain ⟨v, rfl, rv⟩ := rvs1 v1
        cases (show RD M1 H1 v _ from rv)
        exact ⟨_, rfl, by omega, by omega, q M1 H1 _ x1 r1 itd_rng⟩
      · cases e
    · cases e
def enumD : Nat → List D → List D
  | _, [] => []
  | i, d :: ds => .tuple [.int (i : Int), d] :: enumD (i + 1) ds
theorem enumD_get : ∀ {ds : List D} {k i : Nat} {d : D}, (enumD k ds)[i]? = some d → ∃ e, ds[i]? = some e ∧ d = .tuple [.int ((k + i : Nat) : Int), e]
  | [], _, _, _, e => by simp [enumD] at e
  | e :: ds, k, 0, d, h => by simp [enumD] at h; exact ⟨e, rfl, by rw [← h]; rfl⟩
  | e :: ds, k, i + 1, d, h => by
    obtain ⟨e', h1, h2⟩ := enumD_get (ds := ds) (k := k + 1) (i := i) (d := d) (by simpa [enumD] using h)
    exact ⟨e', by simpa using h1, by rw [h2, show k + 1 + i = k + (i + 1) by omega]⟩
theorem enumD_len : ∀ (k : Nat) (ds : List D), (enumD k ds).length = ds.length
  | _, [] => rfl
  | k, d :: ds => by simp [enumD, enumD_len (k + 1) ds]
theorem itd_enum {K : PySem.W.Frag} {M : Mm} {H : Hp} {a : Addr} {xs : List V} {ds : List D} (n : ¬ M.Has a) (ha : H a = some (.lst xs)) (q : RDs M H xs ds) : ItD M H (Ite K a) (enumD 0 ds) := fun M1 H1 x tr => by
  have ha1 := x.st n ha
  have q1 := q.mono x
  refine ⟨fun i d e => ?_, ⟨xs, .of ha1, by rw [q.length, enumD_len]; exact Nat.le_refl _⟩⟩
  obtain ⟨d', e', rfl⟩ := enumD_get e
  obtain ⟨v, ev, rv⟩ := q1.get e'
  refine ⟨⟨xs, v, .of ha1, ev⟩, fun y H2 hy => ?_⟩
  obtain ⟨T, z, rfl, nT, rfl, hz⟩ := hy
  have := hz xs (.of ha1)
  rw [ev] at this; cases this
  refine ⟨same_new nT, .tup (fun z => new_out tr nT z) (.inl ⟨rfl, upd_same⟩) (.cons ?_ (.cons (rv.mono (grow_ext (same_new nT))) .nil))⟩
  rw [Nat.zero_add]; exact .int _
def zipD : List D → List D → List D
  | x :: xs, y :: ys => .tuple [x, y] :: zipD xs ys
  | _, _ => []
theorem zipD_get : ∀ {xs ys : List D} {i : Nat} {d : D}, (zipD xs ys)[i]? = some d → ∃ x y, xs[i]? = some x ∧ ys[i]? = some y ∧ d = .tuple [x, y]
  | [], _, _, _, e => by simp [zipD] at e
  | _ :: _, [], _, _, e => by simp [zipD] at e
  | x :: xs, y :: ys, 0, d, e => by simp [zipD] at e; exact ⟨x, y, rfl, rfl, e.symm⟩
  | x :: xs, y :: ys, i + 1, d, e => by
    obtain ⟨a, b, h1, h2, h3⟩ := zipD_get (xs := xs) (ys := ys) (i := i) (d := d) (by simpa [zipD] using e)
    exact ⟨a, b, by simpa using h1, by simpa using h2, h3⟩
def notCall : D → Bool
  | .tuple l => !callD l
  | _ => true
def zipOk (xs ys : List D) : Bool := (zipD xs ys).all notCall
theorem zipOk_get {xs ys : List D} {i : Nat} {l : List D} (ok : zipOk xs ys = true) (e : (zipD xs ys)[i]? = some (.tuple l)) : callD l = false := by
  have := List.all_eq_true.mp ok _ (List.mem_of_getElem? e)
  simpa [notCall] using this
theorem zipD_len : ∀ (xs ys : List D), (zipD xs ys).length = min xs.length ys.length
  | [], _ => by simp [zipD]
  | _ :: _, [] => by simp [zipD]
  | x :: xs, y :: ys => by simp only [zipD, List.length_cons, zipD_len xs ys]; omega
theorem itd_zip {K : PySem.W.Frag} {M : Mm} {H : Hp} {a b : Addr} {xs ys : List V} {ds es : List D} (n : ¬ M.Has a) (ha : H a = some (.lst xs)) (q : RDs M H xs ds) (n' : ¬ M.Has b) (hb : H b = some (.lst ys)) (q' : RDs M H ys es) (ok : zipOk ds es = true) : ItD M H (Itz K a b) (zipD ds es) := fun M1 H1 x tr => by
  have ha1 := x.st n ha
  have hb1 := x.st n' hb
  refine ⟨fun i d e => ?_, ⟨xs, ys, .of ha1, .of hb1, by rw [q.length, q'.length, zipD_len]; omega⟩⟩
  obtain ⟨d1, d2, e1, e2, rfl⟩ := zipD_get e
  obtain ⟨v, ev, rv⟩ := (q.mono x).get e1
  obtain ⟨v', ev', rv'⟩ := (q'.mono x).get e2
  refine ⟨⟨xs, ys, v, v', .of ha1, .of hb1, ev, ev'⟩, fun y H2 hy => ?_⟩
  obtain ⟨T, z, z', rfl, nT, rfl, hz, hz'⟩ := hy
  have t1 := hz xs (.of ha1)
  rw [ev] at t1; cases t1
  have t2 := hz' ys (.of hb1)
  rw [ev'] at t2; cases t2
  exact ⟨same_new nT, .tup (fun z => new_out tr nT z) (.inl ⟨zipOk_get ok e, upd_same⟩) (.cons (rv.mono (grow_ext (same_new nT))) (.cons (rv'.mono (grow_ext (same_new nT))) .nil))⟩
theorem itd_zipT {K : PySem.W.Frag} {M : Mm} {H : Hp} {a b : Addr} {xs ys : List V} {ds es : List D} (n : ¬ M.Has a) (ha : TupAt H a xs ds) (q : RDs M H xs ds) (n' : ¬ M.Has b) (hb : TupAt H b ys es) (q' : RDs M H ys es) (ok : zipOk ds es = true) : ItD M H (RZ.ItzT K a b) (zipD ds es) := fun M1 H1 x tr => by
  have ha1 := (ha.to fun _ z => x.st n z).sq (K := K)
  have hb1 := (hb.to fun _ z => x.st n' z).sq (K := K)
  refine ⟨fun i d e => ?_, ⟨xs, ys, ha1, hb1, by rw [q.length, q'.length, zipD_len]; omega⟩⟩
  obtain ⟨d1, d2, e1, e2, rfl⟩ := zipD_get e
  obtain ⟨v, ev, rv⟩ := (q.mono x).get e1
  obtain ⟨v', ev', rv'⟩ := (q'.mono x).get e2
  refine ⟨⟨xs, ys, v, v', ha1, hb1, ev, ev'⟩, fun y H2 hy => ?_⟩
  obtain ⟨T, z, z', rfl, nT, rfl, hz, hz'⟩ := hy
  have t1 := hz xs ha1
  rw [ev] at t1; cases t1
  have t2 := hz' ys hb1
  rw [ev'] at t2; cases t2
  exact ⟨same_new nT, .tup (fun z => new_out tr nT z) (.inl ⟨zipOk_get ok e, upd_same⟩) (.cons (rv.mono (grow_ext (same_new nT))) (.cons (rv'.mono (grow_ext (same_new nT))) .nil))⟩
def zipI (g : AM) : IM := fun ρ h => obnd (g ρ h) fun ws h1 => match ws with
  | [.dat (.list ds), .dat (.list es)] => if zipOk ds es = true then some (zipD ds es, h1) else none
  | [.dat (.tuple ds), .dat (.tuple es)] => if zipOk ds es = true then some (zipD ds es, h1) else none
  | _ => none
theorem di_zip (hm : X.mg "zip" = none) {e e2 : Expr} {elts : List Expr} {kk : Nat} {p pos tpos : Pos} {g : AM} (ha : DA X [e, e2] g) (hg : Gl X "zip" := by rfl) (hs : starEach [e, e2] X.env = (false, eval e X.env) :: starEach [e2] X.env := by rfl) (hpl : (backTo pos (starEach [e2] X.env)).any (·.1) = false := by rfl) :
    DI X (.Tuple elts kk tpos) (.Call (.Name "zip" p) [e, e2] [] pos) (zipI g) := (RZ.pi_zipA hg hm ha hs hpl).weak fun σ H R => by
  rintro ⟨M, h, ρ, ds, h', r, rs, e, q⟩
  unfold zipI at e
  cases ef : g ρ h with
  | none => rw [ef] at e; cases e
  | some p =>
    obtain ⟨ws, h1⟩ := p
    rw [ef] at e
    simp only [obnd_some] at e
    split at e
    · split at e
      rotate_left
      · cases e
      rename_i ok
      cases e
      refine ⟨M, h, ρ, r, rs, _, _, ef, fun M1 H1 v x1 r1 v1 => ?_⟩
      obtain ⟨v, v', rfl, rv, rv'⟩ := rvs2 v1
      cases (show RD M1 H1 v _ from rv) with
      | lst n ha qa =>
        cases (show RD M1 H1 v' _ from rv') with
        | lst n' hb qb => exact ⟨_, _, _, _, rfl, .inl ⟨.of ha, .of hb, q M1 H1 _ x1 r1 (itd_zip n ha qa n' hb qb ok)⟩⟩
    · split at e
      rotate_left
      · cases e
      rename_i ok
      cases e
      refine ⟨M, h, ρ, r, rs, _, _, ef, fun M1 H1 v x1 r1 v1 => ?_⟩
      obtain ⟨v, v', rfl, rv, rv'⟩ := rvs2 v1
      cases (show RD M1 H1 v _ from rv) with
      | tup n ha qa =>
        cases (show RD M1 H1 v' _ from rv') with
        | tup n' hb qb => exact ⟨_, _, _, _, rfl, .inr ⟨ha.sq, hb.sq, q M1 H1 _ x1 r1 (itd_zipT n ha qa n' hb qb ok)⟩⟩
    · cases e
def signs (z : Str) : List D := z.cps.toList.map fun c => .str ⟨#[c]⟩
def strI (f : EM) : IM := fun ρ h => obnd (f ρ h) fun w h1 => match w with
  | .dat (.str z) => some (signs z, h1)
  | _ => none
theorem itd_str {M : Mm} {H : Hp} {z : Str} : ItD M H (Its z) (signs z) := fun M1 H1 x tr => by
  refine ⟨fun i d e => ?_, by show z.cps.size ≤ _; simp [signs]⟩
  unfold signs at e
  rw [List.getElem?_map] at e
  cases q : z.cps.toList[i]? with
  | none => rw [q] at e; cases e
  | some c =>
    rw [q] at e
    have q' : z.cps[i]? = some c := by simpa using q
    have hi : i < z.cps.size := by simpa using lt_of_get q
    refine ⟨hi, fun y H2 hy => ?_⟩
    obtain ⟨e2, c', ec, rfl⟩ := hy
    subst e2
    rw [q'] at ec; cases ec
    have e' : PyData.str ⟨#[c]⟩ = d := by simpa using e
    subst e'
    exact ⟨same_refl', .str _⟩
theorem di_str {e : Expr} {f : EM} (he : DE X e f) : DI X tg e (strI f) := (pi_str he).weak fun σ H R => by
  rintro ⟨M, h, ρ, ds, h', r, rs, e, q⟩
  unfold strI at e
  cases ef : f ρ h with
  | none => rw [ef] at e; cases e
  | some p =>
    obtain ⟨w, h1⟩ := p
    rw [ef] at e
    simp only [obnd_some] at e
    split at e
    · cases e
      refine ⟨M, h, ρ, r, rs, _, _, ef, fun M1 H1 v x1 r1 v1 => ?_⟩
      cases (show RD M1 H1 v _ from v1)
      exact ⟨_, rfl, q M1 H1 _ x1 r1 itd_str⟩
    · cases e
end
end DL
set_option maxRecDepth 100000
set_option maxHeartbeats 4000000
namespace DL
open PySem PySem.Spec PyProof.Rows L2
variable [HW]
def wipeE (ρ : Env) : List Nat → Env
  | [] => ρ
  | v :: vs => (wipeE ρ vs).set v none
theorem RS.none_at {M : Mm} {H : Hp} {ρ : Env} {σ : L2.St} (r : RS M H ρ σ) (i : Nat) : RS M H (ρ.set i none) (σ.set i none) := by
  refine ⟨by simp [r.1], fun j u e => ?_⟩
  by_cases hj : i = j
  · subst hj
    by_cases hi : i < ρ.length
    · rw [List.getElem?_set_self hi] at e; cases e
    · rw [List.getElem?_eq_none (by simpa using hi)] at e; cases e
  · rw [List.getElem?_set_ne hj] at e ⊢
    exact r.2 j u e
theorem RS.wipe {M : Mm} {H : Hp} {ρ : Env} {σ : L2.St} (r : RS M H ρ σ) : ∀ vs : List Nat, RS M H (wipeE ρ vs) (L2.wipe σ vs)
  | [] => r
  | v :: vs => (RS.wipe r vs).none_at v
theorem wipe_get (σ : L2.St) : ∀ (vs : List Nat) (j : Nat), (L2.wipe σ vs)[j]? = if j ∈ vs ∧ j < σ.length then some none else σ[j]?
  | [], j => by simp [L2.wipe]
  | v :: vs, j => by
    unfold L2.wipe
    by_cases hj : v = j
    · subst hj
      by_cases hl : v < σ.length
      · rw [List.getElem?_set_self (by rw [L2.wipe_length]; exact hl), if_pos ⟨List.mem_cons_self, hl⟩]
      · rw [List.getElem?_eq_none (by rw [List.length_set, L2.wipe_length]; omega), if_neg (fun z => hl z.2), List.getElem?_eq_none (by omega)]
    · rw [List.getElem?_set_ne hj, wipe_get σ vs j]
      have : j ∈ v :: vs ↔ j ∈ vs := by simp [Ne.symm hj]
      simp only [this]
theorem wipe_of {σ σ2 : L2.St} {ts vs : List Nat} (hl : σ2.length = σ.length) (ho : ∀ j, j ∉ ts → σ2[j]? = (L2.wipe σ vs)[j]?) (hs : ∀ j ∈ ts, j ∈ vs) : L2.wipe σ2 vs = L2.wipe σ vs := by
  refine List.ext_getElem? fun j => ?_
  rw [wipe_get, wipe_get, hl]
  by_cases h : j ∈ vs ∧ j < σ.length
  · rw [if_pos h, if_pos h]
  · rw [if_neg h, if_neg h]
    by_cases hj : j ∈ vs
    · have : σ.length ≤ j := Nat.le_of_not_lt fun z => h ⟨hj, z⟩
      rw [List.getElem?_eq_none (by omega), List.getElem?_eq_none this]
    · rw [ho j fun z => hj (hs j z), wipe_get, if_neg h]
def lcL (k : TM) (t : BM) (f : EM) (ρ : Env) : List D → Hh → Option (List D × Hh)
  | [], h => some ([], h)
  | d :: ds, h => match k (.dat d) ρ h with
    | some ρ1 => obnd (t ρ1 h) fun b h2 => if b = true then obnd (f ρ1 h2) fun w h3 => match w with
        | .dat d' => obnd (lcL k t f ρ ds h3) fun r h4 => some (d' :: r, h4)
        | _ => none
      else lcL k t f ρ ds h2
    | none => none
def fLc (m : Bool) (gi : IM) (k : TM) (t : BM) (f : EM) (vs : List Nat) : EM := fun ρ h => obnd (gi ρ h) fun ds h1 => obnd (lcL k t f (wipeE ρ vs) ds h1) fun r h2 => if r.length ≤ sizeLine then mkL m r h2 else none
def bYes : BM := fun _ h => some (true, h)
abbrev DTs (X : Cx) (ifs : List Expr) (t : BM) : Prop := PTs X ifs (tT t)
section
variable {X : Cx}
theorem _root_.L2.PTs.weak {X : Cx} {e : List Expr} {t t' : TT} (h : PTs X e t) (i : ∀ σ H Q, t' σ H Q → t σ H Q) : PTs X e t' := ⟨fun pins s σ H Q I q => h.run pins s σ H Q I (i σ H Q q)⟩
theorem dts_nil : DTs X [] bYes := pts_nil.weak fun σ H Q => by
  rintro ⟨M, h, ρ, r, rs, c⟩
  exact c.fin (.refl _ _) r rfl
theorem dts_one {c : Expr} {t : BM} (h : DT X c t) : DTs X [c] t := pts_one h
end
def Mm.made (M : Mm) (p : Addr) : Mm := ⟨p :: M.u, M.m⟩
theorem ext_made {M : Mm} {H : Hp} {p : Addr} {o : HO} (n : H p = none) : Ext M (M.made p) H (upd H p o) :=
  ⟨fun a m => by
    rcases List.mem_cons.mp m with rfl | m
    · exact .inr n
    · exact .inl m, trk_upd, fun a u e _ => by rw [upd_ne (ne_of_none e n)]; exact e, fun _ m => .inl m, Nat.le_refl _, fun _ _ => .inl rfl⟩
theorem Rep.make {M : Mm} {H : Hp} {h : Hh} (r : Rep M H h) {p : Addr} {o : HO} (n : H p = none) (ho : tpO o = false := by rfl) : Rep (M.made p) (upd H p o) h := by
  refine ⟨fun a m => ?_, r.len, r.inj, fun i a e => ?_, r.dead⟩
  · rcases List.mem_cons.mp m with rfl | m
    · exact ⟨fun z => r.new n (.inr z), o, upd_same, ho⟩
    · obtain ⟨h1, u, e, ht⟩ := r.us a m
      exact ⟨h1, u, by rw [upd_ne (ne_of_none e n)]; exact e, ht⟩
  · obtain ⟨u, hu, ro⟩ := r.at_ i a e
    obtain ⟨z, hz⟩ := ro.some_
    exact ⟨u, hu, ro.move (ext_made n) (upd_ne (ne_of_none hz n))⟩
mutual
theorem RD.off {M : Mm} {H : Hp} {p : Addr} {o : HO} (hp : p ∈ M.u) : ∀ {v : V} {d : D}, RD M H v d → RD M (upd H p o) v d
  | _, _, .non => .non
  | _, _, .bl b => .bl b
  | _, _, .int i => .int i
  | _, _, .str s => .str s
  | _, _, .tup n e r => .tup n (e.to fun _ q => by rw [upd_ne (fun z => n (.inl (by rw [z]; exact hp)))]; exact q) (RDs.off hp r)
  | _, _, .lst n e r => .lst n (by rw [upd_ne (fun z => n (.inl (by rw [z]; exact hp)))]; exact e) (RDs.off hp r)
  | _, _, .dic n e r => .dic n (by rw [upd_ne (fun z => n (.inl (by rw [z]; exact hp)))]; exact e) (RDk.off hp r)
  | _, _, .dit n e r => .dit n (by rw [upd_ne (fun z => n (.inl (by rw [z]; exact hp)))]; exact e) (RDt.off hp r)
theorem RDs.off {M : Mm} {H : Hp} {p : Addr} {o : HO} (hp : p ∈ M.u) : ∀ {v : List V} {d : List D}, RDs M H v d → RDs M (upd H p o) v d
  | _, _, .nil => .nil
  | _, _, .cons a r => .cons (RD.off hp a) (RDs.off hp r)
theorem RDk.off {M : Mm} {H : Hp} {p : Addr} {o : HO} (hp : p ∈ M.u) : ∀ {v : List (Key × V)} {d : List (D × D)}, RDk M H v d → RDk M (upd H p o) v d
  | _, _, .nil => .nil
  | _, _, .cons a r => .cons (RD.off hp a) (RDk.off hp r)
theorem RDt.off {M : Mm} {H : Hp} {p : Addr} {o : HO} (hp : p ∈ M.u) : ∀ {v : List KA} {d : List (D × D)}, RDt M H v d → RDt M (upd H p o) v d
  | _, _, .nil => .nil
  | _, _, .cons n e a r => .cons n (e.to fun _ q => by rw [upd_ne (fun z => n (.inl (by rw [z]; exact hp)))]; exact q) (RD.off hp a) (RDt.off hp r)
end
theorem RO.off {M : Mm} {H : Hp} {p a : Addr} {o : HO} {m : MO} (hp : p ∈ M.u) (hn : a ≠ p) (r : RO M H a m) : RO M (upd H p o) a m := by
  cases m with
  | lst ds => obtain ⟨xs, h, r⟩ := r; exact ⟨xs, by rw [upd_ne hn]; exact h, r.off hp⟩
  | dic ds => obtain ⟨xs, h, r⟩ := r; exact ⟨xs, by rw [upd_ne hn]; exact h, r.off hp⟩
  | dit ds => obtain ⟨xs, h, r⟩ := r; exact ⟨xs, by rw [upd_ne hn]; exact h, r.off hp⟩
  | ins C fs => obtain ⟨dx, gs, h, r⟩ := r; exact ⟨dx, gs, by rw [upd_ne hn]; exact h, r.to fun _ _ => RD.off hp⟩
  | tab q P =>
    obtain ⟨z, ps, h, t, r⟩ := r
    refine ⟨z, ps, by rw [upd_ne hn]; exact h, t, fun pos cv hc => ?_⟩
    obtain ⟨c, e1, n, e2⟩ := r pos cv hc
    exact ⟨c, e1, n, by rw [upd_ne (fun z => n (.inl (by rw [z]; exact hp)))]; exact e2⟩
theorem Rep.off {M : Mm} {H : Hp} {h : Hh} (r : Rep M H h) {p : Addr} {o : HO} (hp : p ∈ M.u) (ho : tpO o = false := by rfl) : Rep M (upd H p o) h := by
  refine ⟨fun a m => ?_, r.len, r.inj, fun i a e => ?_, r.dead⟩
  · obtain ⟨h1, u, e, ht⟩ := r.us a m
    refine ⟨h1, ?_⟩
    by_cases z : a = p
    · subst z; exact ⟨o, upd_same, ho⟩
    · exact ⟨u, by rw [upd_ne z]; exact e, ht⟩
  · obtain ⟨u, hu, ro⟩ := r.at_ i a e
    exact ⟨u, hu, ro.off hp fun z => (r.us p hp).1 (by rw [← z]; exact List.mem_of_getElem? e)⟩
theorem RV.off {M : Mm} {H : Hp} {p : Addr} {o : HO} {v : V} (hp : p ∈ M.u) : ∀ {w : W}, RV M H v w → RV M (upd H p o) v w
  | .dat _, r => RD.off hp r
  | .ref _, r => r
  | .scr _, ⟨a, u, e, n, q⟩ => ⟨a, u, e, n, by rw [upd_ne (fun z => n (.inl (by rw [z]; exact hp)))]; exact q⟩
  | .pack _, ⟨a, u, e, n, q, r⟩ => ⟨a, u, e, n, by rw [upd_ne (fun z => n (.inl (by rw [z]; exact hp)))]; exact q, r.move (fun _ _ z => z) fun _ _ => RD.off hp⟩
  | .lock _, ⟨a, u, kvs, e, n, q, r⟩ => ⟨a, u, kvs, e, n, by rw [upd_ne (fun z => n (.inl (by rw [z]; exact hp)))]; exact q, r.off hp⟩
  | .ins _ _, ⟨a, u, gs, e, n, q, r⟩ => ⟨a, u, gs, e, n, by rw [upd_ne (fun z => n (.inl (by rw [z]; exact hp)))]; exact q, r.to fun _ _ => RD.off hp⟩
  | .exc _ _ _, ⟨a, d, gs, e, r⟩ => ⟨a, d, gs, e, r.to (fun _ _ _ n => n) (fun b _ q _ n => by rw [upd_ne (fun z => n (.inl (by rw [z]; exact hp)))]; exact q) fun _ _ => RD.off hp⟩
theorem RS.off {M : Mm} {H : Hp} {ρ : Env} {σ : L2.St} {p : Addr} {o : HO} (hp : p ∈ M.u) (r : RS M H ρ σ) : RS M (upd H p o) ρ σ := ⟨r.1, fun i w e => by
  obtain ⟨v, e1, q⟩ := r.2 i w e
  exact ⟨v, e1, q.off hp⟩⟩
theorem RV.moveu {M M' : Mm} {H H' : Hp} (x : Ext M M' H H') (hm : M'.m = M.m) {v : V} : ∀ {w : W}, RV M H v w → RV M' H' v w
  | .dat _, r => RD.mono x r
  | .ref n, ⟨a, e, r⟩ => ⟨a, by rw [hm]; exact e, r⟩
  | .scr ns, ⟨a, o, e, n, q⟩ => ⟨a, o, e, x.out n q, x.st n q⟩
  | .pack its, ⟨a, xs, e, n, q, r⟩ => ⟨a, xs, e, x.out n q, x.st n q, r.move (fun i b z => by rw [hm]; exact z) fun _ _ => RD.mono x⟩
  | .lock es, ⟨a, o, kvs, e, n, q, r⟩ => ⟨a, o, kvs, e, x.out n q, x.st n q, r.mono x⟩
  | .ins _ _, ⟨a, o, gs, e, n, q, r⟩ => ⟨a, o, gs, e, x.out n q, x.st n q, r.to fun _ _ => RD.mono x⟩
  | .exc _ _ _, ⟨a, d, gs, e, r⟩ => ⟨a, d, gs, e, r.to (fun _ _ q n => x.out n q) (fun _ _ q _ n => x.st n q) fun _ _ => RD.mono x⟩
theorem RS.moveu {M M' : Mm} {H H' : Hp} (x : Ext M M' H H') (hm : M'.m = M.m) {ρ : Env} {σ : L2.St} (r : RS M H ρ σ) : RS M' H' ρ σ := ⟨r.1, fun i w e => by
  obtain ⟨v, e1, q⟩ := r.2 i w e
  exact ⟨v, e1, q.moveu x hm⟩⟩
mutual
theorem RD.sub {M M' : Mm} {H : Hp} (x : ∀ a, M'.Has a → M.Has a) : ∀ {v : V} {d : D}, RD M H v d → RD M' H v d
  | _, _, .non => .non
  | _, _, .bl b => .bl b
  | _, _, .int i => .int i
  | _, _, .str s => .str s
  | _, _, .tup n e r => .tup (fun z => n (x _ z)) e (RDs.sub x r)
  | _, _, .lst n e r => .lst (fun z => n (x _ z)) e (RDs.sub x r)
  | _, _, .dic n e r => .dic (fun z => n (x _ z)) e (RDk.sub x r)
  | _, _, .dit n e r => .dit (fun z => n (x _ z)) e (RDt.sub x r)
theorem RDs.sub {M M' : Mm} {H : Hp} (x : ∀ a, M'.Has a → M.Has a) : ∀ {v : List V} {d : List D}, RDs M H v d → RDs M' H v d
  | _, _, .nil => .nil
  | _, _, .cons a r => .cons (RD.sub x a) (RDs.sub x r)
theorem RDk.sub {M M' : Mm} {H : Hp} (x : ∀ a, M'.Has a → M.Has a) : ∀ {v : List (Key × V)} {d : List (D × D)}, RDk M H v d → RDk M' H v d
  | _, _, .nil => .nil
  | _, _, .cons a r => .cons (RD.sub x a) (RDk.sub x r)
theorem RDt.sub {M M' : Mm} {H : Hp} (x : ∀ a, M'.Has a → M.Has a) : ∀ {v : List KA} {d : List (D × D)}, RDt M H v d → RDt M' H v d
  | _, _, .nil => .nil
  | _, _, .cons n e a r => .cons (fun z => n (x _ z)) e (RD.sub x a) (RDt.sub x r)
end
theorem RO.sub {M M' : Mm} {H : Hp} {a : Addr} {m : MO} (x : ∀ a, M'.Has a → M.Has a) (r : RO M H a m) : RO M' H a m := by
  cases m with
  | lst ds => obtain ⟨xs, h, r⟩ := r; exact ⟨xs, h, r.sub x⟩
  | dic ds => obtain ⟨xs, h, r⟩ := r; exact ⟨xs, h, r.sub x⟩
  | dit ds => obtain ⟨xs, h, r⟩ := r; exact ⟨xs, h, r.sub x⟩
  | ins C fs => obtain ⟨dx, gs, h, r⟩ := r; exact ⟨dx, gs, h, r.to fun _ _ => RD.sub x⟩
  | tab q P =>
    obtain ⟨z, ps, h, t, r⟩ := r
    refine ⟨z, ps, h, t, fun pos cv hc => ?_⟩
    obtain ⟨c, e1, n, e2⟩ := r pos cv hc
    exact ⟨c, e1, fun z => n (x _ z), e2⟩
theorem less_has {u : List Addr} {m : List (Option Addr)} {p : Addr} : ∀ b, Mm.Has ⟨u, m⟩ b → Mm.Has ⟨p :: u, m⟩ b := fun b z => by
  rcases z with z | z
  · exact .inl (List.mem_cons_of_mem _ z)
  · exact .inr z
theorem Rep.told {u : List Addr} {m : List (Option Addr)} {p : Addr} {H : Hp} {h : Hh} (r : Rep ⟨p :: u, m⟩ H h) : Rep ⟨u, m⟩ H h :=
  ⟨fun a z => r.us a (List.mem_cons_of_mem _ z), r.len, r.inj, fun i a e => by
    obtain ⟨o, h1, h2⟩ := r.at_ i a e
    exact ⟨o, h1, h2.sub less_has⟩, r.dead⟩
theorem Rep.owned {u : List Addr} {m : List (Option Addr)} {p : Addr} {H : Hp} {h : Hh} {o : MO} (r : Rep ⟨p :: u, m⟩ H h) (hp : p ∉ u) (ro : RO ⟨p :: u, m⟩ H p o) : Rep ⟨u, m ++ [some p]⟩ H (h ++ [some o]) := by
  have hpm : some p ∉ m := (r.us p List.mem_cons_self).1
  have hsub : ∀ b, Mm.Has ⟨u, m ++ [some p]⟩ b → Mm.Has ⟨p :: u, m⟩ b := fun b z => by
    rcases z with z | z
    · exact .inl (List.mem_cons_of_mem _ z)
    · rcases List.mem_append.mp z with z | z
      · exact .inr z
      · have : b = p := by simpa using z
        rw [this]; exact .inl List.mem_cons_self
  have rl : m.length = h.length := r.len
  have cases_ : ∀ (i : Nat) (z : Option Addr), (m ++ [some p])[i]? = some z → (i < m.length ∧ m[i]? = some z) ∨ (i = m.length ∧ z = some p) := fun i z e => by
    by_cases hi : i < m.length
    · rw [List.getElem?_append_left hi] at e
      exact .inl ⟨hi, e⟩
    · rw [List.getElem?_append_right (by omega)] at e
      by_cases h0 : i - m.length = 0
      · rw [h0] at e
        exact .inr ⟨by omega, by simpa using e.symm⟩
      · rw [List.getElem?_eq_none (by simp; omega)] at e
        cases e
  refine ⟨fun a z => ?_, by simp [rl], fun i j a e1 e2 => ?_, fun i a e => ?_, fun i e => ?_⟩
  · obtain ⟨h1, q⟩ := r.us a (List.mem_cons_of_mem _ z)
    refine ⟨fun y => ?_, q⟩
    rcases List.mem_append.mp y with y | y
    · exact h1 y
    · have : a = p := by simpa using y
      rw [this] at z; exact hp z
  · rcases cases_ i _ e1 with ⟨h1, e1⟩ | ⟨h1, e1⟩ <;> rcases cases_ j _ e2 with ⟨h2, e2⟩ | ⟨h2, e2⟩
    · exact r.inj i j a e1 e2
    · cases e2; exact absurd (List.mem_of_getElem? e1) hpm
    · cases e1; exact absurd (List.mem_of_getElem? e2) hpm
    · omega
  · rcases cases_ i _ e with ⟨h1, e1⟩ | ⟨h1, e1⟩
    · obtain ⟨z, hz, q⟩ := r.at_ i a e1
      exact ⟨z, by rw [List.getElem?_append_left (by rw [← rl]; exact h1)]; exact hz, q.sub hsub⟩
    · cases e1
      subst h1
      exact ⟨o, by rw [rl]; simp, ro.sub hsub⟩
  · rcases cases_ i _ e with ⟨h1, e1⟩ | ⟨h1, e1⟩
    · rw [List.getElem?_append_left (by rw [← rl]; exact h1)]
      exact r.dead i e1
    · cases e1
theorem ExtE.reu {M M' : Mm} {H H' : Hp} (x : ExtE M M' H H') (u : List Addr) : ExtE ⟨u, M.m⟩ ⟨u, M'.m⟩ H H' := ⟨rfl, x.trk, x.stab, x.fresh, x.len, x.pre⟩
theorem ExtE.beside {M M' : Mm} {H H' : Hp} {p : Addr} {o : HO} (x : ExtE M M' H H') (n : H p = none) : ExtE M M' H (upd H' p o) :=
  ⟨x.same, fun a u e => by obtain ⟨u', e'⟩ := x.trk a u e; exact trk_upd a u' e', fun a u e na => by rw [upd_ne (ne_of_none e n)]; exact x.stab a u e na, x.fresh, x.len, x.pre⟩
theorem ExtE.into {M : Mm} {m : List (Option Addr)} {H H' : Hp} {p : Addr} (x : ExtE M ⟨M.u, m⟩ H H') (n : H p = none) : Ext M ⟨p :: M.u, m⟩ H H' :=
  ⟨fun a z => by
    rcases List.mem_cons.mp z with rfl | z
    · exact .inr n
    · exact .inl z, x.trk, x.stab, x.fresh, x.len, fun i hi => .inl (x.pre i hi)⟩
theorem lc_imp {gi : IM} {k : TM} {t : BM} {f : EM} {ts vs : List Nat} {m : Bool} (hs : ∀ j ∈ ts, j ∈ vs) : ∀ σ H Q, tE (fLc m gi k t f vs) σ H Q → tLc (tI gi) (tGd ts k) (tT t) (tE f) vs σ H Q := fun σ H Q => by
  rintro ⟨M, h, ρ, r, rs, c⟩
  obtain ⟨ds, h1, e1, c1⟩ := Cont.bind (δ := Unit) c
  refine ⟨M, h, ρ, ds, h1, r, rs, e1, fun M1 H1 J x1 r1 it D nD => ?_⟩
  obtain ⟨out, h2, e2, c2⟩ := Cont.bind (δ := Unit) (c1 M1 H1 x1)
  have x0 := ext_made (M := M1) (o := .lst []) nD
  have r0 := r1.make (o := .lst []) nD
  have rs0 : RS (M1.made D) (upd H1 D (.lst [])) (wipeE ρ vs) (L2.wipe σ vs) := ((rs.mono x1).moveu x0 rfl).wipe vs
  let P : Nat → Hp → Prop := fun i Hi => ∃ mi hi acc dacc rest, ExtE M1 ⟨M1.u, mi⟩ H1 Hi ∧ Rep ⟨D :: M1.u, mi⟩ Hi hi ∧ RS ⟨D :: M1.u, mi⟩ Hi (wipeE ρ vs) (L2.wipe σ vs) ∧ Hi D = some (.lst acc) ∧ RDs ⟨D :: M1.u, mi⟩ Hi acc dacc ∧ lcL k t f (wipeE ρ vs) (ds.drop i) hi = some (rest, h2) ∧ dacc ++ rest = out
  have outlen : out.length ≤ sizeLine := by
    have c3 := c2 M1 H1 (.refl _ _)
    by_cases hz : out.length ≤ sizeLine
    · exact hz
    · rw [if_neg hz] at c3; exact c3.no.elim
  refine ⟨fun i n Hi => n + i = ds.length ∧ P i Hi, ⟨ds.length, by omega, M1.m, h1, [], [], out, (ExtE.refl M1 H1).beside nD, r0, rs0, upd_same, .nil, by rw [List.drop_zero]; exact e2, rfl⟩, fun i n Hi w => ?_⟩
  obtain ⟨hn, mi, hi, acc, dacc, rest, xi, ri, rsi, hD, qa, el, eo⟩ := w
  have inD : D ∈ (⟨D :: M1.u, mi⟩ : Mm).u := List.mem_cons_self
  have itx := xi.into nD
  obtain ⟨ity, its⟩ := it _ Hi itx fun a ha => ri.tracked ha
  by_cases hlt : i < ds.length
  · refine .inr ?_
    have ed : ds[i]? = some ds[i] := List.getElem?_eq_getElem hlt
    obtain ⟨go, yl⟩ := ity i _ ed
    rw [List.drop_eq_getElem_cons hlt] at el
    refine ⟨go, P (i + 1), fun H' p => ⟨n - 1, by omega, by omega, p⟩, fun x H2 hy => ?_⟩
    obtain ⟨sm, rx⟩ := yl x H2 hy
    obtain ⟨ri2, xi2⟩ := ri.grow sm
    unfold lcL at el
    split at el
    · rename_i ρ1 ek
      refine ⟨_, hi, wipeE ρ vs, .dat ds[i], ρ1, ri2, rsi.mono xi2, rx, ek, fun σ2 rs2 l2 o2 => ⟨wipe_of (by rw [l2, L2.wipe_length]) o2 hs, ?_⟩⟩
      cases et : t ρ1 hi with
      | none => rw [et] at el; cases el
      | some pr =>
        obtain ⟨b, h3⟩ := pr
        rw [et] at el
        simp only [obnd_some] at el
        refine ⟨_, hi, ρ1, ri2, rs2, b, h3, et, fun M3 H3 b' x3 r3 eb => ?_⟩
        subst eb
        obtain ⟨u3, m3⟩ := M3
        obtain rfl : u3 = D :: M1.u := x3.same
        have xi3 : ExtE M1 ⟨M1.u, m3⟩ H1 H3 := xi.trans ((xi2.trans x3).reu M1.u)
        have hD3 : H3 D = some (.lst acc) := x3.stab _ _ (sm _ _ hD) fun z => (ri.us D inD).1 z
        cases b' with
        | false =>
          simp only [Bool.false_eq_true, if_false] at el
          exact iteF ⟨m3, h3, acc, dacc, rest, xi3, r3, (rsi.mono xi2).mono x3, hD3, (qa.mono xi2.ext).mono x3.ext, el, eo⟩
        | true =>
          simp only [if_true] at el
          refine iteT ?_
          cases ef : f ρ1 h3 with
          | none => rw [ef] at el; cases el
          | some pr =>
            obtain ⟨w, h4⟩ := pr
            rw [ef] at el
            simp only [obnd_some] at el
            refine ⟨_, h3, ρ1, r3, rs2.mono x3, w, h4, ef, fun M4 H4 y x4 r4 ry => ?_⟩
            obtain ⟨u4, m4⟩ := M4
            obtain rfl : u4 = D :: M1.u := x4.same
            have hD4 : H4 D = some (.lst acc) := x4.stab _ _ hD3 fun z => (r3.us D List.mem_cons_self).1 z
            split at el
            · rename_i d'
              cases er : lcL k t f (wipeE ρ vs) (ds.drop (i + 1)) h4 with
              | none => rw [er] at el; cases el
              | some pr =>
                obtain ⟨rest', h5⟩ := pr
                rw [er] at el
                simp only [obnd_some, Option.some.injEq, Prod.mk.injEq] at el
                obtain ⟨e5, e6⟩ := el
                subst e5 e6
                have q4 := ((qa.mono xi2.ext).mono x3.ext).mono x4.ext
                have hlen : acc.length < sizeLine := by
                  have h7 := congrArg List.length eo
                  rw [List.length_append, List.length_cons] at h7
                  rw [qa.length]; omega
                have in4 : D ∈ (⟨D :: M1.u, m4⟩ : Mm).u := List.mem_cons_self
                exact ⟨acc, hD4, hlen, m4, h4, acc ++ [y], dacc ++ [d'], rest', (xi3.trans (x4.reu M1.u)).beside nD, r4.off in4, (((rsi.mono xi2).mono x3).mono x4).off in4, upd_same, (q4.off in4).app (.cons (RD.off in4 ry) .nil), er, by rw [List.append_assoc]; exact eo⟩
            · cases el
    · cases el
  · refine .inl ?_
    have hi' : i = ds.length := by omega
    subst hi'
    rw [List.drop_length] at el
    cases el
    rw [List.append_nil] at eo
    subst eo
    refine ⟨its, ?_⟩
    have c3 := c2 M1 H1 (.refl _ _)
    rw [if_pos outlen] at c3
    have nu : D ∉ M1.u := fun z => r1.new nD (.inl z)
    have nm : some D ∉ mi := (ri.us D inD).1
    cases m with
    | false =>
      exact c3.fin xi ri.told (RD.lst (fun z => z.elim nu nm) hD (qa.sub less_has))
    | true =>
      refine c3.fin (M' := ⟨M1.u, mi ++ [some D]⟩) ⟨rfl, xi.trk, xi.stab, fun a z => ?_, Nat.le_trans xi.len (by simp), fun j hj => ?_⟩ (ri.owned nu ⟨acc, hD, qa⟩) ⟨D, ?_, rfl⟩
      · rcases List.mem_append.mp z with z | z
        · exact xi.fresh a z
        · have : a = D := by simpa using z
          rw [this]; exact .inr nD
      · have hl : j < mi.length := Nat.lt_of_lt_of_le hj xi.len
        show (mi ++ [some D])[j]? = _
        rw [List.getElem?_append_left hl]; exact xi.pre j hj
      · show (mi ++ [some D])[h2.length]? = _
        rw [← show mi.length = h2.length from ri.len]; simp
section
variable {X : Cx}
theorem d_lc (m : Bool) {elt tg iter : Expr} {ifs : List Expr} {scope : Scope} {own : List (Str × Nat)} {pos : Pos} {gi : IM} {ts : List Nat} {k : TM} {t : BM} {f : EM} (hc : X.calm = true) (hN : X.N.Nodup) (hi : DI X tg iter gi) (ok : BlkOk X.N X.env.scope scope own)
    (hg : ∀ (s : Shared) (H : Hp) (C : Addr) (cl : List (Str × Addr)) (fp : List Addr), DG (X.blk s H scope (compEnvC scope cl C X.env) fp) tg ts k) (ht : ∀ (s : Shared) (H : Hp) (C : Addr) (cl : List (Str × Addr)) (fp : List Addr), DTs (X.blk s H scope (compEnvC scope cl C X.env) fp) ifs t)
    (he : ∀ (s : Shared) (H : Hp) (C : Addr) (cl : List (Str × Addr)) (fp : List Addr), DE (X.blk s H scope (compEnvC scope cl C X.env) fp) elt f) (hsub : ∀ j ∈ ts, j ∈ own.map (·.2)) (hs : ∀ x, foldedSetIterable iter X.env x = pure x := by intro _; rfl) :
    DE X (.ListComp elt [⟨tg, iter, ifs, 0⟩] scope pos) (fLc m gi k t f (own.map (·.2))) := (pe_lc hc hN hi ok hg ht he hs).weak (lc_imp hsub)
end
end DL
set_option maxRecDepth 100000
set_option maxHeartbeats 4000000
namespace DL
open PySem PySem.Spec PyProof.Rows L2
variable [HW]
inductive Out where
  | nx (ρ : Env) | rt (w : W) | bk (ρ : Env) | ct (ρ : Env)
abbrev SM := Env → Hh → Option (Out × Hh)
def SPost (D : Ends) (M0 : Mm) (H0 : Hp) (r : Option (Out × Hh)) : Prop := match r with
  | some (.nx ρ, h) => ∀ M H σ, M.u = M0.u → Ext M0 M H0 H → Rep M H h → RS M H ρ σ → D.nx σ H
  | some (.rt w, h) => ∀ M H v, M.u = M0.u → Ext M0 M H0 H → Rep M H h → RV M H v w → D.rt v H
  | some (.bk ρ, h) => ∀ M H σ, M.u = M0.u → Ext M0 M H0 H → Rep M H h → RS M H ρ σ → D.bk σ H
  | some (.ct ρ, h) => ∀ M H σ, M.u = M0.u → Ext M0 M H0 H → Rep M H h → RS M H ρ σ → D.ct σ H
  | none => False
theorem SPost.mono {D : Ends} {M0 M1 : Mm} {H0 H1 : Hp} {r : Option (Out × Hh)} (p : SPost D M0 H0 r) (u : M1.u = M0.u) (x : Ext M0 M1 H0 H1) : SPost D M1 H1 r := by
  match r, p with
  | some (.nx ρ, h), p => exact fun M H σ e y => p M H σ (e.trans u) (x.trans y)
  | some (.rt w, h), p => exact fun M H σ e y => p M H σ (e.trans u) (x.trans y)
  | some (.bk ρ, h), p => exact fun M H σ e y => p M H σ (e.trans u) (x.trans y)
  | some (.ct ρ, h), p => exact fun M H σ e y => p M H σ (e.trans u) (x.trans y)
def tS (f : SM) : TS := fun D σ H => ∃ M h ρ, Rep M H h ∧ RS M H ρ σ ∧ SPost D M H (f ρ h)
abbrev DS (X : Cx) (st : Stmt) (f : SM) : Prop := PS X st (tS f)
abbrev DSs (X : Cx) (sts : List Stmt) (f : SM) : Prop := PSs X sts (tS f)
def sSeq (f g : SM) : SM := fun ρ h => match f ρ h with
  | some (.nx ρ1, h1) => g ρ1 h1
  | r => r
def sSkip : SM := fun ρ h => some (.nx ρ, h)
def sNever : SM := fun _ _ => none
section
variable {X : Cx}
theorem seq_imp {f g : SM} : ∀ D σ H, tS (sSeq f g) D σ H → tSeq (tS f) (tS g) D σ H := fun D σ H => by
  rintro ⟨M, h, ρ, r, rs, p⟩
  refine ⟨M, h, ρ, r, rs, ?_⟩
  unfold sSeq at p
  cases e : f ρ h with
  | none => rw [e] at p; exact p
  | some q =>
    obtain ⟨o, h1⟩ := q
    rw [e] at p
    cases o with
    | nx ρ1 => exact fun M1 H1 σ1 u x r1 rs1 => ⟨M1, h1, ρ1, r1, rs1, p.mono u x⟩
    | rt w => exact p
    | bk ρ1 => exact p
    | ct ρ1 => exact p
theorem ds_cons {st : Stmt} {sts : List Stmt} {f g : SM} (h1 : DS X st f) (h2 : DSs X sts g) : DSs X (st :: sts) (sSeq f g) := (pss_cons h1 h2).weak seq_imp
theorem ds_one {st : Stmt} {f : SM} (h1 : DS X st f) : DSs X [st] f := pss_one h1
theorem ds_nil : DSs X [] sSkip := pss_nil.weak fun D σ H => by
  rintro ⟨M, h, ρ, r, rs, p⟩
  exact p M H σ rfl (.refl _ _) r rs
theorem ds_never {st : Stmt} : DS X st sNever := ps_never.weak fun D σ H => by
  rintro ⟨M, h, ρ, r, rs, p⟩
  exact p
def sbnd {α : Type} (r : Option (α × Hh)) (k : α → Hh → Option (Out × Hh)) : Option (Out × Hh) := match r with
  | some (a, h) => k a h
  | none => none
@[simp] theorem sbnd_some {α : Type} (a : α) (h : Hh) (k : α → Hh → Option (Out × Hh)) : sbnd (some (a, h)) k = k a h := rfl
@[simp] theorem sbnd_none {α : Type} (k : α → Hh → Option (Out × Hh)) : sbnd none k = none := rfl
theorem SPost.bind {α : Type} {D : Ends} {M : Mm} {H : Hp} {r : Option (α × Hh)} {k : α → Hh → Option (Out × Hh)} (p : SPost D M H (sbnd r k)) : ∃ a h1, r = some (a, h1) ∧ SPost D M H (k a h1) := by
  cases r with
  | none => exact p.elim
  | some q => obtain ⟨a, h1⟩ := q; exact ⟨a, h1, rfl, p⟩
def sExpr (f : EM) : SM := fun ρ h => sbnd (f ρ h) fun _ h1 => some (.nx ρ, h1)
theorem ds_expr {e : Expr} {pos : Pos} {f : EM} (he : DE X e f) (hs : swapsWith e none pos.line X.env = pure false := by rfl) : DS X (.Expr e pos) (sExpr f) := (ps_expr he hs).weak fun D σ H => by
  rintro ⟨M, h, ρ, r, rs, p⟩
  obtain ⟨w, h1, e1, p1⟩ := p.bind
  exact ⟨M, h, ρ, r, rs, w, h1, e1, fun M1 H1 v x1 r1 v1 => p1 M1 H1 σ x1.same x1.ext r1 (rs.mono x1)⟩
def sRet (f : EM) : SM := fun ρ h => sbnd (f ρ h) fun w h1 => some (.rt w, h1)
theorem ds_ret {e : Expr} {pos : Pos} {f : EM} (he : DE X e f) : DS X (.Return (some e) pos) (sRet f) := (ps_ret he).weak fun D σ H => by
  rintro ⟨M, h, ρ, r, rs, p⟩
  obtain ⟨w, h1, e1, p1⟩ := p.bind
  exact ⟨M, h, ρ, r, rs, w, h1, e1, fun M1 H1 v x1 r1 v1 => p1 M1 H1 v x1.same x1.ext r1 v1⟩
def sRetN : SM := fun _ h => some (.rt (.dat .none), h)
def sIf (t : BM) (f g : SM) : SM := fun ρ h => sbnd (t ρ h) fun b h1 => if b = true then f ρ h1 else g ρ h1
theorem ds_if {c : Expr} {a b : List Stmt} {pos : Pos} {t : BM} {f g : SM} (hc : DT X c t) (ha : DSs X a f) (hb : DSs X b g) : DS X (.If c a b pos) (sIf t f g) := (ps_if hc ha hb).weak fun D σ H => by
  rintro ⟨M, h, ρ, r, rs, p⟩
  obtain ⟨w, h1, e1, p1⟩ := p.bind
  refine ⟨M, h, ρ, r, rs, w, h1, e1, fun M1 H1 v x1 r1 v1 => ?_⟩
  subst v1
  have p2 := p1.mono x1.same x1.ext
  cases v with
  | true => exact iteT ⟨M1, h1, ρ, r1, rs.mono x1, p2⟩
  | false => exact iteF ⟨M1, h1, ρ, r1, rs.mono x1, p2⟩
def sAsg (f : EM) (g : TM) : SM := fun ρ h => sbnd (f ρ h) fun w h1 => match g w ρ h1 with
  | some ρ1 => some (.nx ρ1, h1)
  | none => none
theorem asg_imp {f : EM} {g : TM} {ts : List Nat} : ∀ D σ H, tS (sAsg f g) D σ H → tAsg (tE f) (tGd ts g) D σ H := fun D σ H => by
  rintro ⟨M, h, ρ, r, rs, p⟩
  obtain ⟨w, h1, e1, p1⟩ := p.bind
  refine ⟨M, h, ρ, r, rs, w, h1, e1, fun M1 H1 v x1 r1 v1 => ?_⟩
  split at p1
  · rename_i ρ1 e2
    exact ⟨M1, h1, ρ, w, ρ1, r1, rs.mono x1, v1, e2, fun σ' rs' _ _ => p1 M1 H1 σ' x1.same x1.ext r1 rs'⟩
  · exact p1.elim
theorem ds_asg {tg e : Expr} {pos : Pos} {f : EM} {g : TM} {ts : List Nat} (he : DE X e f) (hg : DG X tg ts g) (hs : swapsWithSole [tg] e pos.line X.env = pure false := by rfl) (hw : swappedStores [tg] e X.env = pure none := by rfl) (h1 : (assignEach [tg] X.env).map (·.2) = [assign tg X.env] := by rfl) : DS X (.Assign [tg] e pos) (sAsg f g) := (ps_asg he hg hs hw h1).weak asg_imp
theorem ds_set {i : Nat} {x : Str} {e : Expr} {pos pos' : Pos} {f : EM} (h : PS X (.Assign [.Name x pos'] e pos) (tAsg (tE f) (gName i))) : DS X (.Assign [.Name x pos'] e pos) (sAsg f (gN i)) := h.weak fun D σ H => by
  rintro ⟨M, h, ρ, r, rs, p⟩
  obtain ⟨w, h1, e1, p1⟩ := p.bind
  exact ⟨M, h, ρ, r, rs, w, h1, e1, fun M1 H1 v x1 r1 v1 => p1 M1 H1 _ x1.same x1.ext r1 ((rs.mono x1).set v1)⟩
theorem ds_setLc (m : Bool) {i : Nat} {y : Str} {py : Pos} {elt tg iter : Expr} {ifs : List Expr} {scope : Scope} {own : List (Str × Nat)} {pos spos : Pos} {gi : IM} {ts : List Nat} {k : TM} {t : BM} {f : EM} (hc : X.calm = true) (hN : X.N.Nodup) (hy : X.N[i]? = some y) (hyl : X.env.scope.names.lookup y = some .local)
    (hsw : swapsWith (.ListComp elt [⟨tg, iter, ifs, 0⟩] scope pos) (some (.Name y py)) spos.line X.env = pure true) (hi : DI X tg iter gi) (ok : BlkOk X.N X.env.scope scope own)
    (hg : ∀ (s : Shared) (H : Hp) (C : Addr) (cl : List (Str × Addr)) (fp : List Addr), DG (X.blk s H scope (compEnvC scope cl C X.env) fp) tg ts k) (ht : ∀ (s : Shared) (H : Hp) (C : Addr) (cl : List (Str × Addr)) (fp : List Addr), DTs (X.blk s H scope (compEnvC scope cl C X.env) fp) ifs t)
    (he : ∀ (s : Shared) (H : Hp) (C : Addr) (cl : List (Str × Addr)) (fp : List Addr), DE (X.blk s H scope (compEnvC scope cl C X.env) fp) elt f) (hsub : ∀ j ∈ ts, j ∈ own.map (·.2)) (hs : ∀ x, foldedSetIterable iter X.env x = pure x := by intro _; rfl) :
    DS X (.Assign [.Name y py] (.ListComp elt [⟨tg, iter, ifs, 0⟩] scope pos) spos) (sAsg (fLc m gi k t f (own.map (·.2))) (gN i)) := (ps_setLc hc hN hy hyl hsw hi ok hg ht he hs).weak fun D σ H => by
  rintro ⟨M, h, ρ, r, rs, p⟩
  obtain ⟨w, h1, e1, p1⟩ := p.bind
  exact lc_imp hsub σ H _ ⟨M, h, ρ, r, rs, w, h1, e1, fun M1 H1 v x1 r1 v1 => p1 M1 H1 _ x1.same x1.ext r1 ((rs.mono x1).set v1)⟩
def sPar (g : AM) (is : List Nat) : SM := fun ρ h => sbnd (g ρ h) fun ws h1 => if ws.length = is.length then some (.nx ((is.zip ws).foldl (fun ρ p => ρ.set p.1 (some p.2)) ρ), h1) else none
theorem ds_par2 {i j : Nat} {st : Stmt} {g : AM} (h : PS X st (tPar i j (tA g))) : DS X st (sPar g [i, j]) := h.weak fun D σ H => by
  rintro ⟨M, h, ρ, r, rs, p⟩
  obtain ⟨ws, h1, e1, p1⟩ := p.bind
  refine ⟨M, h, ρ, r, rs, ws, h1, e1, fun M1 H1 vs x1 r1 v1 => ?_⟩
  split at p1
  · rename_i hz
    match ws, hz, v1, p1 with
    | [w1, w2], _, v1, p1 =>
      obtain ⟨a, b, rfl, ra, rb⟩ := rvs2 v1
      exact ⟨a, b, rfl, p1 M1 H1 _ x1.same x1.ext r1 (((rs.mono x1).set ra).set rb)⟩
  · exact p1.elim
def setW (o i : W) (w : W) (h : Hh) : Option Hh := match o, i, w with
  | .ref n, .dat (.int k), .dat d => match lstAt h n with
    | some ds => match ixN ds.length k with
      | some j => some (h.set n (some (.lst (ds.set j d))))
      | none => none
    | none => none
  | _, _, _ => none
def sSub (f o i : EM) : SM := fun ρ h => sbnd (f ρ h) fun w h1 => sbnd (o ρ h1) fun a h2 => sbnd (i ρ h2) fun b h3 => match setW a b w h3 with
  | some h4 => some (.nx ρ, h4)
  | none => none
theorem sub_imp {f o i : EM} : ∀ D σ H, tS (sSub f o i) D σ H → tAsg (tE f) (gSub (tE o) (tE i) rSetL) D σ H := fun D σ H => by
  rintro ⟨M, h, ρ, r, rs, p⟩
  obtain ⟨w, h1, e1, p1⟩ := p.bind
  refine ⟨M, h, ρ, r, rs, w, h1, e1, fun M1 H1 v x1 r1 v1 => ?_⟩
  obtain ⟨a, h2, e2, p2⟩ := p1.bind
  refine ⟨M1, h1, ρ, r1, rs.mono x1, a, h2, e2, fun M2 H2 v' x2 r2 v2 => ?_⟩
  obtain ⟨b, h3, e3, p3⟩ := p2.bind
  refine ⟨M2, h2, ρ, r2, (rs.mono x1).mono x2, b, h3, e3, fun M3 H3 v'' x3 r3 v3 => ?_⟩
  have ra := v2.mono x3
  have rw' := (v1.mono x2).mono x3
  unfold setW at p3
  split at p3
  · rename_i h4 e4
    split at e4
    · rename_i n k d
      obtain ⟨ad, ea, rfl⟩ := ra
      cases (show RD M3 H3 _ _ from v3)
      split at e4
      · rename_i ds el
        obtain ⟨xs, hx, q⟩ := lstAt_ok r3 el ea
        split at e4
        · rename_i j ej
          cases e4
          refine ⟨ad, xs, k, j, rfl, rfl, hx, by rw [q.length]; exact ej, ?_⟩
          have x4 := ext_set (H := H3) (o := .lst (xs.set j v)) ea
          have xx := ((x1.trans x2).trans x3).trans x4
          exact p3 M3 _ σ xx.same xx.ext (r3.set ea ⟨_, upd_same, (q.set j rw').mono x4.ext⟩) (rs.mono xx)
        · cases e4
      · cases e4
    · cases e4
  · exact p3.elim
theorem ds_sub {o i e : Expr} {pos tpos : Pos} {f fo fi : EM} (he : DE X e f) (ho : DE X o fo) (hi : DE X i fi) (h : PS X (.Assign [.Subscript o i tpos] e pos) (tAsg (tE f) (gSub (tE fo) (tE fi) rSetL))) : DS X (.Assign [.Subscript o i tpos] e pos) (sSub f fo fi) := h.weak sub_imp
def forL (k : TM) (body : SM) : List D → Env → Hh → Option (Out × Hh)
  | [], ρ, h => some (.nx ρ, h)
  | d :: ds, ρ, h => match k (.dat d) ρ h with
    | some ρ1 => match body ρ1 h with
      | some (.nx ρ2, h2) => forL k body ds ρ2 h2
      | some (.ct ρ2, h2) => forL k body ds ρ2 h2
      | some (.bk ρ2, h2) => some (.nx ρ2, h2)
      | some (.rt w, h2) => some (.rt w, h2)
      | none => none
    | none => none
def sFor (gi : IM) (k : TM) (body : SM) : SM := fun ρ h => sbnd (gi ρ h) fun ds h1 => forL k body ds ρ h1
theorem for_imp {gi : IM} {k : TM} {body : SM} {ts : List Nat} : ∀ D σ H, tS (sFor gi k body) D σ H → tFor (tI gi) (tGd ts k) (tS body) D σ H := fun D σ H => by
  rintro ⟨M, h, ρ, r, rs, p⟩
  obtain ⟨ds, h1, e1, p1⟩ := p.bind
  refine ⟨M, h, ρ, ds, h1, r, rs, e1, fun M1 H1 J x1 r1 it => ?_⟩
  have p2 := p1.mono x1.same x1.ext
  let P : Nat → L2.St → Hp → Prop := fun i σi Hi => ∃ Mi hi ρi, Mi.u = M1.u ∧ Ext M1 Mi H1 Hi ∧ Rep Mi Hi hi ∧ RS Mi Hi ρi σi ∧ SPost D Mi Hi (forL k body (ds.drop i) ρi hi)
  refine ⟨fun i n σi Hi => n + i = ds.length ∧ P i σi Hi, ⟨ds.length, by omega, M1, h1, ρ, rfl, .refl _ _, r1, rs.mono x1, by rw [List.drop_zero]; exact p2⟩, fun i n σi Hi w => ?_⟩
  obtain ⟨hn, Mi, hi, ρi, ui, xi, ri, rsi, pi⟩ := w
  obtain ⟨ity, its⟩ := it Mi Hi xi fun a ha => ri.tracked ha
  by_cases hlt : i < ds.length
  · refine .inr ?_
    have ed : ds[i]? = some ds[i] := List.getElem?_eq_getElem hlt
    obtain ⟨go, yl⟩ := ity i _ ed
    rw [List.drop_eq_getElem_cons hlt] at pi
    refine ⟨go, P (i + 1), fun σ' H' q => ⟨n - 1, by omega, by omega, q⟩, fun x H2 hy => ?_⟩
    obtain ⟨sm, rx⟩ := yl x H2 hy
    obtain ⟨ri2, xi2⟩ := ri.grow sm
    unfold forL at pi
    split at pi
    · rename_i ρ1 ek
      refine ⟨Mi, hi, ρi, .dat ds[i], ρ1, ri2, rsi.mono xi2, rx, ek, fun σ2 rs2 _ _ => ⟨Mi, hi, ρ1, ri2, rs2, ?_⟩⟩
      have pi' := pi.mono rfl xi2.ext
      cases eb : body ρ1 hi with
      | none => rw [eb] at pi'; exact pi'.elim
      | some q =>
        obtain ⟨o, h3⟩ := q
        rw [eb] at pi'
        cases o with
        | nx ρ2 => exact fun M3 H3 σ3 u3 x3 r3 rs3 => ⟨M3, h3, ρ2, u3.trans ui, (xi.trans xi2.ext).trans x3, r3, rs3, SPost.mono pi' u3 x3⟩
        | ct ρ2 => exact fun M3 H3 σ3 u3 x3 r3 rs3 => ⟨M3, h3, ρ2, u3.trans ui, (xi.trans xi2.ext).trans x3, r3, rs3, SPost.mono pi' u3 x3⟩
        | bk ρ2 => exact pi'
        | rt w => exact pi'
    · exact pi.elim
  · refine .inl ?_
    have hi' : i = ds.length := by omega
    subst hi'
    rw [List.drop_length] at pi
    exact ⟨its, pi Mi Hi σi rfl (.refl _ _) ri rsi⟩
theorem ds_for {tg iter : Expr} {body : List Stmt} {pos : Pos} {gi : IM} {k : TM} {ts : List Nat} {f : SM} (hc : X.calm = true) (hp : PassesOwn (model X.prog X.w) X.A X.env X.xe) (hi : DI X tg iter gi) (hg : DG X tg ts k) (hb : DSs X body f) (hs : ∀ x, foldedSetIterable iter X.env x = pure x := by intro _; rfl) : DS X (.For tg iter body [] pos) (sFor gi k f) :=
  (ps_for hp hc hi hg hb hs).weak for_imp
end
abbrev FM := List W → Hh → Option (W × Hh)
def live (h : Hh) : List Bool := h.map Option.isSome
def leave (rm : Bool) (h : Hh) (w : W) (h' : Hh) : Option (W × Hh) := if live (h'.take h.length) = live h then match w with
    | .ref n => if n < h.length then some (.ref n, h'.take h.length) else match h'[n]? with
      | some (some (.lst ds)) => if rm = true then some (.ref h.length, h'.take h.length ++ [some (.lst ds)]) else some (.dat (.list ds), h'.take h.length)
      | some (some (.dic es)) => if rm = true then some (.ref h.length, h'.take h.length ++ [some (.dic es)]) else some (.dat (.dict es), h'.take h.length)
      | some (some (.dit es)) => if rm = true then some (.ref h.length, h'.take h.length ++ [some (.dit es)]) else none
      | _ => none
    | .pack _ => none
    | .lock _ => none
    | w => some (w, h'.take h.length)
  else none
def fnM (rm : Bool) (np nl : Nat) (body : SM) : FM := fun ws h => if ws.length = np then match body (ws.map some ++ List.replicate (nl - np) none) h with
    | some (.rt w, h') => leave rm h w h'
    | some (.nx _, h') => leave rm h (.dat .none) h'
    | _ => none
  else none
def spD (m : FM) : Sp := fun vs H Q _ => ∃ M h ws, Rep M H h ∧ RVs M H vs ws ∧ Cont RV (m ws h) M H Q
end DL
set_option maxRecDepth 100000
set_option maxHeartbeats 400000
namespace DL
open PySem PySem.Spec PyProof.Rows L2
variable [HW]
theorem live_get {h h' : Hh} (e : live (h'.take h.length) = live h) {i : Nat} (hi : i < h.length) : (h'[i]?).map Option.isSome = (h[i]?).map Option.isSome := by
  have := congrArg (fun l => l[i]?) e
  simp only [live, List.getElem?_map] at this
  rw [List.getElem?_take_of_lt hi] at this
  exact this
section
variable {M M' : Mm} {H H' : Hp} {h h' : Hh}
theorem leave_same (x : Ext M M' H H') (r : Rep M H h) (r' : Rep M' H' h') (e : live (h'.take h.length) = live h) {i : Nat} {a : Addr} (q : M.m[i]? = some (some a)) : M'.m[i]? = some (some a) := by
  have hi := lt_of_get q
  rcases x.kill i hi with k | k
  · rw [k]; exact q
  · have d := r'.dead i k
    obtain ⟨o, ho, _⟩ := r.at_ i a q
    have l := live_get e (i := i) (by rw [← r.len]; exact hi)
    rw [d, ho] at l
    cases l
theorem leave_has (x : Ext M M' H H') (u : M'.u = M.u) (r : Rep M H h) (r' : Rep M' H' h') (e : live (h'.take h.length) = live h) : ∀ b, M.Has b → M'.Has b := fun b z => by
  rcases z with z | z
  · exact .inl (by rw [u]; exact z)
  · obtain ⟨i, hi, q⟩ := List.getElem_of_mem z
    exact .inr (List.mem_of_getElem? (leave_same x r r' e (i := i) (by rw [List.getElem?_eq_getElem hi, q])))
theorem leave_rep (x : Ext M M' H H') (u : M'.u = M.u) (r : Rep M H h) (r' : Rep M' H' h') (e : live (h'.take h.length) = live h) : Rep M H' (h'.take h.length) := by
  have hl : (h'.take h.length).length = h.length := by
    have := congrArg List.length e
    simpa [live] using this
  refine ⟨fun a z => ?_, by rw [hl]; exact r.len, r.inj, fun i a q => ?_, fun i q => ?_⟩
  · obtain ⟨h1, o, h2, ht⟩ := r.us a z
    exact ⟨h1, o, x.stab a o h2 h1, ht⟩
  · obtain ⟨o, ho, ro⟩ := r'.at_ i a (leave_same x r r' e q)
    exact ⟨o, by rw [List.getElem?_take_of_lt (by rw [← r.len]; exact lt_of_get q)]; exact ho, ro.sub (leave_has x u r r' e)⟩
  · have hi : i < h.length := by rw [← r.len]; exact lt_of_get q
    have l := live_get e hi
    rw [r.dead i q] at l
    rw [List.getElem?_take_of_lt hi]
    cases z : h'[i]? with
    | none => rw [z] at l; cases l
    | some o =>
      rw [z] at l
      cases o with
      | none => rfl
      | some _ => cases l
theorem leave_ext (x : Ext M M' H H') : ExtE M M H H' := ⟨rfl, x.trk, x.stab, fun _ m => .inl m, Nat.le_refl _, fun _ _ => rfl⟩
theorem leave_out (x : Ext M M' H H') (u : M'.u = M.u) (r : Rep M H h) (r' : Rep M' H' h') (e : live (h'.take h.length) = live h) {n : Nat} {a : Addr} (hn : ¬ n < h.length) (q : M'.m[n]? = some (some a)) : ¬ M.Has a := fun z => by
  rcases z with z | z
  · exact (r'.us a (by rw [u]; exact z)).1 (List.mem_of_getElem? q)
  · obtain ⟨i, hi, qi⟩ := List.getElem_of_mem z
    have q' := leave_same x r r' e (i := i) (by rw [List.getElem?_eq_getElem hi, qi])
    have := r'.inj i n a q' q
    rw [r.len] at hi
    omega
theorem leave_mut (x : Ext M M' H H') (u : M'.u = M.u) (r : Rep M H h) (r' : Rep M' H' h') (e : live (h'.take h.length) = live h) {n : Nat} {a : Addr} {o : MO} (hn : ¬ n < h.length) (q : M'.m[n]? = some (some a)) (ho : h'[n]? = some (some o)) :
    Rep ⟨M.u, M.m ++ [some a]⟩ H' (h'.take h.length ++ [some o]) ∧ ExtE M ⟨M.u, M.m ++ [some a]⟩ H H' := by
  have out := leave_out x u r r' e hn q
  obtain ⟨o', ho', ro⟩ := r'.at_ n a q
  rw [ho] at ho'; cases ho'
  have R := leave_rep x u r r' e
  have hsub : ∀ b, Mm.Has ⟨a :: M.u, M.m⟩ b → M'.Has b := fun b z => by
    rcases z with z | z
    · rcases List.mem_cons.mp z with rfl | z
      · exact .inr (List.mem_of_getElem? q)
      · exact .inl (by rw [u]; exact z)
    · exact leave_has x u r r' e b (.inr z)
  have R2 : Rep ⟨a :: M.u, M.m⟩ H' (h'.take h.length) := by
    refine ⟨fun b z => ?_, R.len, R.inj, fun i b z => ?_, R.dead⟩
    · rcases List.mem_cons.mp z with rfl | z
      · exact ⟨fun y => out (.inr y), ro.kind⟩
      · exact R.us b z
    · obtain ⟨w, hw, rw'⟩ := r'.at_ i b (leave_same x r r' e z)
      exact ⟨w, by rw [List.getElem?_take_of_lt (by rw [← r.len]; exact lt_of_get z)]; exact hw, rw'.sub hsub⟩
  refine ⟨R2.owned (fun y => out (.inl y)) (ro.sub hsub), ⟨rfl, x.trk, x.stab, fun b z => ?_, by simp, fun i hi => List.getElem?_append_left hi⟩⟩
  rcases List.mem_append.mp z with z | z
  · exact .inl z
  · have : b = a := by simpa using z
    subst this
    exact x.fresh b (List.mem_of_getElem? q)
theorem leave_ok {rm : Bool} {w : W} {v : V} {Q : VK} (x : Ext M M' H H') (u : M'.u = M.u) (r : Rep M H h) (r' : Rep M' H' h') (rv : RV M' H' v w) (c : Cont RV (leave rm h w h') M H Q) : Q v H' := by
  unfold leave at c
  split at c
  · rename_i e
    have sub := leave_has x u r r' e
    have R := leave_rep x u r r' e
    split at c
    · rename_i n
      obtain ⟨a, ea, rfl⟩ := rv
      split at c
      · rename_i hn
        refine c.fin (leave_ext x) R ⟨a, ?_, rfl⟩
        rcases x.kill n (by rw [r.len]; exact hn) with k | k
        · rw [← k]; exact ea
        · rw [ea] at k; cases k
      · rename_i hn
        have out := leave_out x u r r' e hn ea
        obtain ⟨o, ho, ro⟩ := r'.at_ n a ea
        rw [ho] at c
        have hlen : M.m.length = (h'.take h.length).length := R.len
        have hl : (h'.take h.length).length = h.length := by
          have := congrArg List.length e
          simpa [live] using this
        cases o with
        | lst ds =>
          obtain ⟨xs, hx, q⟩ := ro
          cases rm with
          | false => exact c.fin (leave_ext x) R (RD.lst out hx (q.sub sub))
          | true =>
            obtain ⟨R2, x2⟩ := leave_mut x u r r' e hn ea ho
            exact c.fin x2 R2 ⟨a, by show (M.m ++ [some a])[h.length]? = _; rw [← hl, ← hlen]; simp, rfl⟩
        | dic ds =>
          obtain ⟨xs, hx, q⟩ := ro
          cases rm with
          | false => exact c.fin (leave_ext x) R (RD.dic out hx (q.sub sub))
          | true =>
            obtain ⟨R2, x2⟩ := leave_mut x u r r' e hn ea ho
            exact c.fin x2 R2 ⟨a, by show (M.m ++ [some a])[h.length]? = _; rw [← hl, ← hlen]; simp, rfl⟩
        | dit ds =>
          obtain ⟨xs, hx, q⟩ := ro
          cases rm with
          | false => exact c.no.elim
          | true =>
            obtain ⟨R2, x2⟩ := leave_mut x u r r' e hn ea ho
            exact c.fin x2 R2 ⟨a, by show (M.m ++ [some a])[h.length]? = _; rw [← hl, ← hlen]; simp, rfl⟩
        | tab q P => exact c.no.elim
        | ins C fs => exact c.no.elim
    · exact c.no.elim
    · exact c.no.elim
    · rename_i w' hw hp hk
      cases w with
      | ref n => exact absurd rfl (hw n)
      | pack n => exact absurd rfl (hp n)
      | lock n => exact absurd rfl (hk n)
      | dat d => exact c.fin (leave_ext x) R (RD.sub sub rv)
      | ins C fs =>
        obtain ⟨a, dx, gs, e1, n, q, rf⟩ := rv
        exact c.fin (leave_ext x) R ⟨a, dx, gs, e1, fun z => n (sub a z), q, rf.to fun _ _ => RD.sub sub⟩
      | exc k C fs =>
        obtain ⟨a, d, gs, e1, r1⟩ := rv
        exact c.fin (leave_ext x) R ⟨a, d, gs, e1, r1.to (fun b _ _ n z => n (sub b z)) (fun _ _ q _ _ => q) fun _ _ => RD.sub sub⟩
      | scr ns =>
        obtain ⟨a, o, e1, n, q⟩ := rv
        exact c.fin (leave_ext x) R ⟨a, o, e1, fun z => n (sub a z), q⟩
  · exact c.no.elim
end
theorem rs_start {M : Mm} {H : Hp} {vs : List V} {ws : List W} (r : RVs M H vs ws) (n : Nat) : RS M H (ws.map some ++ List.replicate n none) (vs.map some ++ List.replicate n none) := by
  refine ⟨by simp [r.length], ?_⟩
  induction r with
  | nil =>
    intro i w e
    rw [List.map_nil, List.nil_append, List.getElem?_replicate] at e
    split at e <;> cases e
  | cons a t ih =>
    intro i w e
    cases i with
    | zero => simp at e; subst e; exact ⟨_, rfl, a⟩
    | succ i => exact ih i w (by simpa using e)
theorem rvs3 {M : Mm} {H : Hp} {vs : List V} {a b c : W} (r : RVs M H vs [a, b, c]) : ∃ x y z, vs = [x, y, z] ∧ RV M H x a ∧ RV M H y b ∧ RV M H z c := by
  cases r with
  | cons ra r => cases r with
    | cons rb r => cases r with
      | cons rc r => cases r; exact ⟨_, _, _, rfl, ra, rb, rc⟩
theorem ds_par3 {X : Cx} {i j l : Nat} {st : Stmt} {g : AM} (h : PS X st (tPar3 i j l (tA g))) : DS X st (sPar g [i, j, l]) := h.weak fun D σ H => by
  rintro ⟨M, h, ρ, r, rs, p⟩
  obtain ⟨ws, h1, e1, p1⟩ := p.bind
  refine ⟨M, h, ρ, r, rs, ws, h1, e1, fun M1 H1 vs x1 r1 v1 => ?_⟩
  split at p1
  · rename_i hz
    match ws, hz, v1, p1 with
    | [w1, w2, w3], _, v1, p1 =>
      obtain ⟨a, b, c, rfl, ra, rb, rc⟩ := rvs3 v1
      exact ⟨a, b, c, rfl, p1 M1 H1 _ x1.same x1.ext r1 ((((rs.mono x1).set ra).set rb).set rc)⟩
  · exact p1.elim
end DL
set_option maxRecDepth 100000
set_option maxHeartbeats 400000
namespace DL
open PySem PySem.Spec PyProof.Rows L2
variable [HW]
def dcL (k : TM) (t : BM) (fk fv : EM) (ρ : Env) : List D → List (D × D) → Hh → Option (List (D × D) × Hh)
  | [], es, h => some (es, h)
  | d :: ds, es, h => match k (.dat d) ρ h with
    | some ρ1 => obnd (t ρ1 h) fun b h2 => if b = true then obnd (fk ρ1 h2) fun w h3 => obnd (fv ρ1 h3) fun v h4 => match w, v with
        | .dat kd, .dat d' => match dKey kd with
          | some key => if es.length < sizeLine then dcL k t fk fv ρ ds (putK' es key d') h4 else none
          | none => none
        | _, _ => none
      else dcL k t fk fv ρ ds es h2
    | none => none
def fDc (m : Bool) (gi : IM) (k : TM) (t : BM) (fk fv : EM) (vs : List Nat) : EM := fun ρ h => obnd (gi ρ h) fun ds h1 => obnd (dcL k t fk fv (wipeE ρ vs) ds [] h1) fun es h2 => mkK m es h2
theorem dc_imp {gi : IM} {k : TM} {t : BM} {fk fv : EM} {ts vs : List Nat} {m : Bool} (hs : ∀ j ∈ ts, j ∈ vs) : ∀ σ H Q, tE (fDc m gi k t fk fv vs) σ H Q → tDc (tI gi) (tGd ts k) (tT t) (tE fk) (tE fv) vs σ H Q := fun σ H Q => by
  rintro ⟨M, h, ρ, r, rs, c⟩
  obtain ⟨ds, h1, e1, c1⟩ := Cont.bind (δ := Unit) c
  refine ⟨M, h, ρ, ds, h1, r, rs, e1, fun M1 H1 J x1 r1 it D nD => ?_⟩
  obtain ⟨out, h2, e2, c2⟩ := Cont.bind (δ := Unit) (c1 M1 H1 x1)
  have x0 := ext_made (M := M1) (o := .dK []) nD
  have r0 := r1.make (o := .dK []) nD
  have rs0 : RS (M1.made D) (upd H1 D (.dK [])) (wipeE ρ vs) (L2.wipe σ vs) := ((rs.mono x1).moveu x0 rfl).wipe vs
  let P : Nat → Hp → Prop := fun i Hi => ∃ mi hi acc dacc, ExtE M1 ⟨M1.u, mi⟩ H1 Hi ∧ Rep ⟨D :: M1.u, mi⟩ Hi hi ∧ RS ⟨D :: M1.u, mi⟩ Hi (wipeE ρ vs) (L2.wipe σ vs) ∧ Hi D = some (.dK acc) ∧ RDk ⟨D :: M1.u, mi⟩ Hi acc dacc ∧ dcL k t fk fv (wipeE ρ vs) (ds.drop i) dacc hi = some (out, h2)
  refine ⟨fun i n Hi => n + i = ds.length ∧ P i Hi, ⟨ds.length, by omega, M1.m, h1, [], [], (ExtE.refl M1 H1).beside nD, r0, rs0, upd_same, .nil, by rw [List.drop_zero]; exact e2⟩, fun i n Hi w => ?_⟩
  obtain ⟨hn, mi, hi, acc, dacc, xi, ri, rsi, hD, qa, el⟩ := w
  have inD : D ∈ (⟨D :: M1.u, mi⟩ : Mm).u := List.mem_cons_self
  obtain ⟨ity, its⟩ := it _ Hi (xi.into nD) fun a ha => ri.tracked ha
  by_cases hlt : i < ds.length
  · refine .inr ?_
    have ed : ds[i]? = some ds[i] := List.getElem?_eq_getElem hlt
    obtain ⟨go, yl⟩ := ity i _ ed
    rw [List.drop_eq_getElem_cons hlt] at el
    refine ⟨go, P (i + 1), fun H' p => ⟨n - 1, by omega, by omega, p⟩, fun x H2 hy => ?_⟩
    obtain ⟨sm, rx⟩ := yl x H2 hy
    obtain ⟨ri2, xi2⟩ := ri.grow sm
    unfold dcL at el
    split at el
    · rename_i ρ1 ek
      refine ⟨_, hi, wipeE ρ vs, .dat ds[i], ρ1, ri2, rsi.mono xi2, rx, ek, fun σ2 rs2 l2 o2 => ⟨wipe_of (by rw [l2, L2.wipe_length]) o2 hs, ?_⟩⟩
      cases et : t ρ1 hi with
      | none => rw [et] at el; cases el
      | some pr =>
        obtain ⟨b, h3⟩ := pr
        rw [et] at el
        simp only [obnd_some] at el
        refine ⟨_, hi, ρ1, ri2, rs2, b, h3, et, fun M3 H3 b' x3 r3 eb => ?_⟩
        subst eb
        obtain ⟨u3, m3⟩ := M3
        obtain rfl : u3 = D :: M1.u := x3.same
        have xi3 : ExtE M1 ⟨M1.u, m3⟩ H1 H3 := xi.trans ((xi2.trans x3).reu M1.u)
        have hD3 : H3 D = some (.dK acc) := x3.stab _ _ (sm _ _ hD) fun z => (ri.us D inD).1 z
        cases b' with
        | false =>
          simp only [Bool.false_eq_true, if_false] at el
          exact iteF ⟨m3, h3, acc, dacc, xi3, r3, (rsi.mono xi2).mono x3, hD3, (qa.mono xi2.ext).mono x3.ext, el⟩
        | true =>
          simp only [if_true] at el
          refine iteT ?_
          cases ef : fk ρ1 h3 with
          | none => rw [ef] at el; cases el
          | some pr =>
            obtain ⟨w, h4⟩ := pr
            rw [ef] at el
            simp only [obnd_some] at el
            refine ⟨_, h3, ρ1, r3, rs2.mono x3, w, h4, ef, fun M4 H4 y x4 r4 ry => ?_⟩
            obtain ⟨u4, m4⟩ := M4
            obtain rfl : u4 = D :: M1.u := x4.same
            have hD4 : H4 D = some (.dK acc) := x4.stab _ _ hD3 fun z => (r3.us D List.mem_cons_self).1 z
            cases eg : fv ρ1 h4 with
            | none => rw [eg] at el; cases el
            | some pr =>
              obtain ⟨w', h5⟩ := pr
              rw [eg] at el
              simp only [obnd_some] at el
              refine ⟨_, h4, ρ1, r4, (rs2.mono x3).mono x4, w', h5, eg, fun M5 H5 z x5 r5 rz => ?_⟩
              obtain ⟨u5, m5⟩ := M5
              obtain rfl : u5 = D :: M1.u := x5.same
              have hD5 : H5 D = some (.dK acc) := x5.stab _ _ hD4 fun z => (r4.us D List.mem_cons_self).1 z
              split at el
              · rename_i kd d'
                split at el
                · rename_i key ekey
                  split at el
                  · rename_i hz
                    have := kP_dKey ekey
                    subst this
                    have ry' : RD ⟨D :: M1.u, m5⟩ H5 y (kP key) := (show RD _ _ y _ from ry).mono x5.ext
                    have q5 := (((qa.mono xi2.ext).mono x3.ext).mono x4.ext).mono x5.ext
                    have in5 : D ∈ (⟨D :: M1.u, m5⟩ : Mm).u := List.mem_cons_self
                    exact ⟨acc, key, rd_kP ry', hD5, by rw [qa.length]; exact hz, m5, h5, _, putK' dacc key d', ((xi3.trans (x4.reu M1.u)).trans (x5.reu M1.u)).beside nD, r5.off in5, ((((rsi.mono xi2).mono x3).mono x4).mono x5).off in5, upd_same, (q5.put key rz).off in5, el⟩
                  · cases el
                · cases el
              · cases el
    · cases el
  · refine .inl ?_
    have hi' : i = ds.length := by omega
    subst hi'
    rw [List.drop_length] at el
    cases el
    refine ⟨its, ?_⟩
    have c3 := c2 M1 H1 (.refl _ _)
    have nu : D ∉ M1.u := fun z => r1.new nD (.inl z)
    have nm : some D ∉ mi := (ri.us D inD).1
    cases m with
    | false => exact c3.fin xi ri.told (RD.dic (fun z => z.elim nu nm) hD (qa.sub less_has))
    | true =>
      refine c3.fin (M' := ⟨M1.u, mi ++ [some D]⟩) ⟨rfl, xi.trk, xi.stab, fun a z => ?_, Nat.le_trans xi.len (by simp), fun j hj => ?_⟩ (ri.owned nu ⟨acc, hD, qa⟩) ⟨D, ?_, rfl⟩
      · rcases List.mem_append.mp z with z | z
        · exact xi.fresh a z
        · have : a = D := by simpa using z
          rw [this]; exact .inr nD
      · have hl : j < mi.length := Nat.lt_of_lt_of_le hj xi.len
        show (mi ++ [some D])[j]? = _
        rw [List.getElem?_append_left hl]; exact xi.pre j hj
      · show (mi ++ [some D])[h2.length]? = _
        rw [← show mi.length = h2.length from ri.len]; simp
section
variable {X : Cx}
theorem d_dc (m : Bool) {kx vx tg iter : Expr} {ifs : List Expr} {scope : Scope} {own : List (Str × Nat)} {pos : Pos} {gi : IM} {ts : List Nat} {k : TM} {t : BM} {fk fv : EM} (hc : X.calm = true) (hN : X.N.Nodup) (hi : DI X tg iter gi) (ok : BlkOk X.N X.env.scope scope own)
    (hg : ∀ (s : Shared) (H : Hp) (C : Addr) (cl : List (Str × Addr)) (fp : List Addr), DG (X.blk s H scope (compEnvC scope cl C X.env) fp) tg ts k) (ht : ∀ (s : Shared) (H : Hp) (C : Addr) (cl : List (Str × Addr)) (fp : List Addr), DTs (X.blk s H scope (compEnvC scope cl C X.env) fp) ifs t)
    (hk : ∀ (s : Shared) (H : Hp) (C : Addr) (cl : List (Str × Addr)) (fp : List Addr), DE (X.blk s H scope (compEnvC scope cl C X.env) fp) kx fk) (he : ∀ (s : Shared) (H : Hp) (C : Addr) (cl : List (Str × Addr)) (fp : List Addr), DE (X.blk s H scope (compEnvC scope cl C X.env) fp) vx fv)
    (hsub : ∀ j ∈ ts, j ∈ own.map (·.2)) (hs : ∀ x, foldedSetIterable iter X.env x = pure x := by intro _; rfl) :
    DE X (.DictComp kx vx [⟨tg, iter, ifs, 0⟩] scope pos) (fDc m gi k t fk fv (own.map (·.2))) := (pe_dc hc hN hi ok hg ht hk he hs).weak (dc_imp hsub)
end
end DL
set_option maxRecDepth 100000
set_option maxHeartbeats 400000
namespace DL
open PySem PySem.Spec PyProof.Rows L2
variable [HW]
structure RG (k : Nat) (A : Around) : Prop where
  room : Room k A
  gd : A.guards = some []
theorem RG.mono {j k : Nat} {A : Around} (r : RG k A) (h : j ≤ k) : RG j A := ⟨r.room.mono h, r.gd⟩
structure FnG (P : Program) (w : World) (K : PySem.W.Frag) (mg : Str → Option Value) (base : Heap) (C : CXT) (k : Nat) (f : Addr) (fd : FuncData) (ps : List Str) (sp : Sp) : Prop where
  len : ∀ vs H Q E, sp vs H Q E → vs.length = ps.length
  run : ∀ (A : Around) (outer : List PySem.Env) (s : Shared) (H : Hp) (args : Args) (us : List Value) (vs : List V) (Q : VK) (E : XK), RG k A → Env0 P w K mg base A outer s H → BindsTo s fd args (ps.zip us) → Vals vs us →
    sp vs H Q E → codeAny (model P w) A (.call (.ref f) args) (CR C outer P w H s Q E) s
section
variable {P : Program} {w : World} {K : PySem.W.Frag} {mg : Str → Option Value} {base : Heap}
theorem fn_g0 {x qual : Str} {st : Stmt} {f : Addr} {fd : FuncData} {N ps : List Str} {k : Nat} {sp : Sp} (F : Fun K x qual st f fd) (S : FnScope N ps (defScope st)) (len : ∀ vs H Q E, sp vs H Q E → vs.length = ps.length)
    (hb : ∀ (cdv : Value), fd.code = cdv → ∀ (A : Around) (outer : List PySem.Env) (s : Shared) (H : Hp) (vs : List V) (Q : VK) (E : XK), RG k (A.deeper (envOfC qual (defScope st) s.heap.objs.size f cdv)) → sp vs H Q E →
      ∃ t, PSs (cxOf CX0 P w K mg base N qual (defScope st) f cdv A outer s H E).nox (defBody st) t ∧ t { nx := fun _ H' => Q .non H', rt := Q } (L2.start N vs) H) : FnG P w K mg base CX0 (k + 1) f fd ps sp := by
  obtain ⟨oc, od, kV, doc, pm, an, cdv, ct, osl, rfl, lk, hcd⟩ := F.ex
  constructor
  · exact len
  intro A outer s H args us vs Q E rg e0 bd vl q
  have kin : K.In s.heap := e0.mod.kin.keeps fun b o e => (e0.bs b o e).1
  have nl : s.heap.NoLimit := e0.mod.nolimit.keeps fun b o e => (e0.bs b o e).1
  have kinds : ∀ y ∈ ps.zip us, (defScope st).names.lookup y.1 = some .local ∨ ((defScope st).names.lookup y.1 = some .cell ∧ ((PySem.cellsFrom (s.heap.objs.size + 1) (defScope st).names []).lookup y.1).isSome = true) := by
    intro y hy
    have hp : y.1 ∈ ps := (List.of_mem_zip (show (y.1, y.2) ∈ ps.zip us from hy)).1
    rcases S.par y.1 hp with h | h
    · left; exact h
    · right; exact ⟨h, PySem.W.cellsFrom_some _ _ _ (.inl h)⟩
  apply codeAny_call_function rg.room.depth (kin _ _ lk) rfl S.co S.gen rfl (PySem.W.codeRec_of kin hcd)
  apply bd
  apply wpAny_newFunctionEnv_cells S.kind kinds
  intro env he s1 hx
  subst he
  constructor
  · exact nl.keeps hx.toInCall.keep
  apply codeAny_func
  obtain ⟨t, ht, hq⟩ := hb cdv rfl A outer s H vs Q E ⟨rg.room.deeper _, rg.gd⟩ q
  have I0 := inv_start (CX := CX0) (E := E) S rg.room.hd e0 (len _ _ _ _ q) vl hx
  apply wpAny_mono (ht.nox.run [] s1 _ H _ I0 hq)
  · intro fl s' hs
    cases fl
    case ret u => obtain ⟨v, σ', H', J, rv, q'⟩ := hs; exact ⟨v, H', J.os, J.bare, J.base, J.hok, rv, q'⟩
    case next => obtain ⟨σ', H', J, q'⟩ := hs; exact ⟨.non, H', J.os, J.bare, J.base, J.hok, rfl, q'⟩
    case brk => obtain ⟨_, _, _, q'⟩ := hs; exact q'.elim
    case cont => obtain ⟨_, _, _, q'⟩ := hs; exact q'.elim
  · intro e s' hs; exact hs
structure GD (P : Program) (w : World) (K : PySem.W.Frag) (mg : Str → Option Value) (base : Heap) (k : Nat) (x : Str) (st : Stmt) (ps : List Str) (m : FM) : Prop where
  ex : ∃ (f : Addr) (fd : FuncData), Fun K x x st f fd ∧ mg x = some (.ref f) ∧ FnG P w K mg base CX0 k f fd ps (spD m)
theorem fng_ok0 {x : Str} {st : Stmt} {f : Addr} {fd : FuncData} {N ps : List Str} {k : Nat} {body : SM} (rm : Bool) (F : Fun K x x st f fd) (S : FnScope N ps (defScope st))
    (hb : ∀ (cdv : Value), fd.code = cdv → ∀ (A : Around) (outer : List PySem.Env) (s : Shared) (H : Hp) (E : XK), RG k (A.deeper (envOfC x (defScope st) s.heap.objs.size f cdv)) → DSs (cxOf CX0 P w K mg base N x (defScope st) f cdv A outer s H E).nox (defBody st) body) :
    FnG P w K mg base CX0 (k + 1) f fd ps (spD (fnM rm ps.length N.length body)) := by
  refine fn_g0 F S (fun vs H Q E q => ?_) (fun cdv ec A outer s H vs Q E hr q => ?_)
  · obtain ⟨M, h, ws, rep, rv, c⟩ := q
    unfold fnM at c
    split at c
    · rename_i hl
      rw [rv.length]; exact hl
    · exact c.no.elim
  · obtain ⟨M, h, ws, rep, rv, c⟩ := q
    unfold fnM at c
    split at c
    · rename_i hl
      refine ⟨_, hb cdv ec A outer s H E hr, M, h, ws.map some ++ List.replicate (N.length - ps.length) none, rep, ?_, ?_⟩
      · have e : L2.start N vs = vs.map some ++ List.replicate (N.length - ps.length) none := by unfold L2.start; rw [rv.length, hl]
        rw [e]
        exact rs_start rv _
      · cases eb : body (ws.map some ++ List.replicate (N.length - ps.length) none) h with
        | none => rw [eb] at c; exact c.no.elim
        | some pr =>
          obtain ⟨o, h'⟩ := pr
          rw [eb] at c
          cases o with
          | nx ρ => exact fun M1 H1 σ u x1 r1 rs1 => leave_ok x1 u rep r1 (show RV M1 H1 .non (.dat .none) from .non) c
          | rt w => exact fun M1 H1 v u x1 r1 v1 => leave_ok x1 u rep r1 v1 c
          | bk ρ => exact c.no.elim
          | ct ρ => exact c.no.elim
    · exact c.no.elim
theorem fng_ok {x : Str} {st : Stmt} {f : Addr} {fd : FuncData} {N ps : List Str} {k : Nat} {body : SM} (rm : Bool) (F : Fun K x x st f fd) (S : FnScope N ps (defScope st))
    (hb : ∀ (cdv : Value) (A : Around) (outer : List PySem.Env) (s : Shared) (H : Hp) (E : XK), RG k (A.deeper (envOfC x (defScope st) s.heap.objs.size f cdv)) → DSs (cxOf CX0 P w K mg base N x (defScope st) f cdv A outer s H E).nox (defBody st) body) :
    FnG P w K mg base CX0 (k + 1) f fd ps (spD (fnM rm ps.length N.length body)) := fng_ok0 rm F S fun cdv _ => hb cdv
theorem gd_ok {x : Str} {st : Stmt} {f : Addr} {fd : FuncData} {N ps : List Str} {k : Nat} {body : SM} (rm : Bool) (F : Fun K x x st f fd) (hm : mg x = some (.ref f)) (S : FnScope N ps (defScope st))
    (hb : ∀ (cdv : Value) (A : Around) (outer : List PySem.Env) (s : Shared) (H : Hp) (E : XK), RG k (A.deeper (envOfC x (defScope st) s.heap.objs.size f cdv)) → DSs (cxOf CX0 P w K mg base N x (defScope st) f cdv A outer s H E).nox (defBody st) body) :
    GD P w K mg base (k + 1) x st ps (fnM rm ps.length N.length body) := ⟨f, fd, F, hm, fng_ok rm F S hb⟩
theorem GD.no {x : Str} {st : Stmt} {f : Addr} {fd : FuncData} {ps : List Str} {k : Nat} (F : Fun K x x st f fd) (hm : mg x = some (.ref f)) : GD P w K mg base k x st ps (fun _ _ => none) :=
  ⟨f, fd, F, hm, fun _ _ _ _ ⟨_, _, _, _, _, c⟩ => c.no.elim, fun _ _ _ _ _ _ _ _ _ _ _ _ _ ⟨_, _, _, _, _, c⟩ => c.no.elim⟩
end
section
variable {X : Cx} {k : Nat} {f : Addr} {fd : FuncData} {ps : List Str} {m : FM} {x : Str} {p pos : Pos} {e : Expr} {es : List Expr} {g : AM} {st : Stmt}
theorem run_g {sp : Sp} {pins : List (Addr × Obj)} {σ : L2.St} {H : Hp} {s : Shared} {Q : VK} {args : Args} {us : List Value} {vs : List V} (F : FnG X.prog X.w X.K X.mg X.base CX0 k f fd ps sp) (hr : RG k X.A)
    (I : Inv X pins σ H s) (hb : BindsTo s fd args (ps.zip us)) (r : Vals vs us) (h : sp vs H Q E0) : codeAny (model X.prog X.w) X.A (.call (.ref f) args) (fun r s' => match r with
      | .ok (.ret u) => EP X pins σ Q u s'
      | _ => False) s := by
  apply codeAny_mono (F.run X.A X.stack s H args us vs Q E0 hr I.env0 hb r h)
  intro r s' hq
  cases r with
  | error e => exact hq
  | ok fl =>
    cases fl with
    | ret u => exact I.after hq
    | next => exact hq
    | brk => exact hq
    | cont => exact hq
theorem d_call' (G : GD X.prog X.w X.K X.mg X.base k x st ps m) (hr : RG k X.A) (ha : DA X (e :: es) g)
    (hbd : ∀ (kV doc pm : Value) (an : Option Addr) (cdv ct : Value) (us : List Value), us.length = ps.length → bindArgs (PySem.W.fnOf x x (defArgs st) (defBody st) (defScope st) .none kV doc pm an cdv ct) ⟨us, []⟩ = pure (ps.zip us))
    (hg : Gl X x := by rfl)
    (hdb : (x == ("__debug__" : Str)) = false := by decide) (he : starEach (e :: es) X.env = (false, eval e X.env) :: starEach es X.env := by rfl) (hpl : (backTo pos (starEach es X.env)).any (·.1) = false := by rfl) : DE X (.Call (.Name x p) (e :: es) [] pos) (fA m g) := by
  obtain ⟨f, fd, F, hm, G⟩ := G.ex
  refine ⟨fun pins s σ H Q I q => ?_⟩
  obtain ⟨M, h, ρ, r, rs, c⟩ := q
  obtain ⟨ws, h1, e1, c1⟩ := Cont.bind (δ := Unit) c
  apply wpAny_Call_Name_kw
  apply ld_glob I hg hm _ hdb
  apply PySem.W.callWith_K (h₀ := X.base) I.ok.mod.kin F.kp _ he hpl
  refine thn (ha.run pos pins s σ H (fun vs H1 => spD m vs H1 Q E0) I ⟨M, h, ρ, r, rs, ws, h1, e1, fun M1 H1 vs x1 r1 v1 => ⟨M1, h1, ws, r1, v1, c1 M1 H1 x1⟩⟩) fun us s1 ⟨vs, H1, I1, rv, q⟩ => ⟨I1.kIn, ?_⟩
  have hl : us.length = ps.length := by rw [← rv.length]; exact G.len _ _ _ _ q
  apply wpAny_call
  have bd := (F.binds (ps := ps) hbd) s1 us I1.kIn (by simpa using hl)
  rw [List.append_nil] at bd
  apply codeAny_mono (run_g G hr I1 bd rv q)
  intro r s' hq
  cases r with
  | error e => exact hq.elim
  | ok fl =>
    cases fl with
    | ret u => exact hq
    | next => exact hq
    | brk => exact hq
    | cont => exact hq
def permL {α : Type} (is : List Nat) (ws : List α) : Option (List α) := (is.map fun i => ws[i]?).foldr (fun o r => match o, r with
    | some w, some l => some (w :: l)
    | _, _ => none) (some [])
def permM (is : List Nat) (m : FM) : FM := fun ws h => match permL is ws with
  | some l => m l h
  | none => none
theorem permL_cons {α : Type} (i : Nat) (is : List Nat) (ws : List α) : permL (i :: is) ws = match ws[i]?, permL is ws with
    | some w, some l => some (w :: l)
    | _, _ => none := rfl
def kwM (n : Nat) (is : List Nat) (m : FM) : FM := fun ws h => if ws.length = n then permM is m ws h else none
theorem permL_rvs {M : Mm} {H : Hp} {vs : List V} {ws : List W} (r : RVs M H vs ws) : ∀ {is : List Nat} {l : List W}, permL is ws = some l → ∃ l', permL is vs = some l' ∧ RVs M H l' l
  | [], l, e => by cases e; exact ⟨[], rfl, .nil⟩
  | i :: is, l, e => by
    rw [permL_cons] at e
    cases e1 : ws[i]? with
    | none => rw [e1] at e; cases e
    | some w =>
      cases e2 : permL is ws with
      | none => rw [e1, e2] at e; cases e
      | some l0 =>
        rw [e1, e2] at e
        cases e
        obtain ⟨l', h1, h2⟩ := permL_rvs r e2
        obtain ⟨v, h3, h4⟩ : ∃ v, vs[i]? = some v ∧ RV M H v w := by
          clear e2 h1 h2
          induction r generalizing i with
          | nil => simp at e1
          | cons a t ih => cases i with
            | zero => simp at e1; subst e1; exact ⟨_, rfl, a⟩
            | succ i => exact ih i (by simpa using e1)
        exact ⟨v :: l', by rw [permL_cons, h3, h1], .cons h4 h2⟩
theorem permL_vals {vs : List V} {us : List Value} (r : Vals vs us) : ∀ {is : List Nat} {l : List V}, permL is vs = some l → ∃ l', permL is us = some l' ∧ Vals l l'
  | [], l, e => by cases e; exact ⟨[], rfl, .nil⟩
  | i :: is, l, e => by
    rw [permL_cons] at e
    cases e1 : vs[i]? with
    | none => rw [e1] at e; cases e
    | some w =>
      cases e2 : permL is vs with
      | none => rw [e1, e2] at e; cases e
      | some l0 =>
        rw [e1, e2] at e
        cases e
        obtain ⟨l', h1, h2⟩ := permL_vals r e2
        obtain ⟨v, h3, h4⟩ : ∃ v, us[i]? = some v ∧ RelV w v := by
          clear e2 h1 h2
          induction r generalizing i with
          | nil => simp at e1
          | cons a t ih => cases i with
            | zero => simp at e1; subst e1; exact ⟨_, rfl, a⟩
            | succ i => exact ih i (by simpa using e1)
        exact ⟨v :: l', by rw [permL_cons, h3, h1], .cons h4 h2⟩
theorem d_callK {kws : List Keyword} {ks : List Str} {is : List Nat} (G : GD X.prog X.w X.K X.mg X.base k x st ps m) (hr : RG k X.A) (ha : DK X kws g)
    (hbd : ∀ (kV doc pm : Value) (an : Option Addr) (cdv ct : Value) (us l : List Value), us.length = ks.length → permL is us = some l → bindArgs (PySem.W.fnOf x x (defArgs st) (defBody st) (defScope st) .none kV doc pm an cdv ct) ⟨[], ks.zip us⟩ = pure (ps.zip l))
    (hkl : kws.length = ks.length)
    (hall : (backToKw pos (keywordEach kws X.env)).all (·.1.isSome) = true := by rfl) (hks : (backToKw pos (keywordEach kws X.env)).filterMap (·.1) = ks := by rfl)
    (hpl : ((backTo pos (starEach [] X.env)).any (·.1) || (backToKw pos (keywordEach kws X.env)).any (·.1.isNone)) = false := by rfl)
    (hg : Gl X x := by rfl) (hdb : (x == ("__debug__" : Str)) = false := by decide) : DE X (.Call (.Name x p) [] kws pos) (fA (kwM ks.length is m) g) := by
  obtain ⟨f, fd, F, hm, G⟩ := G.ex
  refine ⟨fun pins s σ H Q I q => ?_⟩
  obtain ⟨M, h, ρ, r, rs, c⟩ := q
  obtain ⟨ws, h1, e1, c1⟩ := Cont.bind (δ := Unit) c
  apply wpAny_Call_Name_kw
  apply ld_glob I hg hm _ hdb
  apply PySem.W.callWith_KW0 (h₀ := X.base) I.ok.mod.kin F.kp hall _ hpl
  refine thn (ha.run pos pins s σ H (fun vs H1 => vs.length = ks.length ∧ ∃ l, permL is vs = some l ∧ spD m l H1 Q E0) I ⟨M, h, ρ, r, rs, ws, h1, e1, fun M1 H1 vs x1 r1 v1 => ?_⟩) fun us s1 ⟨vs, H1, I1, rv, hlen, l, el, q⟩ => ⟨I1.kIn, ?_⟩
  · have c2 := c1 M1 H1 x1
    unfold kwM at c2
    split at c2
    · rename_i hw
      refine ⟨by rw [v1.length]; exact hw, ?_⟩
      unfold permM at c2
      split at c2
      · rename_i l el
        obtain ⟨l', h2, h3⟩ := permL_rvs v1 el
        exact ⟨l', h2, M1, h1, l, r1, h3, c2⟩
      · exact c2.no.elim
    · exact c2.no.elim
  · obtain ⟨l', h2, h3⟩ := permL_vals rv el
    have hl : us.length = ks.length := by rw [← rv.length]; exact hlen
    rw [hks]
    apply wpAny_call
    have bd : BindsTo s1 fd ⟨[], ks.zip us⟩ (ps.zip l') := by
      obtain ⟨oc, od, kV, doc, pm, an, cdv, ct, osl, rfl, lk, hcd⟩ := F.ex
      exact .of_eq (hbd kV doc pm an cdv ct us l' hl h2)
    apply codeAny_mono (run_g G hr I1 bd h3 q)
    intro r s' hq
    cases r with
    | error e => exact hq.elim
    | ok fl =>
      cases fl with
      | ret u => exact hq
      | next => exact hq
      | brk => exact hq
      | cont => exact hq
end
end DL
set_option maxRecDepth 100000
set_option maxHeartbeats 400000
namespace DL
open PySem PySem.Spec PyProof.Rows L2
variable [HW]
section
variable {X : Cx}
def revS (z : Str) : Str := ⟨z.cps.toList.reverse.toArray⟩
def backW (m : Bool) (w : W) (h : Hh) : Option (W × Hh) := match w with
  | .dat (.list ds) => mkL m ds.reverse h
  | .dat (.tuple ds) => some (.dat (.tuple ds.reverse), h)
  | .dat (.str z) => if z.length ≤ sizeLine then some (.dat (.str (revS z)), h) else none
  | .ref n => match lstAt h n with
    | some ds => mkL m ds.reverse h
    | none => none
  | _ => none
def fRev (m : Bool) (f : EM) : EM := fun ρ h => obnd (f ρ h) fun w h1 => backW m w h1
def isDsp : D → Bool
  | .list _ => true
  | .tuple _ => true
  | _ => false
def reprW (ws : List W) (h : Hh) : Option (W × Hh) := match ws with
  | [w] => match deref h w with
    | some d => if (isDsp d && shp d && d.showable && decide (d.shown.length ≤ sizeLine)) = true then ok (.str d.shown) h else none
    | none => none
  | _ => none
def rRepr (K : PySem.W.Frag) : List V → Hp → VK → Prop := fun xs H Q => ∃ a d, xs = [.ref a] ∧ Dp K H (.ref a) d ∧ shp d = true ∧ d.showable = true ∧ d.shown.length ≤ sizeLine ∧ Q (.str d.shown) H
theorem cr_repr {k : Nat} (hr : RG k X.A) : CallR X (.builtin "repr") (rRepr X.K) := by
  intro pins s σ H xs us Q I r h
  obtain ⟨a, d, rfl, dp, sh, hs, hz, q⟩ := h
  obtain rfl := Vals.ref1 r
  obtain ⟨as, rd⟩ := Dp.reads I d _ _ dp rfl
  have hd := SeqAt.depth_of_shaped sh
  apply repr_of_reads' rd hs (PyData.noDict_hsm (PyData.hasDict_of_canLay d (SeqAt.canLay_of_shaped sh))) hr.gd _ (fun _ _ e => e) _ hz
  · have := hr.room.un; omega
  · intro h' u tk hk
    exact ⟨.str _, H, I.kept hk, ⟨u, rfl⟩, q⟩
theorem s_repr : SemA (rRepr X.K) reprW := by
  intro M H h vs ws Q rep rv c
  unfold reprW at c
  split at c
  · obtain ⟨v, rfl, r⟩ := rvs1 rv
    split at c
    · rename_i d e
      split at c
      · rename_i hz
        simp only [Bool.and_eq_true, decide_eq_true_eq] at hz
        obtain ⟨⟨⟨h1, h2⟩, h3⟩, h4⟩ := hz
        have rr := deref_rr rep r e
        have dp := rr_dp (K := X.K) rr (SeqAt.canLay_of_shaped h2)
        obtain ⟨a, rfl⟩ : ∃ a, v = .ref a := by
          cases d with
          | list ds => obtain ⟨a, _, e, _⟩ := rr; exact ⟨a, e⟩
          | tuple ds => obtain ⟨a, _, e, _⟩ := rr_tup rr; exact ⟨a, e⟩
          | _ => cases h1
        exact ⟨a, d, rfl, dp, h2, h3, h4, c.here rep (.str _)⟩
      · exact c.no.elim
    · exact c.no.elim
  · exact c.no.elim
end
end DL
set_option maxRecDepth 100000
set_option maxHeartbeats 400000
namespace DL
open PySem PySem.Spec PyProof.Rows L2
variable [HW]
structure Bi (mg : Str → Option Value) : Prop where
  len : mg "len" = none
  abs : mg "abs" = none
  int : mg "int" = none
  max : mg "max" = none
  min : mg "min" = none
  all : mg "all" = none
  any : mg "any" = none
  sum : mg "sum" = none
  tuple : mg "tuple" = none
  list : mg "list" = none
  dict : mg "dict" = none
  sorted : mg "sorted" = none
  isinstance : mg "isinstance" = none
  str : mg "str" = none
  bool : mg "bool" = none
  range : mg "range" = none
  enumerate : mg "enumerate" = none
  zip : mg "zip" = none
  reversed : mg "reversed" = none
  repr : mg "repr" = none
  set : mg "set" = none
section
variable {X : Cx} {p pos : Pos} {e e2 : Expr} {es : List Expr} {g : AM} {f : EM}
theorem bt_int : bootBuiltins "int" = some (.type "int") := by decide +kernel
theorem bt_str : bootBuiltins "str" = some (.type "str") := by decide +kernel
theorem bt_list : bootBuiltins "list" = some (.type "list") := by decide +kernel
theorem bt_tuple : bootBuiltins "tuple" = some (.type "tuple") := by decide +kernel
theorem bt_bool : bootBuiltins "bool" = some (.type "bool") := by decide +kernel
theorem bt_dict : bootBuiltins "dict" = some (.type "dict") := by decide +kernel
theorem d_abs (hm : X.mg "abs" = none) (ha : DA X [e] g) (hg : Gl X "abs" := by rfl) (he : starEach [e] X.env = (false, eval e X.env) :: starEach [] X.env := by rfl) (hpl : (backTo pos (starEach [] X.env)).any (·.1) = false := by rfl) : DE X (.Call (.Name "abs" p) [e] [] pos) (fA absW g) :=
  d_callB call_abs s_abs hm (by decide +kernel) ha hg (by decide) (by decide) he hpl
theorem d_max (hc : X.calm = true) (hm : X.mg "max" = none) (ha : DA X [e, e2] g) (hg : Gl X "max" := by rfl) (he : starEach [e, e2] X.env = (false, eval e X.env) :: starEach [e2] X.env := by rfl) (hpl : (backTo pos (starEach [e2] X.env)).any (·.1) = false := by rfl) : DE X (.Call (.Name "max" p) [e, e2] [] pos) (fA maxW g) :=
  d_callB (call_max2 hc) s_max hm (by decide +kernel) ha hg (by decide) (by decide) he hpl
theorem d_min (hc : X.calm = true) (hm : X.mg "min" = none) (ha : DA X [e, e2] g) (hg : Gl X "min" := by rfl) (he : starEach [e, e2] X.env = (false, eval e X.env) :: starEach [e2] X.env := by rfl) (hpl : (backTo pos (starEach [e2] X.env)).any (·.1) = false := by rfl) : DE X (.Call (.Name "min" p) [e, e2] [] pos) (fA minW g) :=
  d_callB (call_min2 hc) s_min hm (by decide +kernel) ha hg (by decide) (by decide) he hpl
theorem d_all (hc : X.calm = true) (hm : X.mg "all" = none) (ha : DA X [e] g) (hg : Gl X "all" := by rfl) (he : starEach [e] X.env = (false, eval e X.env) :: starEach [] X.env := by rfl) (hpl : (backTo pos (starEach [] X.env)).any (·.1) = false := by rfl) : DE X (.Call (.Name "all" p) [e] [] pos) (fA allW g) :=
  d_callB (cr_all hc) s_all hm (by decide +kernel) ha hg (by decide) (by decide) he hpl
theorem d_any (hc : X.calm = true) (hm : X.mg "any" = none) (ha : DA X [e] g) (hg : Gl X "any" := by rfl) (he : starEach [e] X.env = (false, eval e X.env) :: starEach [] X.env := by rfl) (hpl : (backTo pos (starEach [] X.env)).any (·.1) = false := by rfl) : DE X (.Call (.Name "any" p) [e] [] pos) (fA anyW g) :=
  d_callB (cr_any hc) s_any hm (by decide +kernel) ha hg (by decide) (by decide) he hpl
theorem d_sorted {k : Nat} (hr : RG k X.A) (m : Bool) (hm : X.mg "sorted" = none) (ha : DA X [e] g) (hg : Gl X "sorted" := by rfl) (he : starEach [e] X.env = (false, eval e X.env) :: starEach [] X.env := by rfl) (hpl : (backTo pos (starEach [] X.env)).any (·.1) = false := by rfl) : DE X (.Call (.Name "sorted" p) [e] [] pos) (fA (sortW m) g) :=
  d_callB (cr_sortedA hr.room) (s_sorted m) hm (by decide +kernel) ha hg (by decide) (by decide) he hpl
theorem d_repr {k : Nat} (hr : RG k X.A) (hm : X.mg "repr" = none) (ha : DA X [e] g) (hg : Gl X "repr" := by rfl) (he : starEach [e] X.env = (false, eval e X.env) :: starEach [] X.env := by rfl) (hpl : (backTo pos (starEach [] X.env)).any (·.1) = false := by rfl) : DE X (.Call (.Name "repr" p) [e] [] pos) (fA reprW g) :=
  d_callB (cr_repr hr) s_repr hm (by decide +kernel) ha hg (by decide) (by decide) he hpl
theorem d_intC (hm : X.mg "int" = none) (ha : DA X [e] g) (hg : Gl X "int" := by rfl) (he : starEach [e] X.env = (false, eval e X.env) :: starEach [] X.env := by rfl) (hpl : (backTo pos (starEach [] X.env)).any (·.1) = false := by rfl) : DE X (.Call (.Name "int" p) [e] [] pos) (fA intC g) :=
  d_callT call_int1 s_intC hm bt_int ha hg (by decide) (by decide) he hpl
theorem d_tuple (hm : X.mg "tuple" = none) (ha : DA X [e] g) (hg : Gl X "tuple" := by rfl) (he : starEach [e] X.env = (false, eval e X.env) :: starEach [] X.env := by rfl) (hpl : (backTo pos (starEach [] X.env)).any (·.1) = false := by rfl) : DE X (.Call (.Name "tuple" p) [e] [] pos) (fA tupleW g) :=
  d_callT call_tupB s_tuple hm bt_tuple ha hg (by decide) (by decide) he hpl
end
def noList (K : PySem.W.Frag) : Bool := K.all fun p => match p.2.cls with
  | .type "list" => false
  | _ => true
theorem lookup_mem {K : PySem.W.Frag} {a : Addr} {o : Obj} (e : K.lookup a = some o) : (a, o) ∈ K := by
  induction K with
  | nil => cases e
  | cons p r ih =>
    obtain ⟨b, u⟩ := p
    rw [List.lookup_cons] at e
    split at e
    · rename_i q
      have : a = b := by simpa using q
      cases e
      subst this
      exact List.mem_cons_self
    · exact List.mem_cons_of_mem _ (ih e)
end DL
set_option maxRecDepth 100000
set_option maxHeartbeats 1000000
namespace DL
open PySem PySem.Spec PyProof.Rows L2
variable [HW]
theorem enum_meets {v : Value} {o : Obj} {H : Heap → Prop} (B : Begins v o H) : Meets (Builtin.«enumerate.__new__» ⟨[.type "enumerate", v], []⟩) (fun _ R s => H s.heap ∧
    R (.ok (.ret (.ref (s.heap.push o).objs.size))) { s with heap := (s.heap.push o).push { cls := .type "enumerate", data := .fields #[.none, .bool false, .ref s.heap.objs.size, rawInt 0, .none, .none] } }) := by
  apply Meets.of_wp
  intro prog w A R s h
  obtain ⟨hp, g, d, tk, os⟩ := s
  obtain ⟨h1, h⟩ := h
  have hsub := sub_enumerate
  have it : ∀ {A' : Around} {E : Value → Shared → Prop} {Q : Value → Shared → Prop}, Q (.ref hp.objs.size) ⟨hp.push o, g, d, tk, os⟩ → wpAny (model prog w) A' (pyIter v) Q E ⟨hp, g, d, tk, os⟩ := by
    intro A' E Q q
    exact B.iter prog w _ _ ⟨hp, g, d, tk, os⟩ _ h1 q
  wp_walk using it
  apply wpAny_stack_any
  intro st
  apply wpAny_pure
  split
  · rename_i c _ _ _ _ _
    cases (c == Value.type "enumerate") <;> (wp_walk using it; exact ⟨_, rfl, h⟩)
  · wp_walk using it
    exact ⟨_, rfl, h⟩
section
variable {prog : Program} {w : World} {A : Around} {E : Value → Shared → Prop} {s : Shared}
theorem call_enumT {v : Value} {o : Obj} {H : Heap → Prop} {Q : Value → Shared → Prop} (B : Begins v o H) (h1 : H s.heap)
    (h : ∀ h', IsEnum h' (s.heap.objs.size + 1) s.heap.objs.size 0 .none → h'.get? s.heap.objs.size = some o → (∀ b o, s.heap.get? b = some o → h'.get? b = some o) → Q (.ref (s.heap.objs.size + 1)) { s with heap := h' }) :
    wpAny (model prog w) A (call (.type "enumerate") [v]) Q E s := by
  apply callType_new F.called_enumerate (by decide) (F.typeCall_enumerate_1 _) (F.newCall_enumerate_1 _) (fun obj => F.args_object_init_2 obj _) F.entry_enumerate_new (enum_meets B)
  refine ⟨h1, ?_⟩
  have hz : (s.heap.push o).objs.size = s.heap.objs.size + 1 := Heap.size_push ..
  show _ ∧ _
  rw [hz]
  have he : IsEnum ((s.heap.push o).push { cls := .type "enumerate", data := .fields #[.none, .bool false, .ref s.heap.objs.size, rawInt 0, .none, .none] }) (s.heap.objs.size + 1) s.heap.objs.size 0 .none := by
    have z := Heap.get?_push_size (s.heap.push o) (o := { cls := .type "enumerate", data := .fields #[.none, .bool false, .ref s.heap.objs.size, rawInt 0, .none, .none] }) rfl
    rw [hz] at z
    exact z
  exact ⟨⟨_, he, rfl⟩, h _ he (Heap.get?_push_of_some _ (Heap.get?_push_size _ B.free)) fun b o x => Heap.get?_push_of_some _ (Heap.get?_push_of_some _ x)⟩
end
def IteT (K : PySem.W.Frag) (a : Addr) : It :=
  ⟨fun i H => ∃ (xs : List V) (x : V), SqT K H a xs ∧ xs[i]? = some x, fun i H v H' => ∃ T x, v = .ref T ∧ H T = none ∧ H' = upd H T (.tup [.int (i : Nat), x]) ∧ ∀ xs, SqT K H a xs → xs[i]? = some x, fun i H => ∃ xs : List V, SqT K H a xs ∧ xs.length ≤ i⟩
theorem turn_enumT {P : Program} {w : World} {K : PySem.W.Frag} {elts : List Expr} {kk : Nat} {tpos : Pos} (a e it : Addr) :
    Turn P w K (.Tuple elts kk tpos) (IteT K a) [e, it] e (fun i h => (∃ old, IsEnum h e it ((i : Nat) : Int) old) ∧ h.IsTupleIter it a i ∧ e ≠ it ∧ a ≠ it ∧ e ≠ a) where
  mem := by simp
  obj := fun i h st b hb => by
    obtain ⟨⟨old, he⟩, ⟨o, ho, hc, hd⟩, _⟩ := st
    have e' : b = e ∨ b = it := by simpa using hb
    rcases e' with z | z
    · rw [z]; exact ⟨_, he, fun v q => nomatch q⟩
    · rw [z]; exact ⟨o, ho, fun v q => by rw [hd] at q; cases q⟩
  keep := fun i h h' st k => let ⟨⟨old, he⟩, hi, hne⟩ := st; ⟨⟨old, k e (by simp) _ he⟩, hi.at fun o q => k it (by simp) o q, hne⟩
  item := by
    intro X hP hw hK hc i pins s σ H E I hf st hg
    subst hP hw hK
    obtain ⟨⟨old, he⟩, hit, hne, hna, hea⟩ := st
    obtain ⟨xs, x, hq, hx⟩ := hg
    obtain ⟨its, rv, p, hz⟩ := I.tuple hq
    obtain ⟨u, hu, ru⟩ := rv.get hx
    have hel : e < s.heap.objs.size := Heap.lt_size he
    have hil : it < s.heap.objs.size := by obtain ⟨_, q, _⟩ := hit; exact Heap.lt_size q
    have hi : i < its.toArray.size := by
      have := (List.getElem?_eq_some_iff.mp hu).1
      simpa using this
    have DD := Draws.tuple (prog := X.prog) (w := X.w) (A := X.A.in1) (I.ok.hd hc) it a hna its.toArray
    apply wpAny_pyNext_enum_itemD DD he ⟨hit, p⟩ hi hne (by simp [hne, hea])
    intro x' h' tk hP ho hs hT hsz hk
    obtain ⟨hit', p'⟩ := hs
    have ex : x' = u := by
      have h2 : its[i]? = some x' := by simpa using hP
      rw [hu] at h2
      exact (Option.some.inj h2).symm
    subst ex
    refine ⟨_, rfl, wpAny_letOwnedTupleGo_enum (s := { s with heap := h', toks := tk + 1 }) ho fun h'' he' sb => ?_⟩
    have hT2 : h''.get? s.heap.objs.size = some { cls := .type "tuple", data := .seq #[.int i tk, x'] } := (sb.2 _ (Nat.ne_of_gt hel)).trans hT
    have new : ObjOk X.prog X.w (upd H s.heap.objs.size (.tup [.int (i : Nat), x])) h'' s.heap.objs.size (.tup [.int (i : Nat), x]) :=
      ⟨by show 2 ≤ sizeLine; decide, [.int i tk, x'], .cons ⟨_, rfl⟩ (.cons ru .nil), ⟨_, hT2, rfl, _, rfl⟩⟩
    have I1 : Inv X pins σ (upd H s.heap.objs.size (.tup [.int (i : Nat), x])) { s with heap := h'', toks := tk + 1 } := by
      apply I.turnedNew (ch := [e, it]) _ hf (Nat.le_refl _) new
      intro b ob hb q
      have h1 : b ≠ e := fun z => hb (by simp [z])
      have h2 : b ≠ it := fun z => hb (by simp [z])
      rw [sb.2 b h1]
      exact hk b ob h1 h2 q
    refine ⟨.ref s.heap.objs.size, _, I1, rfl, ⟨_, x, rfl, I.hok.fresh (Nat.le_refl _), rfl, fun ys hy => by rw [I.tuple_inj hy hq]; exact hx⟩, ⟨⟨x', ?_⟩, hit'.at fun o q => (sb.2 it (Ne.symm hne)).trans q, hne, hna, hea⟩, fun b hb => ?_⟩
    · have e1 : ((i + 1 : Nat) : Int) = (i : Int) + 1 := by omega
      rw [e1]; exact he'
    · have hb' : b < s.heap.objs.size := by
        have e' : b = e ∨ b = it := by simpa using hb
        rcases e' with z | z
        · rw [z]; exact hel
        · rw [z]; exact hil
      rw [upd_ne (Nat.ne_of_lt hb')]
      exact (hf b hb).1
  done := by
    intro X hP hw hK hc i pins s σ H E I hf st hg
    subst hP hw hK
    obtain ⟨⟨old, he⟩, hit, hne, hna, hea⟩ := st
    obtain ⟨xs, hq, hx⟩ := hg
    obtain ⟨its, rv, p, hz⟩ := I.tuple hq
    obtain ⟨f0, f1, f2, f3, f4, f5⟩ := hf it (by simp)
    have hl := rv.length
    unfold pyNext
    have hT : s.TypeIs (.ref e) "enumerate" := ⟨_, he, rfl⟩
    apply wpAny_bind
    apply wpAny_attempt
    apply wpAny_callSpecial?_slot (name := Str.ofString "__next__") hT F.slot_enumerate_next
    apply wpAny_call_entry F.slot_enumerate_next hT F.entry_enumerate_next _ (F.args_enumerate_next_1 _)
    show wpAny _ _ (field (.ref e) 2 >>= _) _ _ _
    apply wpAny_bind
    apply wpAny_field he rfl (x := .ref it) rfl
    apply wpAny_bind
    apply wpAny_nextOf_tuple_end (A := X.A.in1) (show X.A.in1.handled = none from I.ok.hd hc) hit p (by simp; omega)
    intro h' x he' hx'
    obtain ⟨o, ho, hc'⟩ := hx'
    refine wpAny_bind (wpAny_isInstance (T := "StopIteration") (b := true) ⟨o, ho, hc'⟩ isSubtype_stop ?_)
    apply wpAny_pure
    exact ⟨rfl, I.turned (t' := s.toks) (fun b o hb q => he' b o hb q) f0 f1 f3 f4 f5⟩
  self := fun A i s Q E st h => let ⟨⟨_, he⟩, _⟩ := st; wpAny_pyIter_enum he h
def iEnumT (K : PySem.W.Frag) (ta : TA) : TI := fun σ H R => ta σ H fun vs H1 => (∃ a xs, vs = [.ref a] ∧ SqL K H1 a xs ∧ R (Ite K a) H1) ∨ ∃ a xs, vs = [.ref a] ∧ SqT K H1 a xs ∧ H1 a ≠ none ∧ R (IteT K a) H1
theorem pi_enumT {X : Cx} {e : Expr} {ta : TA} {p pos tpos : Pos} {elts : List Expr} {kk : Nat} (hg : Gl X "enumerate") (hm : X.mg "enumerate" = none) (ha : PA X [e] ta) (hs : starEach [e] X.env = [(false, eval e X.env)] := by rfl) :
    PI X (.Tuple elts kk tpos) (.Call (.Name "enumerate" p) [e] [] pos) (iEnumT X.K ta) := by
  constructor
  intro pins s σ H R I h
  refine Call_ ?_
  apply ld_blt I hg hm boot_enumerate
  apply PyProof.Rows.callWith_type1 _ hs rfl
  refine thn (ha.run pos pins s σ H _ I h) fun us s1 ⟨vs, H1, I1, r1, q1⟩ => ?_
  rcases q1 with ⟨a, xs, ex, hq, q⟩ | ⟨a, xs, ex, hq, hn, q⟩
  · subst ex
    obtain rfl := Vals.ref1 r1
    obtain ⟨its, rv, p', hz⟩ := I1.list hq
    apply call_enumerate_list p'.isList
    intro h' he hit hsz hk
    apply wpAny_pyIter_enum he
    have I2 : Inv X pins σ H1 { s1 with heap := h' } := I1.kept (t' := s1.toks) hk
    refine ⟨s1.heap.objs.size + 1, [s1.heap.objs.size + 1, s1.heap.objs.size], _, _, H1, rfl, I2, turn_enum a (s1.heap.objs.size + 1) s1.heap.objs.size, ⟨⟨.none, he⟩, hit, Nat.succ_ne_self _⟩, fun b hb => ?_, q⟩
    have hle : s1.heap.objs.size ≤ b := by
      have e' : b = s1.heap.objs.size + 1 ∨ b = s1.heap.objs.size := by simpa using hb
      rcases e' with z | z
      · rw [z]; exact Nat.le_succ _
      · rw [z]; exact Nat.le_refl _
    exact I1.fpOk hle (I1.hok.fresh hle)
  · subst ex
    obtain rfl := Vals.ref1 r1
    obtain ⟨its, rv, p', hz⟩ := I1.tuple hq
    have hlt : a < s1.heap.objs.size := p'.lt
    apply call_enumT (begins_tuple a its.toArray) p'
    intro h' he hit hk
    apply wpAny_pyIter_enum he
    have I2 : Inv X pins σ H1 { s1 with heap := h' } := I1.kept (t' := s1.toks) hk
    refine ⟨s1.heap.objs.size + 1, [s1.heap.objs.size + 1, s1.heap.objs.size], _, _, H1, rfl, I2, turn_enumT a (s1.heap.objs.size + 1) s1.heap.objs.size, ⟨⟨.none, he⟩, ⟨_, hit, rfl, rfl⟩, Nat.succ_ne_self _, Nat.ne_of_lt hlt, Nat.ne_of_gt (Nat.lt_succ_of_lt hlt)⟩, fun b hb => ?_, q⟩
    have hle : s1.heap.objs.size ≤ b := by
      have e' : b = s1.heap.objs.size + 1 ∨ b = s1.heap.objs.size := by simpa using hb
      rcases e' with z | z
      · rw [z]; exact Nat.le_succ _
      · rw [z]; exact Nat.le_refl _
    exact I1.fpOk hle (I1.hok.fresh hle)
end DL
set_option maxRecDepth 100000
set_option maxHeartbeats 400000
namespace DL
open PySem PySem.Spec PyProof.Rows L2
variable [HW]
theorem itd_enumT {K : PySem.W.Frag} {M : Mm} {H : Hp} {a : Addr} {xs : List V} {ds : List D} (n : ¬ M.Has a) (ha : TupAt H a xs ds) (q : RDs M H xs ds) : ItD M H (IteT K a) (enumD 0 ds) := fun M1 H1 x tr => by
  have h1 := (ha.to fun _ z => x.st n z).sq (K := K)
  have q1 := q.mono x
  refine ⟨fun i d e => ?_, xs, h1, by rw [enumD_len, q.length]; exact Nat.le_refl _⟩
  obtain ⟨d', e1, rfl⟩ := enumD_get e
  obtain ⟨v, e2, r⟩ := q1.get e1
  refine ⟨⟨xs, v, h1, e2⟩, fun y H2 hy => ?_⟩
  obtain ⟨T, u, rfl, nT, rfl, hu⟩ := hy
  have eu : u = v := by
    have := hu xs h1
    rw [e2] at this
    exact (Option.some.inj this).symm
  subst eu
  refine ⟨same_new nT, RD.tup (new_out tr nT) (.inl ⟨rfl, upd_same⟩) ?_⟩
  rw [Nat.zero_add]
  exact .cons (.int _) (.cons (r.mono (grow_ext (same_new nT))) .nil)
def enumA (g : AM) : IM := fun ρ h => obnd (g ρ h) fun ws h1 => match ws with
  | [.dat (.list ds)] => some (enumD 0 ds, h1)
  | [.dat (.tuple ds)] => some (enumD 0 ds, h1)
  | _ => none
section
variable {X : Cx}
theorem di_enumA (hm : X.mg "enumerate" = none) {e : Expr} {elts : List Expr} {kk : Nat} {p pos tpos : Pos} {g : AM} (ha : DA X [e] g) (hg : Gl X "enumerate" := by rfl) (hs : starEach [e] X.env = [(false, eval e X.env)] := by rfl) : DI X (.Tuple elts kk tpos) (.Call (.Name "enumerate" p) [e] [] pos) (enumA g) := (pi_enumT hg hm ha hs).weak fun σ H R => by
  rintro ⟨M, h, ρ, ds, h', r, rs, e0, k⟩
  unfold enumA at e0
  cases eg : g ρ h with
  | none => rw [eg] at e0; cases e0
  | some pr =>
    obtain ⟨ws, h1⟩ := pr
    rw [eg] at e0
    simp only [obnd_some] at e0
    refine ⟨M, h, ρ, r, rs, ws, h1, eg, fun M1 H1 vs x1 r1 v1 => ?_⟩
    split at e0
    · cases e0
      obtain ⟨v, rfl, rv⟩ := rvs1 v1
      cases (show RD M1 H1 _ _ from rv) with
      | lst n e q => exact .inl ⟨_, _, rfl, .of e, k M1 H1 _ x1 r1 (itd_enum n e q)⟩
    · cases e0
      obtain ⟨v, rfl, rv⟩ := rvs1 v1
      cases (show RD M1 H1 _ _ from rv) with
      | tup n e q => exact .inr ⟨_, _, rfl, e.sq, (by obtain ⟨_, z⟩ := e.some_; rw [z]; exact nofun), k M1 H1 _ x1 r1 (itd_enumT n e q)⟩
    · cases e0
end
end DL
set_option maxRecDepth 100000
set_option maxHeartbeats 400000
namespace DL
open PySem PySem.Spec PyProof.Rows L2
variable [HW]
def moD : MO → D
  | .lst ds => .list ds
  | .dic es => .dict es
  | .dit es => .dict ((.none, .none) :: es)
  | .tab _ _ => .none
  | .ins _ _ => .none
def isTab : MO → Bool
  | .tab _ _ => true
  | .ins _ _ => true
  | .dit _ => true
  | _ => false
def isR (n : Nat) : Option W → Bool
  | some (.ref m) => decide (m = n)
  | some (.pack _) => true
  | _ => false
def frz (i : Nat) (ρ : Env) (h : Hh) : Option (Env × Hh) := match ρ[i]? with
  | some (some (.ref n)) => match h[n]? with
    | some (some o) => if ((ρ.set i none).any (isR n) || isTab o) = true then none else some (ρ.set i (some (.dat (moD o))), h.set n none)
    | _ => none
  | _ => none
def sFrz (i : Nat) (f : SM) : SM := fun ρ h => match frz i ρ h with
  | some (ρ', h') => f ρ' h'
  | none => none
section
variable {M : Mm} {H : Hp} {h : Hh}
theorem less_set {n : Nat} : ∀ b, Mm.Has ⟨M.u, M.m.set n none⟩ b → M.Has b := fun b z => by
  rcases z with z | z
  · exact .inl z
  · right
    rcases List.mem_or_eq_of_mem_set z with q | q
    · exact q
    · cases q
theorem not_set {n : Nat} {a : Addr} (rep : Rep M H h) (e : M.m[n]? = some (some a)) : ¬ Mm.Has ⟨M.u, M.m.set n none⟩ a := fun z => by
  rcases z with z | z
  · exact (rep.us a z).1 (List.mem_of_getElem? e)
  · obtain ⟨i, hi, q⟩ := List.getElem_of_mem z
    have q' : (M.m.set n none)[i]? = some (some a) := by rw [List.getElem?_eq_getElem hi, q]
    by_cases hn : n = i
    · subst hn
      have hi' : n < M.m.length := lt_of_get e
      rw [List.getElem?_set_self hi'] at q'
      cases q'
    · rw [List.getElem?_set_ne hn] at q'
      exact hn (rep.inj i n a q' e).symm
theorem ext_frz {n : Nat} : Ext M ⟨M.u, M.m.set n none⟩ H H where
  us := fun _ m => .inl m
  trk := fun a o e => ⟨o, e⟩
  stab := fun _ _ e _ => e
  fresh := fun a m => by
    rcases List.mem_or_eq_of_mem_set m with q | q
    · exact .inl q
    · cases q
  len := by simp
  kill := fun i hi => by
    by_cases hn : n = i
    · subst hn
      right
      show (M.m.set n none)[n]? = _
      rw [List.getElem?_set_self hi]
    · left
      show (M.m.set n none)[i]? = _
      rw [List.getElem?_set_ne hn]
theorem Rep.frz {n : Nat} {a : Addr} (rep : Rep M H h) (e : M.m[n]? = some (some a)) : Rep ⟨M.u, M.m.set n none⟩ H (h.set n none) := by
  have hn : n < h.length := by rw [← rep.len]; exact lt_of_get e
  refine ⟨fun b z => ?_, by simpa using rep.len, fun i j b q1 q2 => ?_, fun i b q => ?_, fun i q => ?_⟩
  · obtain ⟨h1, h2⟩ := rep.us b z
    refine ⟨fun y => h1 ?_, h2⟩
    rcases List.mem_or_eq_of_mem_set y with q | q
    · exact q
    · cases q
  · have g : ∀ (k : Nat), (M.m.set n none)[k]? = some (some b) → M.m[k]? = some (some b) := fun k q => by
      by_cases hk : n = k
      · subst hk
        rw [List.getElem?_set_self (lt_of_get e)] at q
        cases q
      · rwa [List.getElem?_set_ne hk] at q
    exact rep.inj i j b (g i q1) (g j q2)
  · have hk : n ≠ i := fun z => by
      subst z
      have q' : (M.m.set n none)[n]? = some (some b) := q
      rw [List.getElem?_set_self (lt_of_get e)] at q'
      cases q'
    have q' : M.m[i]? = some (some b) := by
      have z : (M.m.set n none)[i]? = some (some b) := q
      rwa [List.getElem?_set_ne hk] at z
    obtain ⟨o, ho, ro⟩ := rep.at_ i b q'
    exact ⟨o, by rw [List.getElem?_set_ne hk]; exact ho, ro.sub less_set⟩
  · have q' : (M.m.set n none)[i]? = some none := q
    by_cases hk : n = i
    · subst hk
      rw [List.getElem?_set_self hn]
    · rw [List.getElem?_set_ne hk] at q' ⊢
      exact rep.dead i q'
theorem RS.frz {n i : Nat} {a : Addr} {o : MO} {ρ : Env} {σ : L2.St} (rep : Rep M H h) (rs : RS M H ρ σ) (e : M.m[n]? = some (some a)) (er : ρ[i]? = some (some (.ref n))) (ro : RO M H a o) (hn : ¬ ((ρ.set i none).any (isR n)) = true) (ht : isTab o = false) :
    RS ⟨M.u, M.m.set n none⟩ H (ρ.set i (some (.dat (moD o)))) σ := by
  refine ⟨by simp [rs.1], fun j w q => ?_⟩
  by_cases hj : i = j
  · subst hj
    rw [List.getElem?_set_self (lt_of_get er)] at q
    cases q
    obtain ⟨v, ev, a', ea, rfl⟩ := rs.2 i _ er
    rw [e] at ea
    cases ea
    refine ⟨_, ev, ?_⟩
    cases o with
    | lst ds => obtain ⟨xs, hx, qx⟩ := ro; exact RD.lst (not_set rep e) hx (qx.sub less_set)
    | dic ds => obtain ⟨xs, hx, qx⟩ := ro; exact RD.dic (not_set rep e) hx (qx.sub less_set)
    | dit ds => exact absurd ht (by simp [isTab])
    | tab q P => exact absurd ht (by simp [isTab])
    | ins C fs => exact absurd ht (by simp [isTab])
  · rw [List.getElem?_set_ne hj] at q
    obtain ⟨v, ev, rv⟩ := rs.2 j w q
    refine ⟨v, ev, ?_⟩
    cases w with
    | dat d => exact RD.sub less_set rv
    | ins C fs =>
      obtain ⟨b, u, gs, e1, n1, q1, r1⟩ := rv
      exact ⟨b, u, gs, e1, fun z => n1 (less_set b z), q1, r1.to fun _ _ => RD.sub less_set⟩
    | exc k C fs =>
      obtain ⟨b, d, gs, e1, r1⟩ := rv
      exact ⟨b, d, gs, e1, r1.to (fun c _ _ n z => n (less_set c z)) (fun _ _ q _ _ => q) fun _ _ => RD.sub less_set⟩
    | pack its =>
      exact absurd (List.any_eq_true.mpr ⟨some (.pack its), List.mem_of_getElem? (i := j) (by rw [List.getElem?_set_ne hj]; exact q), rfl⟩) hn
    | lock es =>
      obtain ⟨b, u, kvs, e1, n1, q1, r1⟩ := rv
      exact ⟨b, u, kvs, e1, fun z => n1 (less_set b z), q1, r1.sub less_set⟩
    | scr ns =>
      obtain ⟨b, u, e1, n1, q1⟩ := rv
      exact ⟨b, u, e1, fun z => n1 (less_set b z), q1⟩
    | ref k =>
      obtain ⟨b, eb, rfl⟩ := rv
      have hk : n ≠ k := fun z => by
        subst z
        apply hn
        rw [List.any_eq_true]
        refine ⟨some (.ref n), ?_, by simp [isR]⟩
        exact List.mem_of_getElem? (i := j) (by rw [List.getElem?_set_ne hj]; exact q)
      exact ⟨b, by show (M.m.set n none)[k]? = _; rw [List.getElem?_set_ne hk]; exact eb, rfl⟩
end
theorem ds_frz {X : Cx} {sts : List Stmt} {f : SM} (i : Nat) (hd : DSs X sts f) : DSs X sts (sFrz i f) := PSs.weak hd fun D σ H => by
  rintro ⟨M, h, ρ, rep, rs, p⟩
  unfold sFrz at p
  split at p
  · rename_i ρ' h' ef
    unfold frz at ef
    split at ef
    · rename_i n er
      split at ef
      · rename_i o eo
        split at ef
        · cases ef
        · rename_i hn
          cases ef
          obtain ⟨v, ev, a, ea, rfl⟩ := rs.2 i _ er
          obtain ⟨o', ho', ro⟩ := rep.at_ n a ea
          rw [eo] at ho'
          cases ho'
          simp only [Bool.or_eq_true, not_or, Bool.not_eq_true] at hn
          exact ⟨_, _, _, rep.frz ea, rs.frz rep ea er ro (by simpa using hn.1) hn.2, p.mono rfl ext_frz⟩
      · cases ef
    · cases ef
  · exact p.elim
end DL
set_option maxRecDepth 100000
set_option maxHeartbeats 1000000
namespace DL
open PySem PySem.Spec PyProof.Rows L2
variable [HW]
section
variable {X : Cx}
theorem pairs_two {pins : List (Addr × Obj)} {σ : L2.St} {H : Hp} {s : Shared} (I : Inv X pins σ H s) : ∀ {ps : List Addr} {kvs : List (Key × V)}, Paired (fun p kv => SqT X.K H p [kV kv.1, kv.2]) ps kvs →
    ∃ (pv : List (Value × Value)) (prs : List (Key × Value)), KV kvs prs ∧ prs.length = ps.length ∧ pv.length = ps.length ∧
      ∀ (j : Nat) (k v : Value), pv[j]? = some (k, v) → ∃ b kk, ps[j]? = some b ∧ IsTup s.heap b #[k, v] ∧ prs[j]? = some (kk, v) ∧ (mixKind X.prog X.w).is kk k = true
  | _, _, .nil => ⟨[], [], .nil, rfl, rfl, fun j k v e => by cases j <;> cases e⟩
  | _, _, .cons (a := p) (b := kv) h t => by
    obtain ⟨pv, prs, r, h1, h2, h3⟩ := pairs_two I t
    obtain ⟨its, rv, ht, _⟩ := I.tuple h
    obtain ⟨u, y, rfl, ru, ry⟩ := vals2 rv
    refine ⟨(u, y) :: pv, (kv.1, y) :: prs, .cons ⟨rfl, ry⟩ r, congrArg (· + 1) h1, congrArg (· + 1) h2, fun j k v e => ?_⟩
    cases j with
    | zero => cases e; exact ⟨p, kv.1, rfl, ht, rfl, kV_is ru⟩
    | succ j => exact h3 j k v e
def rDictT : List V → Hp → VK → Prop := fun xs H Q => ∃ (a : Addr) (o : Obj) (ps : List Addr) (kvs : List (Key × V)), xs = [.ref a] ∧ o.dict = none ∧ H a = some (.frz o (.tup (ps.map V.ref))) ∧ Paired (fun p kv => Rd H p (.tup [kV kv.1, kv.2])) ps kvs ∧
    ∀ p, H p = none → Q (.ref p) (upd H p (.dK (mergeK [] kvs)))
theorem call_dictT (hcalm : X.calm = true) : CallR X (.type "dict") rDictT := by
  intro pins s σ H xs us Q I r q
  obtain ⟨a, o, ps, kvs, rfl, ho, ha, hp, q⟩ := q
  obtain ⟨u, rfl, rx⟩ := vals1 r
  cases rx
  obtain ⟨g1, hz, its, rv, o', g2, hc, n, hd⟩ := (show ObjOk X.prog X.w H s.heap a (.frz o (.tup (ps.map V.ref))) from I.hok a _ ha)
  rw [g1] at g2
  cases g2
  obtain rfl := refs_at rv
  rw [List.length_map] at hz
  obtain ⟨pv, prs, rel, h1, h2, h3⟩ := pairs_two I (Paired.mapP hp fun _ _ z => .inl z)
  have hlen : (ps.map Value.ref).toArray.size = pv.length := by simp [h2]
  have P := PairArg.tuple (prog := X.prog) (w := X.w) a (ps.map Value.ref).toArray (fun j => ps[j]?.getD 0) pv
  apply PySem.call_dict_pairs (knd := mixKind X.prog X.w) (kvs := prs) P (I.ok.hd hcalm) ⟨⟨o, n, g1, hc, ho, hd⟩, hlen, fun j k v e => ?_⟩ ⟨by rw [h1, h2], fun i k v e => ?_⟩ (by rw [h2]; exact hz)
  · intro h' tk hd' k
    have hm : (s.heap.objs.size == sysModules) = false := beq_eq_false_iff_ne.mpr (Nat.ne_of_gt I.big)
    have hk : (mergeK [] kvs).length ≤ sizeLine := by
      apply Nat.le_trans (length_mergeK kvs [])
      rw [List.length_nil, Nat.zero_add, rel.length, h1]
      exact hz
    exact ⟨.ref s.heap.objs.size, _, I.laid (t' := tk) (o := .dK (mergeK [] kvs)) (fun b o e => k b o (fun z => nomatch z) e) (Nat.le_refl _) ⟨hk, hm, merged [] prs, KV.merge rel .nil, hd'⟩, rfl, q _ (I.hok.fresh (Nat.le_refl _))⟩
  · obtain ⟨b, kk, e1, e2, _⟩ := h3 j k v e
    exact ⟨by simp [e1], .inl (by show IsTup s.heap (ps[j]?.getD 0) _; rw [e1]; exact e2)⟩
  · obtain ⟨b, kk, _, _, e3, e4⟩ := h3 i k v e
    exact ⟨kk, e3, e4⟩
def dictA (m : Bool) (ws : List W) (h : Hh) : Option (W × Hh) := match ws with
  | [w] => match deref h w with
    | some (.tuple ds) => if callD ds = true then (match pairsK ds with
      | some qs => mkK m (mergeD [] qs) h
      | none => none) else none
    | _ => dictW m [w] h
  | _ => none
theorem s_dictA (m : Bool) : SemA (fun xs H Q => ((∃ (a : Addr) (ps : List Addr) (kvs : List (Key × V)), xs = [.ref a] ∧ SqL X.K H a (ps.map V.ref) ∧ Paired (fun p kv => SqT X.K H p [kV kv.1, kv.2]) ps kvs ∧
    ∀ p, H p = none → Q (.ref p) (upd H p (.dK (mergeK [] kvs)))) ∨ ∃ (a : Addr) (kvs : List (Key × V)), xs = [.ref a] ∧ Rd H a (.dK kvs) ∧ ∀ p, H p = none → Q (.ref p) (upd H p (.dK kvs))) ∨ rDictT xs H Q) (dictA m) := by
  intro M H h vs ws Q rep rv c
  unfold dictA at c
  split at c
  · obtain ⟨v, rfl, r⟩ := rvs1 rv
    split at c
    · rename_i ds e
      obtain ⟨a, xs, rfl, na, ha, q⟩ := rr_tup (deref_rr rep r e)
      split at c
      · rename_i hc
        split at c
        · rename_i qs e2
          obtain ⟨ps, kvs, rfl, h1, h2⟩ := pairs_ok q e2
          rcases ha with ⟨hn, _⟩ | ⟨_, o, ho, ha⟩
          · rw [hc] at hn; cases hn
          · exact .inr ⟨a, o, ps, kvs, rfl, ho, ha, h1, fun p np => mkK_fin rep np (RDk.merge h2 .nil) c⟩
        · exact c.no.elim
      · exact c.no.elim
    · exact .inl (s_dict m M H h _ _ Q rep rv c)
  · exact c.no.elim
theorem d_dictA (hc : X.calm = true) (m : Bool) (hm : X.mg "dict" = none) {p pos : Pos} {e : Expr} {g : AM} (ha : DA X [e] g) (hg : Gl X "dict" := by rfl) (he : starEach [e] X.env = (false, eval e X.env) :: starEach [] X.env := by rfl) (hpl : (backTo pos (starEach [] X.env)).any (·.1) = false := by rfl) : DE X (.Call (.Name "dict" p) [e] [] pos) (fA (dictA m) g) :=
  d_callT (((call_dictP hc).or call_dictD).or (call_dictT hc)) (s_dictA m) hm bt_dict ha hg (by decide) (by decide) he hpl
end
end DL
set_option maxRecDepth 100000
set_option maxHeartbeats 1000000
namespace DL
open PySem PySem.Spec PyProof.Rows L2
variable [HW]
end DL
set_option maxRecDepth 100000
set_option maxHeartbeats 1000000
namespace DL
open PySem PySem.Spec PyProof.Rows L2
variable [HW]
end DL
set_option maxRecDepth 100000
set_option maxHeartbeats 1000000
namespace DL
open PySem PySem.Spec PyProof.Rows L2
variable [HW]
theorem law_gT {P : Program} {w : World} {K : PySem.W.Frag} {mg mb : Str → Option Value} {k : Nat} {fa a : Addr} {fd : FuncData} {x : Str} {sp : Sp} {s₁ : Shared} {vs : List Value} {ns : List Int} {cs : List (Addr × Addr)}
    (kx : K.In s₁.heap) (hns : s₁.heap.Ns mainGlobals mg) (hb : s₁.heap.Ns builtinsNs mb) (hbb : ∀ x : Str, x ≠ "__name__" → mb x = bootBuiltins x) (hlim : s₁.heap.NoLimit) (hg : s₁.gens = #[])
    (hT : ∀ p ∈ cs, PySem.W.CodeHd s₁.heap p.1 p.2 ∧ s₁.heap.get? p.2 = some { cls := .none, data := .fields #[] }) (nT : ∀ p ∈ cs, K.lookup p.2 = none)
    (hbm : ∃ (bm : Addr) (ob : Obj), mg "__builtins__" = some (.ref bm) ∧ bm ≠ builtinsNs ∧ s₁.heap.get? bm = some ob ∧ ob.cls = .type "module" ∧ ob.dict = some builtinsNs ∧ ob.data = .plain)
    (ha : s₁.heap.get? a = some { cls := .type "list", data := .seq vs.toArray }) (hi : IntsAre vs ns) (hl : ns.length ≤ sizeLine) (hr : Room k callerA)
    (F : ∀ base : Heap, K.In base → base.Ns mainGlobals mg → (∀ p ∈ cs, LamX.TabB base mg p.1 p.2) → FnG P w K mg base CX0 k fa fd [x] sp) (hbind : ∀ (s : Shared) (u : Value), BindsTo s fd ⟨[u], []⟩ [(x, u)])
    (hka : K.lookup a = none)
    (hsp : ∀ H : Hp, (∃ o, H a = some (.frz o (.lst (ns.map V.int)))) → (∀ p ∈ cs, H p.2 = some (.tbl #[])) → a ∉ cs.map (·.2) → sp [.ref a] H (fun v _ => v = .bl true) fun _ _ _ => False) :
    codeAny (model P w) callerA (.call (.ref fa) ⟨[.ref a], []⟩) (fun r s' => r = .ok (.ret (.bool true)) ∧ OldK s₁.heap s'.heap ∧ s'.os = s₁.os ∧ AllBare s'.gens) s₁ := by
  have rv := vals_ints hi
  let ob : Obj := { cls := .type "list", data := .seq vs.toArray }
  let H : Hp := fun b => if b = a then some (.frz ob (.lst (ns.map V.int))) else if b ∈ cs.map (·.2) then some (.tbl #[]) else none
  have tabs : ∀ b, b ∈ cs.map (·.2) → s₁.heap.get? b = some { cls := .none, data := .fields #[] } := fun b z => by
    obtain ⟨p, hp, rfl⟩ := List.mem_map.mp z
    exact (hT p hp).2
  have na : a ∉ cs.map (·.2) := fun z => by
    have y := tabs a z
    rw [ha] at y
    injection y with y
    injection y with _ _ y
    cases y
  have Ha : H a = some (.frz ob (.lst (ns.map V.int))) := if_pos rfl
  have Hc : ∀ b, b ∈ cs.map (·.2) → H b = some (.tbl #[]) := fun b z => by
    have h1 : b ≠ a := fun y => na (y ▸ z)
    show (if b = a then _ else if b ∈ cs.map (·.2) then _ else _) = _
    rw [if_neg h1, if_pos z]
  have Hn : ∀ b, b ≠ a → b ∉ cs.map (·.2) → H b = none := fun b h1 h2 => by
    show (if b = a then _ else if b ∈ cs.map (·.2) then _ else _) = _
    rw [if_neg h1, if_neg h2]
  have hok : HOk P w H s₁.heap := by
    intro b u e
    by_cases h : b = a
    · subst h
      rw [Ha] at e
      cases e
      exact ⟨ha, by rw [List.length_map]; exact hl, vs, _, rv, ha⟩
    · by_cases h2 : b ∈ cs.map (·.2)
      · rw [Hc b h2] at e
        cases e
        exact tabs b h2
      · rw [Hn b h h2] at e; cases e
  have hid : ∀ {b : Addr} {o : Obj}, s₁.heap.get? b = some o → H b = none → (hidT s₁.heap H).get? b = some o := fun e n => hidT_get e n
  have free : ∀ {b : Addr} {o : Obj}, s₁.heap.get? b = some o → (∀ vs n, o.data ≠ .seq vs n) → o.data ≠ .fields #[] → H b = none := by
    intro b o e h1 h2
    apply Hn
    · intro z
      subst z
      rw [ha] at e
      cases e
      exact h1 _ _ rfl
    · intro z
      rw [tabs b z] at e
      cases e
      exact h2 rfl
  have isd : ∀ {b : Addr} {o : Obj} {es : Array DictEntry} {ep : Nat}, s₁.heap.get? b = some o → o.data = .dict es ep → H b = none := by
    intro b o es ep e d
    apply free e
    · intro vs n z; rw [d] at z; cases z
    · intro z; rw [d] at z; cases z
  have nsk : ∀ {b : Addr} {m : Str → Option Value}, s₁.heap.Ns b m → (hidT s₁.heap H).Ns b m := fun {b m} q => by
    obtain ⟨o, es, ep, e, d, r⟩ := q
    exact ⟨o, es, ep, hid e (isd e d), d, r⟩
  have kb : K.In (hidT s₁.heap H) := by
    intro b o e
    apply hid (kx b o e)
    apply Hn
    · intro z
      subst z
      rw [hka] at e
      cases e
    · intro z
      obtain ⟨p, hp, rfl⟩ := List.mem_map.mp z
      rw [nT p hp] at e
      cases e
  have hM : Mod K mg (hidT s₁.heap H) := by
    refine ⟨kb, nsk hns, ⟨mb, nsk hb, hbb⟩, ?_⟩
    obtain ⟨mc, h1, h2⟩ := hlim
    exact ⟨mc, nsk h1, h2⟩
  have TB : ∀ p ∈ cs, LamX.TabB (hidT s₁.heap H) mg p.1 p.2 := by
    intro p hp
    obtain ⟨hc, ht⟩ := hT p hp
    constructor
    · obtain ⟨o, us, fi, tf, fl, tg, inF, tx, tt, e1, e2, e3, e4, r⟩ := hc
      refine ⟨o, us, fi, tf, fl, tg, inF, tx, tt, hid e1 (free e1 ?_ ?_), e2, e3, e4, r⟩
      · intro vs n z; rw [e3] at z; cases z
      · intro z
        rw [e3] at z
        injection z with z
        rw [z] at e4
        simp at e4
    · obtain ⟨bm, ob', b1, b2, b3, b4, b5, b6⟩ := hbm
      have n1 : bm ≠ mainGlobals := by
        intro z
        obtain ⟨o, es, ep, e, hd, _⟩ := hns
        rw [z, e] at b3
        cases b3
        rw [hd] at b6
        cases b6
      have n2 : bm ≠ p.2 := by
        intro z
        rw [z, ht] at b3
        cases b3
        cases b6
      refine ⟨bm, ob', b1, b2, n1, n2, hid b3 (free b3 ?_ ?_), b4, b5, b6⟩
      · intro vs n z; rw [b6] at z; cases z
      · intro z; rw [b6] at z; cases z
    · intro z
      obtain ⟨o, es, ep, e, hd, _⟩ := hns
      rw [z, ht] at e
      cases e
      cases hd
  have e0 : Env0 P w K mg (hidT s₁.heap H) callerA [] s₁ H := by
    refine ⟨rfl, hM, fun b o e => of_hidT e, Nat.le_of_eq (hidT_size _ _), trivial, fun b hb => ?_, hok, .of_eq hg⟩
    exact absurd (show b ∈ ([] : List Addr) from hb) (by simp)
  apply codeAny_mono ((F _ kb (nsk hns) TB).run callerA [] s₁ H ⟨[.ref a], []⟩ [.ref a] [.ref a] _ _ ⟨hr, rfl⟩ e0 (hbind s₁ (.ref a)) (.cons rfl .nil) (hsp H ⟨ob, Ha⟩ (fun p hp => Hc p.2 (List.mem_map.mpr ⟨p, hp, rfl⟩)) na))
  intro r s' h
  cases r with
  | error e => exact h.elim
  | ok fl => cases fl with
    | next => exact h.elim
    | brk => exact h.elim
    | cont => exact h.elim
    | ret u =>
      obtain ⟨v, H', os, bare, un, hok', r', q⟩ := h
      obtain rfl : v = .bl true := q
      obtain rfl : u = Value.bool true := r'
      have key : ∀ b o, b ∉ cs.map (·.2) → s₁.heap.get? b = some o → s'.heap.get? b = some o := by
        intro b o nb e
        by_cases hb' : b = a
        · subst hb'
          have z2 := un.frzs b ob _ Ha
          obtain ⟨e1, _⟩ := hok b _ Ha
          obtain ⟨e2, _⟩ := hok' b _ z2
          rw [e] at e1
          cases e1
          exact e2
        · exact un.keep b o e (Hn b hb' nb) (fun z => absurd (show b ∈ ([] : List Addr) from z) (by simp)) (by simp)
      have grown : ∀ p ∈ cs, ∃ more : Array Value, s'.heap.get? p.2 = some { cls := .none, data := .fields more } := by
        intro p hp
        obtain ⟨more, z⟩ := un.tbls p.2 #[] (Hc p.2 (List.mem_map.mpr ⟨p, hp, rfl⟩))
        exact ⟨_, hok' p.2 _ z⟩
      refine ⟨rfl, ⟨fun b o e => ?_, fun b o e => ?_⟩, os, bare⟩
      · by_cases hb' : b ∈ cs.map (·.2)
        · obtain ⟨p, hp, rfl⟩ := List.mem_map.mp hb'
          obtain ⟨more, hm⟩ := grown p hp
          rw [(hT p hp).2] at e
          cases e
          exact .inr (.inl ⟨((hT p hp).1.tab (hT p hp).2).isCodeTable, rfl, #[], more, rfl, by rw [Array.empty_append]; exact hm⟩)
        · exact .inl (key b o hb' e)
      · by_cases hb' : b ∈ cs.map (·.2)
        · obtain ⟨p, hp, rfl⟩ := List.mem_map.mp hb'
          obtain ⟨more, hm⟩ := grown p hp
          exact ⟨_, hm⟩
        · exact ⟨o, key b o hb' e⟩
end DL
set_option maxRecDepth 100000
set_option maxHeartbeats 1000000
namespace DL
open PySem PySem.Spec PyProof.Rows L2
variable [HW]
section
variable {X : Cx}
theorem d_gint {x : Str} {i : Int} {p : Pos} (hm : ∃ t, X.mg x = some (.int i t)) (hg : Gl X x := by rfl) (hd : (x == ("__debug__" : Str)) = false := by decide) : DE X (.Name x p) (fC (.int i)) := by
  obtain ⟨t, hm⟩ := hm
  exact (pe_glob (v := .int i) hg hm ⟨t, rfl⟩ hd).weak fun σ H Q => by
    rintro ⟨M, h, ρ, r, rs, c⟩
    exact c.fin (.refl _ _) r (.int _)
theorem d_gstr {x z : Str} {p : Pos} (hm : ∃ t, X.mg x = some (.str z t)) (hg : Gl X x := by rfl) (hd : (x == ("__debug__" : Str)) = false := by decide) : DE X (.Name x p) (fC (.str z)) := by
  obtain ⟨t, hm⟩ := hm
  exact (pe_glob (v := .str z) hg hm ⟨t, rfl⟩ hd).weak fun σ H Q => by
    rintro ⟨M, h, ρ, r, rs, c⟩
    exact c.fin (.refl _ _) r (.str _)
end
end DL
set_option maxRecDepth 100000
set_option maxHeartbeats 1000000
namespace DL
open PySem PySem.Spec PyProof.Rows L2
variable [HW]
section
variable {X : Cx}
theorem rowS_map : ∀ {ds : List D} {l : List Str}, rowS ds = some l → ds = l.map .str
  | [], _, e => by cases e; rfl
  | d :: ds, l, e => by
    unfold rowS at e
    split at e
    · rename_i q; cases q
    · rename_i a ds' q
      cases q
      simp only [Option.map_eq_some_iff] at e
      obtain ⟨l', e1, rfl⟩ := e
      rw [rowS_map e1]; rfl
    · cases e
theorem rowS_strs : ∀ l : List Str, rowS (l.map .str) = some l
  | [] => rfl
  | a :: l => by
    show (rowS (l.map .str)).map (a :: ·) = _
    rw [rowS_strs l]; rfl
theorem rds_strs {M : Mm} {H : Hp} : ∀ {xs : List V} {l : List Str}, RDs M H xs (l.map .str) → xs = l.map V.str
  | _, [], .nil => rfl
  | _, a :: l, .cons r t => by cases r; rw [rds_strs t]; rfl
end
end DL
set_option maxRecDepth 100000
set_option maxHeartbeats 1000000
namespace DL
open PySem PySem.Spec PyProof.Rows L2
variable [HW]
section
variable {X : Cx}
def fDn (m : Bool) : EM := fun _ h => mkK m [] h
theorem d_dnew (m : Bool) {pos : Pos} : DE X (.Dict [] [] pos) (fDn m) := pe_dnewK.weak fun σ H Q => by
  rintro ⟨M, h, ρ, r, rs, c⟩
  exact fun p np => mkK_fin r np .nil c
def dicAt (h : Hh) (n : Nat) : Option (List (D × D)) := match h[n]? with
  | some (some (.dic es)) => some es
  | _ => none
theorem dicAt_ok {M : Mm} {H : Hp} {h : Hh} {n : Nat} {es : List (D × D)} {a : Addr} (rep : Rep M H h) (e : dicAt h n = some es) (ea : M.m[n]? = some (some a)) : ∃ kvs, H a = some (.dK kvs) ∧ RDk M H kvs es := by
  obtain ⟨o, ho, ro⟩ := rep.at_ n a ea
  unfold dicAt at e
  rw [ho] at e
  cases o with
  | lst _ => cases e
  | dic es' => cases e; exact ro
  | dit _ => cases e
  | tab _ _ => cases e
  | ins _ _ => cases e
theorem rdk_len {M : Mm} {H : Hp} : ∀ {kvs : List (Key × V)} {es : List (D × D)}, RDk M H kvs es → kvs.length = es.length
  | _, _, .nil => rfl
  | _, _, .cons _ t => congrArg (· + 1) (rdk_len t)
def putW (o i w : W) (h : Hh) : Option Hh := match o, i, w with
  | .ref n, .dat k, .dat d => match dicAt h n, dKey k with
    | some es, some k' => if es.length < sizeLine then some (h.set n (some (.dic (putK' es k' d)))) else none
    | _, _ => none
  | _, _, _ => none
def sPut (f o i : EM) : SM := fun ρ h => sbnd (f ρ h) fun w h1 => sbnd (o ρ h1) fun a h2 => sbnd (i ρ h2) fun b h3 => match putW a b w h3 with
  | some h4 => some (.nx ρ, h4)
  | none => none
theorem put_imp {f o i : EM} : ∀ D σ H, tS (sPut f o i) D σ H → tAsg (tE f) (gSub (tE o) (tE i) rSetD) D σ H := fun D σ H => by
  rintro ⟨M, h, ρ, r, rs, p⟩
  obtain ⟨w, h1, e1, p1⟩ := p.bind
  refine ⟨M, h, ρ, r, rs, w, h1, e1, fun M1 H1 v x1 r1 v1 => ?_⟩
  obtain ⟨a, h2, e2, p2⟩ := p1.bind
  refine ⟨M1, h1, ρ, r1, rs.mono x1, a, h2, e2, fun M2 H2 v' x2 r2 v2 => ?_⟩
  obtain ⟨b, h3, e3, p3⟩ := p2.bind
  refine ⟨M2, h2, ρ, r2, (rs.mono x1).mono x2, b, h3, e3, fun M3 H3 v'' x3 r3 v3 => ?_⟩
  have ra := v2.mono x3
  have rw' := (v1.mono x2).mono x3
  unfold putW at p3
  split at p3
  · rename_i h4 e4
    split at e4
    · rename_i n k d
      obtain ⟨ad, ea, rfl⟩ := ra
      split at e4
      · rename_i es k' el ek
        obtain ⟨kvs, hx, q⟩ := dicAt_ok r3 el ea
        split at e4
        · rename_i hz
          cases e4
          have := kP_dKey ek
          subst this
          obtain rfl := rd_kP (show RD M3 H3 v'' (kP k') from v3)
          refine ⟨ad, _, rfl, DPut.k hx (by rw [rdk_len q]; exact hz), ?_⟩
          have x4 := ext_set (H := H3) (o := .dK (putK kvs k' v)) ea
          have xx := ((x1.trans x2).trans x3).trans x4
          exact p3 M3 _ σ xx.same xx.ext (r3.set ea ⟨_, upd_same, (q.put k' rw').mono x4.ext⟩) (rs.mono xx)
        · cases e4
      · cases e4
    · cases e4
  · exact p3.elim
theorem ds_put {k : Nat} (hr : RG k X.A) {o i e : Expr} {pos tpos : Pos} {f fo fi : EM} (he : DE X e f) (ho : DE X o fo) (hi : DE X i fi) (h : X.A.units + 1 < cLine → PS X (.Assign [.Subscript o i tpos] e pos) (tAsg (tE f) (gSub (tE fo) (tE fi) rSetD))) : DS X (.Assign [.Subscript o i tpos] e pos) (sPut f fo fi) :=
  (h (by have := hr.room.un; omega)).weak put_imp
def isDc (w : W) (h : Hh) : Bool := match deref h w with
  | some (.dict _) => true
  | _ => false
def getW (w k x : W) (h : Hh) : Option (W × Hh) := match deref h w, k, x with
  | some (.dict es), .dat kd, .dat xd => match getD es kd with
    | some o => ok (o.getD xd) h
    | none => none
  | _, _, _ => none
def fGet (fd fk fx : EM) : EM := fun ρ h => obnd (fd ρ h) fun w h1 => if isDc w h1 = true then obnd (fk ρ h1) fun k h2 => obnd (fx ρ h2) fun x h3 => getW w k x h3 else none
theorem RDo.getD_ {M : Mm} {H : Hp} {o : Option V} {p : Option D} {v : V} {d : D} (r : RDo M H o p) (q : RD M H v d) : RD M H (o.getD v) (p.getD d) := by
  cases o <;> cases p <;> first | exact q | exact r | exact r.elim
theorem d_dget {k : Nat} (hr : RG k X.A) {o e f : Expr} {apos cpos : Pos} {fd fk fx : EM} (ho : DE X o fd) (he : DE X e fk) (hf : DE X f fx) (m : M2 X o "get" apos e f cpos) (W : HWX X := by exact ⟨rfl, rfl⟩) : DE X (.Call (.Attribute o "get" apos) [e, f] [] cpos) (fGet fd fk fx) :=
  (pe_dgetX2 (by have := hr.room.un; omega) W ho he hf m).weak fun σ H Q => by
    rintro ⟨M, h, ρ, r, rs, c⟩
    obtain ⟨w, h1, e1, c1⟩ := Cont.bind (δ := Unit) c
    refine ⟨M, h, ρ, r, rs, w, h1, e1, fun M1 H1 v x1 r1 v1 => ?_⟩
    have c2 := c1 M1 H1 x1
    split at c2
    · rename_i hd
      have hd' : ∃ es, deref h1 w = some (.dict es) := by
        unfold isDc at hd
        split at hd
        · exact ⟨_, ‹_›⟩
        · cases hd
      obtain ⟨es, q⟩ := hd'
      have hI : ∃ a, v = .ref a ∧ IsDX H1 a := by
        rcases deref_rr r1 v1 q with ⟨a, kvs, rfl, ha, _⟩ | ⟨a, kvs, es', rfl, rfl, ha, _⟩
        · exact ⟨a, rfl, .inl (.inl ⟨kvs, .inl ha⟩)⟩
        · exact ⟨a, rfl, .inr ⟨kvs, ha⟩⟩
      obtain ⟨a, rfl, hI⟩ := hI
      refine ⟨a, rfl, hI, M1, h1, ρ, r1, rs.mono x1, ?_⟩
      obtain ⟨w2, h2, e2, c3⟩ := Cont.bind (δ := Unit) c2
      refine ⟨w2, h2, e2, fun M2 H2 v2 x2 r2 q2 => ⟨M2, h2, ρ, r2, (rs.mono x1).mono x2, ?_⟩⟩
      obtain ⟨w3, h3, e3, c4⟩ := Cont.bind (δ := Unit) (c3 M2 H2 x2)
      refine ⟨w3, h3, e3, fun M3 H3 v3 x3 r3 q3 => ?_⟩
      have c5 := c4 M3 H3 x3
      have va := (v1.mono x2).mono x3
      have vk := q2.mono x3
      unfold getW at c5
      split at c5
      · rename_i es' kd xd hq
        split at c5
        · rename_i oo eo
          obtain ⟨a', ov, ea, g, ro⟩ := get_ok (deref_rr r3 va hq) (show RD M3 H3 v2 kd from vk) eo
          cases ea
          exact ⟨ov, g, c5.here r3 (RDo.getD_ ro (show RD M3 H3 v3 xd from q3))⟩
        · exact c5.no.elim
      · exact c5.no.elim
    · exact c2.no.elim
def keyS : List (D × D) → Option (List Str)
  | [] => some []
  | (.str s, _) :: es => (keyS es).map (s :: ·)
  | _ :: _ => none
theorem keyS_ok {M : Mm} {H : Hp} : ∀ {kvs : List (Key × V)} {es : List (D × D)} {l : List Str}, RDk M H kvs es → keyS es = some l → kvs.map (·.1) = l.map Sum.inr
  | _, _, l, .nil, e => by cases e; rfl
  | _, _, l, .cons (k := k) (es := es) r t, e => by
    cases k with
    | inl i => cases e
    | inr s =>
      have e' : (keyS es).map (s :: ·) = some l := e
      rw [Option.map_eq_some_iff] at e'
      obtain ⟨l', e1, rfl⟩ := e'
      rw [List.map_cons, keyS_ok t e1]; rfl
def leT (a b : Str) : Bool := decide (a.cps.toList ≤ b.cps.toList)
noncomputable def sortDW (m : Bool) (ws : List W) (h : Hh) : Option (W × Hh) := match ws with
  | [w] => match deref h w with
    | some (.dict es) => if isT es = true then none else match keyS es with
      | some l => if l.length < 64 then mkL m ((l.mergeSort leT).map .str) h else none
      | none => none
    | _ => none
  | _ => none
theorem leT_trans (a b c : Str) (h1 : leT a b = true) (h2 : leT b c = true) : leT a c = true := by
  unfold leT at *
  simp only [decide_eq_true_eq] at *
  exact List.le_trans h1 h2
theorem leT_total (a b : Str) : (leT a b || leT b a) = true := by
  unfold leT
  simp only [Bool.or_eq_true, decide_eq_true_eq]
  exact List.le_total _ _
theorem leT_anti {a b : Str} (h1 : leT a b = true) (h2 : leT b a = true) : a = b := by
  unfold leT at *
  simp only [decide_eq_true_eq] at *
  have e := List.le_antisymm h1 h2
  obtain ⟨⟨x⟩⟩ := a
  obtain ⟨⟨y⟩⟩ := b
  simp at e
  rw [e]
theorem leT_not {a b : Str} (h : ltCps b.cps.toList a.cps.toList = false) : leT a b = true := by
  rw [ltCps_eq] at h
  unfold leT
  simp only [decide_eq_false_iff_not, decide_eq_true_eq] at h ⊢
  exact h
theorem rising_pw : ∀ (p : Str) (l : List Str), risingS p l = true → (p :: l).Pairwise fun a b => leT a b = true
  | p, [], _ => by simp
  | p, x :: r, h => by
    rw [risingS, Bool.and_eq_true] at h
    have ih := rising_pw x r h.2
    have h1 : leT p x = true := leT_not (by simpa using h.1)
    rw [List.pairwise_cons]
    refine ⟨fun b hb => ?_, ih⟩
    rcases List.mem_cons.mp hb with rfl | hb
    · exact h1
    · exact leT_trans _ _ _ h1 ((List.pairwise_cons.mp ih).1 b hb)
theorem sorted_pw : ∀ l : List Str, sortedS l = true → l.Pairwise fun a b => leT a b = true
  | [], _ => .nil
  | x :: r, h => rising_pw x r h
theorem sort_one {ys ks : List Str} (p : ys.Perm ks) (h : sortedS ys = true) : ys = ks.mergeSort leT :=
  List.Perm.eq_of_pairwise (fun x y _ _ h1 h2 => leT_anti h1 h2) (sorted_pw ys h) (List.pairwise_mergeSort leT_trans leT_total ks) (p.trans (List.mergeSort_perm _ _).symm)
theorem rds_ofS {M : Mm} {H : Hp} : ∀ l : List Str, RDs M H (l.map V.str) (l.map .str)
  | [] => .nil
  | a :: l => .cons (.str a) (rds_ofS l)
theorem s_sortD (m : Bool) : SemA (fun xs H Q => ∃ (a : Addr) (kvs : List (Key × V)) (ks : List Str), xs = [.ref a] ∧ Rd H a (.dK kvs) ∧ kvs.map (·.1) = ks.map Sum.inr ∧ ks.length < 64 ∧ ∀ ys p, ys.Perm ks → sortedS ys = true → H p = none → Q (.ref p) (upd H p (.lst (ys.map V.str)))) (sortDW m) := by
  intro M H h vs ws Q rep rv c
  unfold sortDW at c
  split at c
  · obtain ⟨v, rfl, r⟩ := rvs1 rv
    split at c
    · rename_i es e
      split at c
      · exact c.no.elim
      · rename_i ht
        split at c
        · rename_i l el
          split at c
          · rename_i hz
            rcases deref_rr rep r e with ⟨a, kvs, rfl, ha, q⟩ | ⟨a, kvs, es', rfl, rfl, ha, q⟩
            · refine ⟨a, kvs, l, rfl, .inl ha, keyS_ok q el, hz, fun ys p pm hs np => ?_⟩
              rw [sort_one pm hs]
              exact mkL_fin rep np (rds_ofS _) c
            · exact absurd rfl ht
          · exact c.no.elim
        · exact c.no.elim
    · exact c.no.elim
  · exact c.no.elim
theorem d_sortD (hcalm : X.calm = true) (m : Bool) (hm : X.mg "sorted" = none) {e : Expr} {p pos : Pos} {g : AM} (ha : DA X [e] g) (hg : Gl X "sorted" := by rfl) (he : starEach [e] X.env = (false, eval e X.env) :: starEach [] X.env := by rfl) (hpl : (backTo pos (starEach [] X.env)).any (·.1) = false := by rfl) : DE X (.Call (.Name "sorted" p) [e] [] pos) (fA (sortDW m) g) :=
  d_callB (call_sortedD hcalm) (s_sortD m) hm (by decide +kernel) ha hg (by decide) (by decide) he hpl
end
end DL
set_option maxRecDepth 100000
set_option maxHeartbeats 4000000
namespace DL
open PySem PySem.Spec PyProof.Rows L2
variable [HW]
section
variable {P : Program} {w : World}
structure TxR (P : Program) (w : World) (B : Froz.SD) (l : List Str) : Prop where
  ok : Froz.TxOk P w B l
  ris : Ris B.2.2.place.toList
  led : w.params.followText "set-order" = true ∨ B.2.2.led = true
theorem tail_ris {ep : Nat} {es : Array (Int × Value)} {t : SetTable} {b : Bool} (r : Ris t.place.toList) : Ris (Froz.tailTx ep es t b).2.2.place.toList := by
  unfold Froz.tailTx
  split
  · exact relayAll_ris _ _ _
  · exact r
theorem tail_led {ep : Nat} {es : Array (Int × Value)} {t : SetTable} {b : Bool} : (Froz.tailTx ep es t b).2.2.led = t.led := by
  unfold Froz.tailTx
  split
  · exact relayAll_led _ _ _
  · rfl
theorem TxR.add {B : Froz.SD} {l : List Str} {k : Str} (u : Tok) (F : TxR P w B l) : TxR P w (Froz.addTx (hashStr w k) (.str k u) B) (k :: l) := by
  refine ⟨Froz.add_ok u F.ok, ?_, ?_⟩
  · have r1 := layNew_ris B.2.2 B.1 (hashStr w k) (.str k u) F.ris
    unfold Froz.addTx
    apply tail_ris
    split
    · exact r1
    · exact r1
  · have l1 := layNew_led B.2.2 B.1 (hashStr w k) (.str k u)
    rcases F.led with q | q
    · exact .inl q
    · right
      unfold Froz.addTx
      rw [tail_led]
      split
      · exact l1.trans q
      · exact l1.trans q
def TxAt (P : Program) (w : World) (h : Heap) (a : Addr) (l : List Str) : Prop := ∃ B, h.get? a = some (Froz.sObj "set" B) ∧ TxR P w B l
theorem TxAt.at {h h' : Heap} {a : Addr} {l : List Str} (x : TxAt P w h a l) (k : ∀ o, h.get? a = some o → h'.get? a = some o) : TxAt P w h' a l := by
  obtain ⟨B, e, r⟩ := x
  exact ⟨B, k _ e, r⟩
end
end DL
set_option maxRecDepth 100000
set_option maxHeartbeats 1000000
namespace DL
open PySem PySem.Spec PyProof.Rows L2
variable [HW]
section
variable {P : Program} {w : World} {A : Around} {E : Value → Shared → Prop} {s : Shared}
abbrev IsTx (v : Value) (k : Str) : Prop := ∃ t, v = .str k t
def txV : Value → Str
  | .str k _ => k
  | _ => Str.empty
theorem each_tx : ∀ {vs : List Value}, (∀ v ∈ vs, ∃ k, IsTx v k) → PySem.W.EachIs IsTx vs (vs.map txV)
  | [], _ => .nil
  | v :: vs, h => by
    obtain ⟨k, t, rfl⟩ := h v List.mem_cons_self
    exact .cons ⟨t, rfl⟩ (each_tx fun u hu => h u (List.mem_cons_of_mem _ hu))
theorem vals_tx : ∀ {vs : List Value} {l : List Str}, PySem.W.EachIs IsTx vs l → Vals (l.map V.str) vs
  | _, _, .nil => .nil
  | _, _, .cons a t => .cons a (vals_tx t)
theorem leT_data : PySem.W.dataLe false (fun k : Str => (PyData.str k)) = leT := PySem.W.dataLe_str fun k => k
end
end DL
set_option maxRecDepth 100000
set_option maxHeartbeats 1000000
namespace DL
open PySem PySem.Spec PyProof.Rows L2
variable [HW]
section
variable {P : Program} {w : World} {A : Around} {E : Value → Shared → Prop} {s : Shared}
theorem sorted_from {x : Value} {l : List Str} {Q : Value → Shared → Prop} (hz : l.length ≤ sizeLine) (hu : A.units + 2 < cLine)
    (hcol : ∀ Q' : List Value → Shared → Prop, (∀ s1 vs, (∀ b o, s.heap.get? b = some o → s1.heap.get? b = some o) → s.heap.objs.size ≤ s1.heap.objs.size → s1.gens = s.gens → s1.os = s.os → (∀ v ∈ vs, ∃ k, IsTx v k) → (vs.map txV).Perm l → Q' vs s1) → wpAny (model P w) A.in1 (collect x) Q' E s)
    (hQ : ∀ s' p out c, (∀ b o, s.heap.get? b = some o → s'.heap.get? b = some o) → s'.gens = s.gens → s'.os = s.os → s.heap.objs.size ≤ p → s'.heap.get? p = some (seqObj "list" (List.toArray out) c) → Vals ((l.mergeSort leT).map V.str) out → Q (.ref p) s') :
    wpAny (model P w) A (call (.builtin "sorted") [x]) Q E s := by
  refine call_function_entry_kw kind_sorted plain_sorted entry_sorted (args_sorted1 _) ?_
  unfold Builtin.«sorted»
  refine wpAny_bind (m := checkCount "sorted" 1 1 _) (wpAny_pure (wpAny_bind (hcol _ fun s1 vs k1 hs g1 o1 el pl => ?_)))
  have ev := each_tx el
  have hv : vs.length ≤ sizeLine := by
    have := pl.length_eq
    rw [List.length_map] at this
    omega
  apply wpAny_bind
  refine wpAny_newList ?_ hv
  have at_ : (s1.heap.push (seqObj "list" vs.toArray 0)).get? s1.heap.objs.size = some (seqObj "list" vs.toArray 0) := Heap.get?_push_size _ rfl
  have er' : PySem.W.EachIs (fun v b => ∃ as, Reads (PySem.W.sortingHeap (s1.heap.push (seqObj "list" vs.toArray 0)) s1.heap.objs.size vs) v (PyData.str b) as) vs (vs.map txV) := ev.mono fun v b ⟨u, e⟩ => by
    subst e
    exact ⟨[], .str b u⟩
  have hal : PySem.W.AllAlike ((vs.map txV).map PyData.str) := fun d hd e he => by
    obtain ⟨x, _, rfl⟩ := List.mem_map.mp hd
    obtain ⟨y, _, rfl⟩ := List.mem_map.mp he
    rfl
  have hk : PySem.W.Sortable ((vs.map txV).map PyData.str) := .inr fun d hd => by
    obtain ⟨x, _, rfl⟩ := List.mem_map.mp hd
    exact ⟨fun z => (by cases z), fun xs z => (by cases z)⟩
  refine wpAny_bind (wpAny_holding (wpAny_call_entry_kw slot_list_sort ⟨_, at_, rfl⟩ entry_list_sort ?_ (args_list_sort _)))
  refine PySem.W.list_sort_vals (s := { s1 with heap := s1.heap.push (seqObj "list" vs.toArray 0) }) at_ (PySem.W.SortsAt.data (s := { s1 with heap := PySem.W.sortingHeap (s1.heap.push (seqObj "list" vs.toArray 0)) s1.heap.objs.size vs }) (PySem.W.each_map (R := fun v d => ∃ as, Reads (PySem.W.sortingHeap (s1.heap.push (seqObj "list" vs.toArray 0)) s1.heap.objs.size vs) v d as) PyData.str er') hal hk (PySem.W.bound_map (A := A.in1.in1) fun b _ => ?_)) hv ?_
  · have e : PyData.depth (.str b) = 0 := rfl
    rw [e]
    exact hu
  · refine ⟨_, rfl, wpAny_pure ⟨_, rfl, ?_⟩⟩
    obtain ⟨c, hc⟩ := sortedHeap_at (vs := vs) (out := (PySem.W.sortVals (PySem.W.dataKind (PySem.W.sortingHeap (s1.heap.push (seqObj "list" vs.toArray 0)) s1.heap.objs.size vs) ((vs.map txV).map PyData.str)) false vs vs).toArray) at_
    have eo := PySem.W.sortVals_data false ev er' hal
    rw [leT_data] at eo
    have es' : (vs.map txV).mergeSort leT = l.mergeSort leT := List.Perm.eq_of_pairwise (fun x y _ _ h1 h2 => leT_anti h1 h2) (List.pairwise_mergeSort leT_trans leT_total _) (List.pairwise_mergeSort leT_trans leT_total _) ((List.mergeSort_perm _ _).trans (pl.trans (List.mergeSort_perm _ _).symm))
    rw [es'] at eo
    refine hQ _ _ _ c (fun b o q => ?_) g1 o1 hs hc (vals_tx eo)
    have q1 := k1 b o q
    have lb := Heap.lt_size q1
    show (sortedHeap _ _ _ _).get? b = some o
    rw [sortedHeap_old (Nat.ne_of_lt lb) (by rw [size_push']; exact Nat.lt_succ_of_lt lb)]
    exact Heap.get?_push_of_some _ q1
end
section
variable {X : Cx}
theorem inv_moved {pins : List (Addr × Obj)} {σ : L2.St} {H : Hp} {s s' : Shared} {p : Addr} {out : List Value} {c : Nat} {l : List V} (I : Inv X pins σ H s) (hlen : l.length ≤ sizeLine) (k : ∀ b o, s.heap.get? b = some o → s'.heap.get? b = some o) (g : s'.gens = s.gens) (o : s'.os = s.os) (hp : s.heap.objs.size ≤ p) (hg : s'.heap.get? p = some (seqObj "list" (List.toArray out) c)) (hv : Vals l out) : Inv X pins σ (upd H p (.lst l)) s' := by
  have hn : H p = none := I.hok.fresh hp
  have J : Inv X pins σ (upd H p (.lst l)) { s with heap := s'.heap, gens := s'.gens, drawn := s'.drawn, toks := s'.toks } :=
    I.call (ch := []) (Un.laid k hp hn) (I.hok.laid k hp ⟨hlen, out, c, hv, hg⟩) (by rw [g]; exact I.bare) (fun _ z => nomatch z)
  have e : s' = { s with heap := s'.heap, gens := s'.gens, drawn := s'.drawn, toks := s'.toks } := by
    cases s'
    cases s
    cases o
    rfl
  rw [e]
  exact J
def tSortV (td : TE) : TE := fun σ H Q => td σ H fun x H1 => ∃ (a : Addr) (kvs : List (Key × V)) (l : List Str), x = .ref a ∧ H1 a = some (.dK kvs) ∧ kvs.map (·.2) = l.map V.str ∧ ∀ p, H1 p = none → Q (.ref p) (upd H1 p (.lst ((l.mergeSort leT).map V.str)))
theorem items_txs {kvs : List (Key × V)} {vs : List (Key × Value)} {l : List Str} {acc : Array Value} (rel : KV kvs vs) (hv : kvs.map (·.2) = l.map V.str) (ha : ItemsOf (fun i v => ∃ k, vs[i]? = some (k, v)) acc vs.length) : (∀ v ∈ acc.toList, ∃ k, IsTx v k) ∧ acc.toList.map txV = l := by
  have at_ : ∀ (i : Nat) (v : Value), acc.toList[i]? = some v → ∃ y, l[i]? = some y ∧ IsTx v y := fun i v e => by
    have e' : acc[i]? = some v := by rw [← Array.getElem?_toList]; exact e
    obtain ⟨k, hk⟩ := ha.2 i v e'
    obtain ⟨x, h1, h2⟩ := KV.at' rel hk
    have e1 : (kvs.map (·.2))[i]? = some x := by rw [List.getElem?_map, h1]; rfl
    rw [hv, List.getElem?_map] at e1
    obtain ⟨y, hy, rfl⟩ := Option.map_eq_some_iff.mp e1
    exact ⟨y, hy, h2⟩
  constructor
  · intro v hv'
    obtain ⟨i, hi, rfl⟩ := List.getElem_of_mem hv'
    obtain ⟨y, _, q⟩ := at_ i _ (List.getElem?_eq_getElem hi)
    exact ⟨y, q⟩
  · apply List.ext_getElem?
    intro i
    rw [List.getElem?_map]
    have len : acc.toList.length = l.length := by
      have e1 := congrArg List.length hv
      rw [List.length_map, List.length_map] at e1
      rw [Array.length_toList, ha.1, ← e1]
      exact (KV.length rel).symm
    cases q : acc.toList[i]? with
    | none =>
      have := List.getElem?_eq_none_iff.mp q
      rw [List.getElem?_eq_none (by omega)]
      rfl
    | some v =>
      obtain ⟨y, hy, t, rfl⟩ := at_ i v q
      rw [hy]
      rfl
theorem pe_sortV {k : Nat} (hr : Room k X.A) (hc : X.calm = true) {o : Expr} {p pos apos mpos : Pos} {td : TE} (hg : Gl X "sorted") (hm : X.mg "sorted" = none) (hd : PE X o td) (hb : attributeBase o "values" X.env (eval o X.env) = eval o X.env := by rfl) (hl : (apos.endLine == mpos.line) = true := by rfl)
    (hs : starEach [Expr.Call (.Attribute o "values" apos) [] [] mpos] X.env = [(false, eval (Expr.Call (.Attribute o "values" apos) [] [] mpos) X.env)] := by rfl) : PE X (.Call (.Name "sorted" p) [.Call (.Attribute o "values" apos) [] [] mpos] [] pos) (tSortV td) := by
  constructor
  intro pins s σ H Q I h
  refine wpAny_Call_Name_kw (ld_blt I hg hm (u := .builtin "sorted") (by decide +kernel) ?_ (by decide) (by decide))
  rw [hs]
  apply PySem.callWith_builtin1
  apply wpAny_Call_method0_late hb hl
  refine thn (hd.run pins s σ H _ I h) fun v s1 ⟨x, H1, I1, r1, a, kvs, l, ex, ha, hv, q⟩ => ?_
  subst ex
  obtain rfl : v = Value.ref a := r1
  obtain ⟨hz, hsys, vs, rel, dof⟩ := dk_of I1.hok ha
  obtain ⟨ep, dat⟩ := dof.dictAt
  have ⟨ob, es, ho, exd, _⟩ := dat
  have hlen : kvs.length = l.length := by
    have e1 := congrArg List.length hv
    rwa [List.length_map, List.length_map] at e1
  have hlv : vs.length = l.length := (KV.length rel).symm.trans hlen
  refine ⟨"dict", "dict.values", F.plainAttrs_dict, F.slot_dict_values, F.type_dict_values, ⟨ob, ho, exd.1⟩, fun b e => by cases e; exact ⟨ob, ho, exd.2.1⟩, Calls.callWith_builtin rfl (PySem.evalArgs_none ?_)⟩
  refine call_meetsIn F.slot_dict_values ⟨ob, ho, exd.1⟩ F.entry_dict_values (F.args_dict_values_1 _) (meets_dict_values (mixKind X.prog X.w) a hsys) ⟨⟨vs, dof⟩, ?_⟩
  have k1 : ∀ b u, s1.heap.get? b = some u → (s1.heap.push { cls := .type "dict_values", data := .fields #[.ref a] }).get? b = some u := fun b u e => Heap.get?_push_of_some _ e
  have I2 : Inv X pins σ H1 { s1 with heap := s1.heap.push { cls := .type "dict_values", data := .fields #[.ref a] } } := I1.kept (t' := s1.toks) k1
  have vw : (s1.heap.push { cls := .type "dict_values", data := .fields #[.ref a] }).get? s1.heap.objs.size = some { cls := .type "dict_values", data := .fields #[.ref a] } := Heap.get?_push_size _ rfl
  refine sorted_from (s := { s1 with heap := s1.heap.push { cls := .type "dict_values", data := .fields #[.ref a] } }) (l := l) (by rw [← hlen]; exact hz) (by have := hr.un; omega) (fun Q' k => ?_) fun s' p' out c kp g o hp hg' hvs => ?_
  · refine PySem.W.kdu_collect (A := X.A.in1) (s := { s1 with heap := s1.heap.push { cls := .type "dict_values", data := .fields #[.ref a] } }) (PySem.W.kdl_values (knd := mixKind X.prog X.w) (r := s1.heap.objs.size) (d := a) (kvs := vs) (ep := ep)) (I.ok.hd hc) ⟨⟨_, vw, rfl, rfl⟩, dat.keep k1⟩ (by rw [hlv, ← hlen]; exact hz) fun h' tk acc kk ii => ?_
    obtain ⟨t1, t2⟩ := items_txs rel hv ii
    refine k _ _ kk ?_ rfl rfl t1 (by rw [t2])
    have := Heap.lt_size (kk _ _ vw)
    show (s1.heap.push _).objs.size ≤ _
    rw [Heap.size_push]
    exact this
  · refine ⟨.ref p', _, inv_moved I2 (by rw [List.length_map, List.length_mergeSort, ← hlen]; exact hz) kp g o hp hg' hvs, rfl, q _ (I2.hok.fresh hp)⟩
end
end DL
set_option maxRecDepth 100000
set_option maxHeartbeats 1000000
namespace DL
open PySem PySem.Spec PyProof.Rows L2
variable [HW]
section
variable {X : Cx}
def valS : List (D × D) → Option (List Str)
  | [] => some []
  | (_, .str s) :: es => (valS es).map (s :: ·)
  | _ :: _ => none
theorem valS_ok {M : Mm} {H : Hp} : ∀ {kvs : List (Key × V)} {es : List (D × D)} {l : List Str}, RDk M H kvs es → valS es = some l → kvs.map (·.2) = l.map V.str
  | _, _, l, .nil, e => by cases e; rfl
  | _, _, l, .cons (v := v) (d := d) (es := es) r t, e => by
    cases d with
    | str s =>
      have e' : (valS es).map (s :: ·) = some l := e
      rw [Option.map_eq_some_iff] at e'
      obtain ⟨l', e1, rfl⟩ := e'
      cases r
      rw [List.map_cons, valS_ok t e1]; rfl
    | _ => cases e
noncomputable def sortVW (m : Bool) (w : W) (h : Hh) : Option (W × Hh) := match deref h w with
  | some (.dict es) => if isT es = true then none else match valS es with
    | some l => mkL m ((l.mergeSort leT).map .str) h
    | none => none
  | _ => none
noncomputable def fSortV (m : Bool) (f : EM) : EM := fun ρ h => obnd (f ρ h) fun w h1 => sortVW m w h1
theorem d_sortV {k : Nat} (hr : RG k X.A) (hc : X.calm = true) (m : Bool) {o : Expr} {p pos apos mpos : Pos} {f : EM} (hm : X.mg "sorted" = none) (hd : DE X o f) (hg : Gl X "sorted" := by rfl) (hb : attributeBase o "values" X.env (eval o X.env) = eval o X.env := by rfl) (hl : (apos.endLine == mpos.line) = true := by rfl)
    (hs : starEach [Expr.Call (.Attribute o "values" apos) [] [] mpos] X.env = [(false, eval (Expr.Call (.Attribute o "values" apos) [] [] mpos) X.env)] := by rfl) : DE X (.Call (.Name "sorted" p) [.Call (.Attribute o "values" apos) [] [] mpos] [] pos) (fSortV m f) :=
  (pe_sortV hr.room hc hg hm hd hb hl hs).weak fun σ H Q => by
    rintro ⟨M, h, ρ, r, rs, c⟩
    obtain ⟨w, h1, e1, c1⟩ := Cont.bind (δ := Unit) c
    refine ⟨M, h, ρ, r, rs, w, h1, e1, fun M1 H1 v x1 r1 v1 => ?_⟩
    have c2 := c1 M1 H1 x1
    unfold sortVW at c2
    split at c2
    · rename_i es e
      split at c2
      · exact c2.no.elim
      · rename_i ht
        split at c2
        · rename_i l el
          rcases deref_rr r1 v1 e with ⟨a, kvs, rfl, ha, q⟩ | ⟨a, kvs, es', rfl, rfl, ha, q⟩
          · exact ⟨a, kvs, l, rfl, ha, valS_ok q el, fun p np => mkL_fin r1 np (rds_ofS _) c2⟩
          · exact absurd rfl ht
        · exact c2.no.elim
    · exact c2.no.elim
def dvW (ρ : Env) : List (Nat × Nat) → Option (List (Key × D))
  | [] => some []
  | (i, j) :: r => match ρ[i]?, ρ[j]?, dvW ρ r with
    | some (some (.dat kd)), some (some (.dat vd)), some q => (dKey kd).map fun k => (k, vd) :: q
    | _, _, _ => none
def fDv (m : Bool) (ps : List (Nat × Nat)) : EM := fun ρ h => match dvW ρ ps with
  | some q => if q.length ≤ 15 then mkK m (mergeD [] q) h else none
  | none => none
def trV (ps : List (Nat × Nat)) : List (TE × TE) := ps.map fun p => (tVar p.1, tVar p.2)
theorem dv_pairs {M : Mm} {H : Hp} {σ : L2.St} {ρ : Env} (rs : RS M H ρ σ) : ∀ {ps : List (Nat × Nat)} {q : List (Key × D)} {G : Hp} {R : List (V × V) → Hp → Prop}, dvW ρ ps = some q → (∀ kvs : List (Key × V), Paired (fun (a : Key × V) (b : Key × D) => a.1 = b.1 ∧ RD M H a.2 b.2) kvs q → R (kvs.map fun kv => (kV kv.1, kv.2)) G) → tPairs (trV ps) σ G R
  | [], q, G, R, e, hR => by
    cases e
    exact hR [] .nil
  | (i, j) :: ps, q, G, R, e, hR => by
    unfold dvW at e
    split at e
    · rename_i kd vd q' ei ej eq
      rw [Option.map_eq_some_iff] at e
      obtain ⟨k, ek, rfl⟩ := e
      obtain ⟨v1, s1, r1⟩ := rs.2 i _ ei
      obtain ⟨v2, s2, r2⟩ := rs.2 j _ ej
      have := kP_dKey ek
      subst this
      obtain rfl := rd_kP (show RD M H v1 (kP k) from r1)
      refine ⟨_, s1, _, s2, dv_pairs rs eq fun kvs pk => ?_⟩
      exact hR ((k, v2) :: kvs) (.cons ⟨rfl, r2⟩ pk)
    · cases e
theorem paired_len {α β : Type} {R : α → β → Prop} : ∀ {xs : List α} {ys : List β}, Paired R xs ys → xs.length = ys.length
  | _, _, .nil => rfl
  | _, _, .cons _ t => congrArg (· + 1) (paired_len t)
theorem d_dv (m : Bool) {ps : List (Nat × Nat)} {keys : List (Option Expr)} {values : List Expr} {pos : Pos} (h : PPs X pos keys values (trV ps)) (hall : keys.all (·.isSome) = true) (hl : keys.length = values.length) (h0 : keys ≠ []) (h15 : keys.length ≤ 15) : DE X (.Dict keys values pos) (fDv m ps) :=
  (pe_disp h hall hl h0 h15).weak fun σ H Q => by
    rintro ⟨M, h, ρ, r, rs, c⟩ p np
    unfold fDv at c
    split at c
    · rename_i q eq
      split at c
      · rename_i hz
        refine dv_pairs rs eq fun kvs pk => ⟨upd_same, kvs, rfl, by rw [paired_len pk]; exact hz, ?_⟩
        rw [upd_upd]
        exact mkK_fin r np (RDk.merge pk .nil) c
      · exact c.no.elim
    · exact c.no.elim
end
end DL
set_option maxRecDepth 100000
set_option maxHeartbeats 4000000
namespace DL
open PySem PySem.Spec PyProof.Rows L2
variable [HW]
section
variable {X : Cx}
def gSub (i j : Int) : Option Int := some (i - j)
end
end DL
set_option maxRecDepth 100000
set_option maxHeartbeats 1000000
namespace DL
open PySem PySem.Spec PyProof.Rows L2
variable [HW]
end DL
set_option maxRecDepth 100000
set_option maxHeartbeats 400000
namespace DL
open PySem PySem.Spec PyProof.Rows L2
variable [HW]
mutual
def noL : D → Bool
  | .tuple ds => noLs ds
  | .list _ => false
  | .dict _ => false
  | _ => true
def noLs : List D → Bool
  | [] => true
  | d :: ds => noL d && noLs ds
end
def noLv : List (D × D) → Bool
  | [] => true
  | (_, d) :: es => noL d && noLv es
def okM : Option MO → Bool
  | some (.lst ds) => noLs ds
  | some (.dit es) => noLv es
  | some (.tab _ _) => true
  | none => true
  | _ => false
mutual
theorem RD.thaw {M M' : Mm} {H : Hp} (x : ∀ a, M.Has a → M'.Has a ∨ ∃ xs, H a = some (.lst xs)) : ∀ {v : V} {d : D}, RD M' H v d → noL d = true → RD M H v d
  | _, _, .non, _ => .non
  | _, _, .bl b, _ => .bl b
  | _, _, .int i, _ => .int i
  | _, _, .str s, _ => .str s
  | _, _, .tup n e r, h => .tup (fun z => (x _ z).elim n fun ⟨xs, q⟩ => by rcases e with ⟨_, e⟩ | ⟨_, o, _, e⟩ <;> rw [q] at e <;> cases e) e (RDs.thaw x r (by simpa [noL] using h))
  | _, _, .lst n e r, h => by simp [noL] at h
  | _, _, .dic n e r, h => by simp [noL] at h
  | _, _, .dit n e r, h => by simp [noL] at h
theorem RDs.thaw {M M' : Mm} {H : Hp} (x : ∀ a, M.Has a → M'.Has a ∨ ∃ xs, H a = some (.lst xs)) : ∀ {v : List V} {d : List D}, RDs M' H v d → noLs d = true → RDs M H v d
  | _, _, .nil, _ => .nil
  | _, _, .cons a r, h => by
    simp only [noLs, Bool.and_eq_true] at h
    exact .cons (RD.thaw x a h.1) (RDs.thaw x r h.2)
end
theorem RDt.thaw {M M' : Mm} {H : Hp} (x : ∀ a, M.Has a → M'.Has a ∨ ∃ xs, H a = some (.lst xs)) : ∀ {v : List KA} {d : List (D × D)}, RDt M' H v d → noLv d = true → RDt M H v d
  | _, _, .nil, _ => .nil
  | _, _, .cons n e a r, h => by
    simp only [noLv, Bool.and_eq_true] at h
    exact .cons (fun z => (x _ z).elim n fun ⟨xs, q⟩ => by rcases e with ⟨_, e⟩ | ⟨_, o, _, e⟩ <;> rw [q] at e <;> cases e) e (RD.thaw x a h.1) (RDt.thaw x r h.2)
theorem RO.thaw {M M' : Mm} {H : Hp} {a : Addr} {o : MO} (x : ∀ a, M.Has a → M'.Has a ∨ ∃ xs, H a = some (.lst xs)) (r : RO M' H a o) (h : okM (some o) = true) : RO M H a o := by
  cases o with
  | lst ds => obtain ⟨xs, e, q⟩ := r; exact ⟨xs, e, q.thaw x h⟩
  | dic ds => cases h
  | dit ds => obtain ⟨kvs, e, q⟩ := r; exact ⟨kvs, e, q.thaw x h⟩
  | ins C fs => cases h
  | tab q P =>
    obtain ⟨z, ps, e, t, r⟩ := r
    refine ⟨z, ps, e, t, fun pos cv hc => ?_⟩
    obtain ⟨c, e1, n, e2⟩ := r pos cv hc
    refine ⟨c, e1, fun z => (x c z).elim n fun w => ?_, e2⟩
    obtain ⟨xs, e3⟩ := w
    rw [e2] at e3
    cases e3
def killG {α : Type} (ns : List Nat) (l : List (Option α)) : List (Option α) := ns.foldl (fun l n => l.set n none) l
theorem killG_len {α : Type} : ∀ (ns : List Nat) (l : List (Option α)), (killG ns l).length = l.length
  | [], l => rfl
  | n :: ns, l => by show (killG ns (l.set n none)).length = _; rw [killG_len ns]; simp
theorem killG_get {α : Type} : ∀ (ns : List Nat) (l : List (Option α)) (i : Nat), i < l.length → (killG ns l)[i]? = if i ∈ ns then some none else l[i]?
  | [], l, i, h => by simp [killG]
  | n :: ns, l, i, h => by
    show (killG ns (l.set n none))[i]? = _
    rw [killG_get ns _ i (by simpa using h)]
    by_cases hi : i ∈ ns
    · simp [hi]
    · by_cases hn : n = i
      · subst hn; simp [hi, List.getElem?_set_self h]
      · simp [hi, Ne.symm hn, List.getElem?_set_ne hn]
def backG {α : Type} (ns : List Nat) (l l1 : List (Option α)) : List (Option α) := ns.foldl (fun g n => g.set n ((l[n]?).getD none)) l1
theorem backG_len {α : Type} (l : List (Option α)) : ∀ (ns : List Nat) (l1 : List (Option α)), (backG ns l l1).length = l1.length
  | [], l1 => rfl
  | n :: ns, l1 => by show (backG ns l (l1.set n _)).length = _; rw [backG_len l ns]; simp
theorem backG_get {α : Type} (l : List (Option α)) : ∀ (ns : List Nat) (l1 : List (Option α)) (i : Nat), i < l1.length → l1.length = l.length → (backG ns l l1)[i]? = if i ∈ ns then l[i]? else l1[i]?
  | [], l1, i, h, e => by simp [backG]
  | n :: ns, l1, i, h, e => by
    show (backG ns l (l1.set n ((l[n]?).getD none)))[i]? = _
    rw [backG_get l ns _ i (by simpa using h) (by simpa using e)]
    by_cases hi : i ∈ ns
    · simp [hi]
    · by_cases hn : n = i
      · subst hn
        have hl : n < l.length := by omega
        simp [hi, List.getElem?_set_self h, List.getElem?_eq_getElem hl]
      · simp [hi, Ne.symm hn, List.getElem?_set_ne hn]
def openP (h : Hh) : List (Sum Nat D) → Option (List D × List Nat)
  | [] => some ([], [])
  | .inr d :: its => match openP h its with
    | some (ds, ns) => some (d :: ds, ns)
    | none => none
  | .inl n :: its => match h[n]?, openP h its with
    | some (some (.lst l)), some (ds, ns) => some (.list l :: ds, n :: ns)
    | _, _ => none
def bThaw (i : Nat) (f : BM) : BM := fun ρ h => match ρ[i]? with
  | some (some (.pack its)) => match openP h its with
    | some (ds, ns) => if ns.any (fun n => (ρ.set i none).any (isR n)) = true then none else
      match f (ρ.set i (some (.dat (.list ds)))) (killG ns h) with
      | some (b, h1) => if h1.length = h.length ∧ h1.all okM = true then some (b, backG ns h h1) else none
      | none => none
    | none => none
  | _ => none
section
variable {M : Mm} {H : Hp} {h : Hh}
theorem openP_in : ∀ {its : List (Sum Nat D)} {xs : List V} {ds : List D} {ns : List Nat}, RPs M H xs its → openP h its = some (ds, ns) → (∀ n, (.inl n) ∈ its → n ∈ ns) ∧ ∀ n ∈ ns, ∃ l a, h[n]? = some (some (.lst l)) ∧ M.m[n]? = some (some a)
  | _, _, _, _, .nil, e => by cases e; exact ⟨fun n z => (by cases z), fun n z => (by cases z)⟩
  | _, _, _, _, .dat (ds := its) q r, e => by
    simp only [openP] at e
    split at e
    · rename_i ds ns e1
      cases e
      have ih := openP_in r e1
      exact ⟨fun n z => ih.1 n (by simpa using z), ih.2⟩
    · cases e
  | _, _, _, _, .ref (ds := its) q r, e => by
    simp only [openP] at e
    split at e
    · rename_i l ds ns e0 e1
      cases e
      have ih := openP_in r e1
      refine ⟨fun m z => ?_, fun m z => ?_⟩
      · rcases List.mem_cons.mp z with z | z
        · cases z; simp
        · exact List.mem_cons_of_mem _ (ih.1 m z)
      · rcases List.mem_cons.mp z with rfl | z
        · exact ⟨l, _, e0, q⟩
        · exact ih.2 m z
    · cases e
theorem killM_has {ns : List Nat} : ∀ b, Mm.Has ⟨M.u, killG ns M.m⟩ b → M.Has b := fun b z => by
  rcases z with z | z
  · exact .inl z
  · obtain ⟨i, hi, q⟩ := List.getElem_of_mem z
    have hi' : i < M.m.length := by simpa [killG_len] using hi
    have q' : (killG ns M.m)[i]? = some (some b) := by rw [List.getElem?_eq_getElem hi]; exact congrArg some q
    rw [killG_get ns M.m i hi'] at q'
    split at q'
    · cases q'
    · exact .inr (List.mem_of_getElem? q')
theorem killM_get {ns : List Nat} {i : Nat} {a : Addr} (q : (killG ns M.m)[i]? = some (some a)) : i ∉ ns ∧ M.m[i]? = some (some a) := by
  have hi : i < M.m.length := by have := lt_of_get q; rwa [killG_len] at this
  rw [killG_get ns M.m i hi] at q
  split at q
  · cases q
  · rename_i hn; exact ⟨hn, q⟩
theorem Rep.kill (rep : Rep M H h) (ns : List Nat) : Rep ⟨M.u, killG ns M.m⟩ H (killG ns h) := by
  refine ⟨fun b z => ⟨fun y => ?_, (rep.us b z).2⟩, by rw [killG_len, killG_len]; exact rep.len, fun i j b q1 q2 => ?_, fun i b q => ?_, fun i q => ?_⟩
  · obtain ⟨i, hi, q⟩ := List.getElem_of_mem y
    have q' : (killG ns M.m)[i]? = some (some b) := by rw [List.getElem?_eq_getElem hi]; exact congrArg some q
    exact (rep.us b z).1 (List.mem_of_getElem? (killM_get q').2)
  · exact rep.inj i j b (killM_get q1).2 (killM_get q2).2
  · obtain ⟨hn, q'⟩ := killM_get q
    obtain ⟨o, ho, ro⟩ := rep.at_ i b q'
    refine ⟨o, ?_, ro.sub killM_has⟩
    rw [killG_get ns h i (by rw [← rep.len]; exact lt_of_get q'), if_neg hn]
    exact ho
  · have q' : (killG ns M.m)[i]? = some none := q
    have hi : i < M.m.length := by have := lt_of_get q'; rwa [killG_len] at this
    rw [killG_get ns h i (by rw [← rep.len]; exact hi)]
    rw [killG_get ns M.m i hi] at q'
    split at q'
    · rename_i hn; rw [if_pos hn]
    · rename_i hn; rw [if_neg hn]; exact rep.dead i q'
theorem killM_not (rep : Rep M H h) {ns : List Nat} {n : Nat} {a : Addr} (hn : n ∈ ns) (q : M.m[n]? = some (some a)) : ¬ Mm.Has ⟨M.u, killG ns M.m⟩ a := fun z => by
  rcases z with z | z
  · exact (rep.us a z).1 (List.mem_of_getElem? q)
  · obtain ⟨i, hi, e⟩ := List.getElem_of_mem z
    have q' : (killG ns M.m)[i]? = some (some a) := by rw [List.getElem?_eq_getElem hi]; exact congrArg some e
    obtain ⟨h1, h2⟩ := killM_get q'
    exact h1 (rep.inj i n a h2 q ▸ hn)
theorem openP_rds (rep : Rep M H h) {ns0 : List Nat} : ∀ {its : List (Sum Nat D)} {xs : List V} {ds : List D} {ns : List Nat}, RPs M H xs its → openP h its = some (ds, ns) → (∀ n ∈ ns, n ∈ ns0) → RDs ⟨M.u, killG ns0 M.m⟩ H xs ds
  | _, _, _, _, .nil, e, _ => by cases e; exact .nil
  | _, _, _, _, .dat (ds := its) q r, e, hs => by
    simp only [openP] at e
    split at e
    · rename_i ds ns e1
      cases e
      exact .cons (q.sub killM_has) (openP_rds rep r e1 hs)
    · cases e
  | _, _, _, _, .ref (ds := its) q r, e, hs => by
    simp only [openP] at e
    split at e
    · rename_i l ds ns e0 e1
      cases e
      obtain ⟨o, ho, ro⟩ := rep.at_ _ _ q
      rw [e0] at ho
      cases ho
      obtain ⟨xs, hx, rx⟩ := ro
      exact .cons (.lst (killM_not rep (hs _ (by simp)) q) hx (rx.sub killM_has)) (openP_rds rep r e1 fun n z => hs n (List.mem_cons_of_mem _ z))
    · cases e
theorem RS.kill {ρ : Env} {σ : L2.St} {i : Nat} {its : List (Sum Nat D)} {ds : List D} {ns : List Nat} (rep : Rep M H h) (rs : RS M H ρ σ) (er : ρ[i]? = some (some (.pack its))) (eo : openP h its = some (ds, ns)) (hn : ¬ ns.any (fun n => (ρ.set i none).any (isR n)) = true) (h0 : ns ≠ []) :
    RS ⟨M.u, killG ns M.m⟩ H (ρ.set i (some (.dat (.list ds)))) σ := by
  refine ⟨by simp [rs.1], fun j w q => ?_⟩
  by_cases hj : i = j
  · subst hj
    rw [List.getElem?_set_self (lt_of_get er)] at q
    cases q
    obtain ⟨v, ev, a, xs, rfl, na, ha, rp⟩ := rs.2 i _ er
    exact ⟨_, ev, RD.lst (fun z => na (killM_has _ z)) ha (openP_rds rep rp eo fun _ z => z)⟩
  · rw [List.getElem?_set_ne hj] at q
    obtain ⟨v, ev, rv⟩ := rs.2 j w q
    refine ⟨v, ev, ?_⟩
    have hm : some w ∈ ρ.set i none := List.mem_of_getElem? (i := j) (by rw [List.getElem?_set_ne hj]; exact q)
    cases w with
    | dat d => exact RD.sub killM_has rv
    | ins C fs =>
      obtain ⟨b, u, gs, e1, n1, q1, r1⟩ := rv
      exact ⟨b, u, gs, e1, fun z => n1 (killM_has b z), q1, r1.to fun _ _ => RD.sub killM_has⟩
    | exc k C fs =>
      obtain ⟨b, d, gs, e1, r1⟩ := rv
      exact ⟨b, d, gs, e1, r1.to (fun c _ _ n z => n (killM_has c z)) (fun _ _ q _ _ => q) fun _ _ => RD.sub killM_has⟩
    | lock es =>
      obtain ⟨b, u, kvs, e1, n1, q1, r1⟩ := rv
      exact ⟨b, u, kvs, e1, fun z => n1 (killM_has b z), q1, r1.sub killM_has⟩
    | scr ns =>
      obtain ⟨b, u, e1, n1, q1⟩ := rv
      exact ⟨b, u, e1, fun z => n1 (killM_has b z), q1⟩
    | pack its' =>
      obtain ⟨n, hn0⟩ := List.exists_mem_of_ne_nil _ h0
      exact absurd (List.any_eq_true.mpr ⟨n, hn0, List.any_eq_true.mpr ⟨_, hm, rfl⟩⟩) hn
    | ref k =>
      obtain ⟨b, eb, rfl⟩ := rv
      have hk : k ∉ ns := fun z => hn (List.any_eq_true.mpr ⟨k, z, List.any_eq_true.mpr ⟨_, hm, by simp [isR]⟩⟩)
      exact ⟨b, by show (killG ns M.m)[k]? = _; rw [killG_get ns M.m k (lt_of_get eb), if_neg hk]; exact eb, rfl⟩
theorem thaw_rep {M1 : Mm} {H1 : Hp} {h1 : Hh} {ns : List Nat} (rep : Rep M H h) (hns : ∀ n ∈ ns, ∃ l a, h[n]? = some (some (.lst l)) ∧ M.m[n]? = some (some a)) (x : ExtE ⟨M.u, killG ns M.m⟩ M1 H H1) (rep1 : Rep M1 H1 h1) (hl : h1.length = h.length) (hk : h1.all okM = true) :
    ExtE M M H H1 ∧ Rep M H1 (backG ns h h1) := by
  have hm : M1.m = killG ns M.m := by
    apply List.ext_getElem?
    intro i
    by_cases hi : i < M.m.length
    · exact x.pre i (by simpa [killG_len] using hi)
    · rw [List.getElem?_eq_none (by rw [rep1.len, hl, ← rep.len]; omega), List.getElem?_eq_none (by rw [killG_len]; omega)]
  have hu : M1.u = M.u := x.same
  have eM : M1 = ⟨M.u, killG ns M.m⟩ := by cases M1; simp only at hm hu; rw [hm, hu]
  subst eM
  have xx : ExtE M M H H1 := ⟨rfl, x.trk, fun a o e n => x.stab a o e fun z => by
    obtain ⟨i, hi, q⟩ := List.getElem_of_mem z
    have q' : (killG ns M.m)[i]? = some (some a) := by rw [List.getElem?_eq_getElem hi]; exact congrArg some q
    exact n (List.mem_of_getElem? (killM_get q').2), fun _ m => .inl m, Nat.le_refl _, fun _ _ => rfl⟩
  have keep : ∀ n ∈ ns, ∀ a o, M.m[n]? = some (some a) → H a = some o → H1 a = some o := fun n hn a o q e => x.stab a o e fun z => killM_not rep hn q (.inr z)
  have hx : ∀ a, M.Has a → Mm.Has ⟨M.u, killG ns M.m⟩ a ∨ ∃ xs, H1 a = some (.lst xs) := fun a z => by
    rcases z with z | z
    · exact .inl (.inl z)
    · obtain ⟨i, hi, q⟩ := List.getElem_of_mem z
      have q' : M.m[i]? = some (some a) := by rw [List.getElem?_eq_getElem hi, q]
      by_cases hn : i ∈ ns
      · obtain ⟨l, a', e1, e2⟩ := hns i hn
        rw [q'] at e2; cases e2
        obtain ⟨o, ho, ro⟩ := rep.at_ i a q'
        rw [e1] at ho; cases ho
        obtain ⟨xs, e3, _⟩ := ro
        exact .inr ⟨xs, keep i hn a _ q' e3⟩
      · refine .inl (.inr (List.mem_of_getElem? (i := i) ?_))
        show (killG ns M.m)[i]? = _
        rw [killG_get ns M.m i hi, if_neg hn]
        exact q'
  refine ⟨xx, fun b z => ?_, by rw [backG_len, hl]; exact rep.len, rep.inj, fun i a q => ?_, fun i q => ?_⟩
  · obtain ⟨h1, o, e, ht⟩ := rep.us b z
    exact ⟨h1, o, x.stab b o e (fun y => by
      obtain ⟨i, hi, q⟩ := List.getElem_of_mem y
      exact h1 (List.mem_of_getElem? (killM_get (i := i) (by rw [List.getElem?_eq_getElem hi, q])).2)), ht⟩
  · have hi : i < h.length := by rw [← rep.len]; exact lt_of_get q
    rw [backG_get h ns h1 i (by rw [hl]; exact hi) hl]
    by_cases hn : i ∈ ns
    · rw [if_pos hn]
      obtain ⟨o, ho, ro⟩ := rep.at_ i a q
      obtain ⟨l, a', e1, e2⟩ := hns i hn
      obtain ⟨u, eu⟩ := ro.some_
      exact ⟨o, ho, ro.move xx.ext ((keep i hn a u q eu).trans eu.symm)⟩
    · rw [if_neg hn]
      have q' : (killG ns M.m)[i]? = some (some a) := by rw [killG_get ns M.m i (lt_of_get q), if_neg hn]; exact q
      obtain ⟨o, ho, ro⟩ := rep1.at_ i a q'
      exact ⟨o, ho, ro.thaw hx (List.all_eq_true.mp hk _ (List.mem_of_getElem? ho))⟩
  · have hi' : i < M.m.length := lt_of_get q
    have hi : i < h.length := by rw [← rep.len]; exact hi'
    rw [backG_get h ns h1 i (by rw [hl]; exact hi) hl]
    by_cases hn : i ∈ ns
    · rw [if_pos hn]; exact rep.dead i q
    · rw [if_neg hn]
      exact rep1.dead i (by show (killG ns M.m)[i]? = _; rw [killG_get ns M.m i hi', if_neg hn]; exact q)
end
section
variable {X : Cx}
theorem thaw_imp {i : Nat} {f : BM} : ∀ σ H Q, tT (bThaw i f) σ H Q → tT f σ H Q := fun σ H Q => by
  rintro ⟨M, h, ρ, rep, rs, c⟩
  unfold bThaw at c
  split at c
  · rename_i its er
    split at c
    · rename_i ds ns eo
      split at c
      · exact c.no.elim
      · rename_i hn
        obtain ⟨v, ev, a, xs, rfl, na, ha, rp⟩ := rs.2 i _ er
        have hin := openP_in rp eo
        split at c
        · rename_i b h1 e1
          split at c
          · rename_i hg
            by_cases h0 : ns = []
            · subst h0
              refine ⟨M, h, ρ.set i (some (.dat (.list ds))), rep, ⟨by simp [rs.1], fun j w q => ?_⟩, b, h1, e1, fun M1 H1 v x1 r1 v1 => c.fin x1 r1 v1⟩
              by_cases hj : i = j
              · subst hj
                rw [List.getElem?_set_self (lt_of_get er)] at q
                cases q
                exact ⟨_, ev, RD.lst na ha (openP_rds (ns0 := []) rep rp eo fun _ z => z)⟩
              · rw [List.getElem?_set_ne hj] at q
                exact rs.2 j w q
            · refine ⟨_, _, _, rep.kill ns, rs.kill rep er eo hn h0, b, h1, e1, fun M1 H1 v x1 r1 v1 => ?_⟩
              obtain ⟨x2, r2⟩ := thaw_rep rep hin.2 x1 r1 hg.1 hg.2
              exact c.fin x2 r2 v1
          · exact c.no.elim
        · exact c.no.elim
    · exact c.no.elim
  · exact c.no.elim
theorem dt_thaw (i : Nat) {e : Expr} {f : BM} (h : DT X e f) : DT X e (bThaw i f) := h.weak thaw_imp
def packs : List W → Option (List (Sum Nat D))
  | [] => some []
  | .dat d :: ws => (packs ws).map (.inr d :: ·)
  | .ref n :: ws => (packs ws).map (.inl n :: ·)
  | _ :: _ => none
@[simp] theorem packs_nil : packs [] = some [] := rfl
@[simp] theorem packs_dat (d : D) (ws : List W) : packs (.dat d :: ws) = (packs ws).map (.inr d :: ·) := rfl
@[simp] theorem packs_ref (n : Nat) (ws : List W) : packs (.ref n :: ws) = (packs ws).map (.inl n :: ·) := rfl
theorem rvs_packs {M : Mm} {H : Hp} : ∀ {vs : List V} {ws : List W} {ds : List (Sum Nat D)}, RVs M H vs ws → packs ws = some ds → RPs M H vs ds
  | _, _, _, .nil, e => by cases e; exact .nil
  | _, .dat d :: ws, _, .cons a t, e => by
    simp only [packs_dat, Option.map_eq_some_iff] at e
    obtain ⟨ds', e1, rfl⟩ := e
    exact .dat a (rvs_packs t e1)
  | _, .ref n :: ws, _, .cons ⟨ad, ea, q⟩ t, e => by
    simp only [packs_ref, Option.map_eq_some_iff] at e
    obtain ⟨ds', e1, rfl⟩ := e
    subst q
    exact .ref ea (rvs_packs t e1)
  | _, .scr n :: ws, _, .cons a t, e => by cases e
  | _, .pack n :: ws, _, .cons a t, e => by cases e
  | _, .lock n :: ws, _, .cons a t, e => by cases e
theorem RPs.length {M : Mm} {H : Hp} : ∀ {vs : List V} {ws : List (Sum Nat D)}, RPs M H vs ws → vs.length = ws.length
  | _, _, .nil => rfl
  | _, _, .ref _ r => by rw [List.length_cons, List.length_cons, r.length]
  | _, _, .dat _ r => by rw [List.length_cons, List.length_cons, r.length]
def packW (ws : List W) (h : Hh) : Option (W × Hh) := match packs ws with
  | some its => if its.length ≤ sizeLine then some (.pack its, h) else none
  | none => none
theorem d_pack {es : List Expr} {pos : Pos} {g : AM} (hg : DA X es g) : DE X (.List es pos) (fA packW g) := (pe_lst hg).weak fun σ H Q => by
  rintro ⟨M, h, ρ, r, rs, c⟩
  obtain ⟨w, h1, e1, c1⟩ := Cont.bind (δ := Unit) c
  refine ⟨M, h, ρ, r, rs, w, h1, e1, fun M1 H1 v x1 r1 v1 => ?_⟩
  have c2 := c1 M1 H1 x1
  unfold packW at c2
  split at c2
  · rename_i ds e
    have q := rvs_packs v1 e
    split at c2
    · rename_i hz
      refine ⟨by rw [q.length]; exact hz, fun p np => ?_⟩
      exact c2.fin (ext_new np) (r1.upd_new np) ⟨p, v, rfl, r1.new np, upd_same, q.move (fun _ _ z => z) fun _ _ => RD.mono (ext_new np).ext⟩
    · exact c2.no.elim
  · exact c2.no.elim
theorem RPs.get {M : Mm} {H : Hp} : ∀ {xs : List V} {its : List (Sum Nat D)} {i : Nat} {z : Sum Nat D}, RPs M H xs its → its[i]? = some z → ∃ v, xs[i]? = some v ∧ RV M H v (match z with | .inl n => .ref n | .inr d => .dat d)
  | _, _, _, _, .nil, e => by simp at e
  | _, _, 0, _, .ref (a := a) q r, e => by simp at e; subst e; exact ⟨_, rfl, a, q, rfl⟩
  | _, _, 0, _, .dat q r, e => by simp at e; subst e; exact ⟨_, rfl, q⟩
  | _, _, i + 1, z, .ref (vs := vs) (ds := ds) q r, e => by
    obtain ⟨v, e1, e2⟩ := RPs.get (i := i) r (by simpa using e)
    exact ⟨v, by simpa using e1, e2⟩
  | _, _, i + 1, z, .dat (vs := vs) (ds := ds) q r, e => by
    obtain ⟨v, e1, e2⟩ := RPs.get (i := i) r (by simpa using e)
    exact ⟨v, by simpa using e1, e2⟩
end
end DL
set_option maxRecDepth 100000
set_option maxHeartbeats 1000000
namespace DL
open PySem PySem.Spec PyProof.Rows L2
variable [HW]
def RB (M : Mm) (H : Hp) (v : V) (d : D) : Prop := ∃ a xs es, v = .ref a ∧ d = .tuple es ∧ H a = some (.tup xs) ∧ RDs M H xs es
def ItB (M : Mm) (H : Hp) (J : It) (ds : List D) : Prop := ∀ M1 H1, Ext M M1 H H1 → (∀ a, M1.Has a → ∃ o, H1 a = some o ∧ tpO o = false) → (∀ (i : Nat) (d : D), ds[i]? = some d → J.go i H1 ∧ ∀ x H2, J.yld i H1 x H2 → Same H1 H2 ∧ RB M1 H2 x d) ∧ J.stop ds.length H1
def tIB (g : IM) : TI := fun σ H R => ∃ M h ρ ds h', Rep M H h ∧ RS M H ρ σ ∧ g ρ h = some (ds, h') ∧ ∀ M' H' J, ExtE M M' H H' → Rep M' H' h' → ItB M' H' J ds → R J H'
abbrev DIB (X : Cx) (tg it : Expr) (g : IM) : Prop := PI X tg it (tIB g)
def tGB (ts : List Nat) (g : TM) : TG := fun v σ H Q => ∃ M h ρ d ρ', Rep M H h ∧ RS M H ρ σ ∧ RB M H v d ∧ g (.dat d) ρ h = some ρ' ∧ ∀ σ' : L2.St, RS M H ρ' σ' → σ'.length = σ.length → (∀ j, j ∉ ts → σ'[j]? = σ[j]?) → Q σ' H
abbrev DGB (X : Cx) (tg : Expr) (ts : List Nat) (g : TM) : Prop := PG X tg (tGB ts g)
theorem dg_tupB {X : Cx} {tgs : List Expr} {k : Nat} {pos : Pos} {ts : List Nat} {g : TMs} {n : Nat} (hc : X.calm = true) (h : DGs X tgs ts g) (hn : (assignEach tgs X.env).length = n := by rfl) (hst : (assignEach tgs X.env).findIdx? (·.1) = none := by rfl) : DGB X (.Tuple tgs k pos) ts (gT n g) :=
  (pg_tup hc h hn hst).weak fun v σ H Q => by
    rintro ⟨M, h, ρ, d, ρ', r, rs, ⟨a, xs, es, rfl, rfl, ha, qa⟩, e, q⟩
    unfold gT at e
    simp only [deref_dat] at e
    split at e
    · rename_i hz
      exact ⟨a, xs, rfl, .inl (.inl ha), by rw [qa.length]; exact hz, M, h, ρ, es, ρ', r, rs, qa, e, q⟩
    · cases e
theorem itb_zip {K : PySem.W.Frag} {M : Mm} {H : Hp} {a b : Addr} {xs ys : List V} {ds es : List D} (n : ¬ M.Has a) (ha : H a = some (.lst xs)) (q : RDs M H xs ds) (n' : ¬ M.Has b) (hb : H b = some (.lst ys)) (q' : RDs M H ys es) : ItB M H (Itz K a b) (zipD ds es) := fun M1 H1 x tr => by
  have ha1 := x.st n ha
  have hb1 := x.st n' hb
  refine ⟨fun i d e => ?_, ⟨xs, ys, .of ha1, .of hb1, by rw [q.length, q'.length, zipD_len]; omega⟩⟩
  obtain ⟨d1, d2, e1, e2, rfl⟩ := zipD_get e
  obtain ⟨v, ev, rv⟩ := (q.mono x).get e1
  obtain ⟨v', ev', rv'⟩ := (q'.mono x).get e2
  refine ⟨⟨xs, ys, v, v', .of ha1, .of hb1, ev, ev'⟩, fun y H2 hy => ?_⟩
  obtain ⟨T, z, z', rfl, nT, rfl, hz, hz'⟩ := hy
  have t1 := hz xs (.of ha1)
  rw [ev] at t1; cases t1
  have t2 := hz' ys (.of hb1)
  rw [ev'] at t2; cases t2
  exact ⟨same_new nT, T, _, _, rfl, rfl, upd_same, .cons (rv.mono (grow_ext (same_new nT))) (.cons (rv'.mono (grow_ext (same_new nT))) .nil)⟩
theorem itb_zipT {K : PySem.W.Frag} {M : Mm} {H : Hp} {a b : Addr} {xs ys : List V} {ds es : List D} (n : ¬ M.Has a) (ha : TupAt H a xs ds) (q : RDs M H xs ds) (n' : ¬ M.Has b) (hb : TupAt H b ys es) (q' : RDs M H ys es) : ItB M H (RZ.ItzT K a b) (zipD ds es) := fun M1 H1 x tr => by
  have ha1 := (ha.to fun _ z => x.st n z).sq (K := K)
  have hb1 := (hb.to fun _ z => x.st n' z).sq (K := K)
  refine ⟨fun i d e => ?_, ⟨xs, ys, ha1, hb1, by rw [q.length, q'.length, zipD_len]; omega⟩⟩
  obtain ⟨d1, d2, e1, e2, rfl⟩ := zipD_get e
  obtain ⟨v, ev, rv⟩ := (q.mono x).get e1
  obtain ⟨v', ev', rv'⟩ := (q'.mono x).get e2
  refine ⟨⟨xs, ys, v, v', ha1, hb1, ev, ev'⟩, fun y H2 hy => ?_⟩
  obtain ⟨T, z, z', rfl, nT, rfl, hz, hz'⟩ := hy
  have t1 := hz xs ha1
  rw [ev] at t1; cases t1
  have t2 := hz' ys hb1
  rw [ev'] at t2; cases t2
  exact ⟨same_new nT, T, _, _, rfl, rfl, upd_same, .cons (rv.mono (grow_ext (same_new nT))) (.cons (rv'.mono (grow_ext (same_new nT))) .nil)⟩
def zipB (g : AM) : IM := fun ρ h => obnd (g ρ h) fun ws h1 => match ws with
  | [.dat (.list ds), .dat (.list es)] => some (zipD ds es, h1)
  | [.dat (.tuple ds), .dat (.tuple es)] => some (zipD ds es, h1)
  | _ => none
theorem di_zipB {X : Cx} (hm : X.mg "zip" = none) {e e2 : Expr} {elts : List Expr} {kk : Nat} {p pos tpos : Pos} {g : AM} (ha : DA X [e, e2] g) (hg : Gl X "zip" := by rfl) (hs : starEach [e, e2] X.env = (false, eval e X.env) :: starEach [e2] X.env := by rfl) (hpl : (backTo pos (starEach [e2] X.env)).any (·.1) = false := by rfl) :
    DIB X (.Tuple elts kk tpos) (.Call (.Name "zip" p) [e, e2] [] pos) (zipB g) := (RZ.pi_zipA hg hm ha hs hpl).weak fun σ H R => by
  rintro ⟨M, h, ρ, ds, h', r, rs, e, q⟩
  unfold zipB at e
  cases ef : g ρ h with
  | none => rw [ef] at e; cases e
  | some p =>
    obtain ⟨ws, h1⟩ := p
    rw [ef] at e
    simp only [obnd_some] at e
    split at e
    · cases e
      refine ⟨M, h, ρ, r, rs, _, _, ef, fun M1 H1 v x1 r1 v1 => ?_⟩
      obtain ⟨v, v', rfl, rv, rv'⟩ := rvs2 v1
      cases (show RD M1 H1 v _ from rv) with
      | lst n ha qa =>
        cases (show RD M1 H1 v' _ from rv') with
        | lst n' hb qb => exact ⟨_, _, _, _, rfl, .inl ⟨.of ha, .of hb, q M1 H1 _ x1 r1 (itb_zip n ha qa n' hb qb)⟩⟩
    · cases e
      refine ⟨M, h, ρ, r, rs, _, _, ef, fun M1 H1 v x1 r1 v1 => ?_⟩
      obtain ⟨v, v', rfl, rv, rv'⟩ := rvs2 v1
      cases (show RD M1 H1 v _ from rv) with
      | tup n ha qa =>
        cases (show RD M1 H1 v' _ from rv') with
        | tup n' hb qb => exact ⟨_, _, _, _, rfl, .inr ⟨ha.sq, hb.sq, q M1 H1 _ x1 r1 (itb_zipT n ha qa n' hb qb)⟩⟩
    · cases e
theorem lc_impB {gi : IM} {k : TM} {t : BM} {f : EM} {ts vs : List Nat} {m : Bool} (hs : ∀ j ∈ ts, j ∈ vs) : ∀ σ H Q, tE (fLc m gi k t f vs) σ H Q → tLc (tIB gi) (tGB ts k) (tT t) (tE f) vs σ H Q := fun σ H Q => by
  rintro ⟨M, h, ρ, r, rs, c⟩
  obtain ⟨ds, h1, e1, c1⟩ := Cont.bind (δ := Unit) c
  refine ⟨M, h, ρ, ds, h1, r, rs, e1, fun M1 H1 J x1 r1 it D nD => ?_⟩
  obtain ⟨out, h2, e2, c2⟩ := Cont.bind (δ := Unit) (c1 M1 H1 x1)
  have x0 := ext_made (M := M1) (o := .lst []) nD
  have r0 := r1.make (o := .lst []) nD
  have rs0 : RS (M1.made D) (upd H1 D (.lst [])) (wipeE ρ vs) (L2.wipe σ vs) := ((rs.mono x1).moveu x0 rfl).wipe vs
  let P : Nat → Hp → Prop := fun i Hi => ∃ mi hi acc dacc rest, ExtE M1 ⟨M1.u, mi⟩ H1 Hi ∧ Rep ⟨D :: M1.u, mi⟩ Hi hi ∧ RS ⟨D :: M1.u, mi⟩ Hi (wipeE ρ vs) (L2.wipe σ vs) ∧ Hi D = some (.lst acc) ∧ RDs ⟨D :: M1.u, mi⟩ Hi acc dacc ∧ lcL k t f (wipeE ρ vs) (ds.drop i) hi = some (rest, h2) ∧ dacc ++ rest = out
  have outlen : out.length ≤ sizeLine := by
    have c3 := c2 M1 H1 (.refl _ _)
    by_cases hz : out.length ≤ sizeLine
    · exact hz
    · rw [if_neg hz] at c3; exact c3.no.elim
  refine ⟨fun i n Hi => n + i = ds.length ∧ P i Hi, ⟨ds.length, by omega, M1.m, h1, [], [], out, (ExtE.refl M1 H1).beside nD, r0, rs0, upd_same, .nil, by rw [List.drop_zero]; exact e2, rfl⟩, fun i n Hi w => ?_⟩
  obtain ⟨hn, mi, hi, acc, dacc, rest, xi, ri, rsi, hD, qa, el, eo⟩ := w
  have inD : D ∈ (⟨D :: M1.u, mi⟩ : Mm).u := List.mem_cons_self
  have itx := xi.into nD
  obtain ⟨ity, its⟩ := it _ Hi itx fun a ha => ri.tracked ha
  by_cases hlt : i < ds.length
  · refine .inr ?_
    have ed : ds[i]? = some ds[i] := List.getElem?_eq_getElem hlt
    obtain ⟨go, yl⟩ := ity i _ ed
    rw [List.drop_eq_getElem_cons hlt] at el
    refine ⟨go, P (i + 1), fun H' p => ⟨n - 1, by omega, by omega, p⟩, fun x H2 hy => ?_⟩
    obtain ⟨sm, rx⟩ := yl x H2 hy
    obtain ⟨ri2, xi2⟩ := ri.grow sm
    unfold lcL at el
    split at el
    · rename_i ρ1 ek
      refine ⟨_, hi, wipeE ρ vs, ds[i], ρ1, ri2, rsi.mono xi2, rx, ek, fun σ2 rs2 l2 o2 => ⟨wipe_of (by rw [l2, L2.wipe_length]) o2 hs, ?_⟩⟩
      cases et : t ρ1 hi with
      | none => rw [et] at el; cases el
      | some pr =>
        obtain ⟨b, h3⟩ := pr
        rw [et] at el
        simp only [obnd_some] at el
        refine ⟨_, hi, ρ1, ri2, rs2, b, h3, et, fun M3 H3 b' x3 r3 eb => ?_⟩
        subst eb
        obtain ⟨u3, m3⟩ := M3
        obtain rfl : u3 = D :: M1.u := x3.same
        have xi3 : ExtE M1 ⟨M1.u, m3⟩ H1 H3 := xi.trans ((xi2.trans x3).reu M1.u)
        have hD3 : H3 D = some (.lst acc) := x3.stab _ _ (sm _ _ hD) fun z => (ri.us D inD).1 z
        cases b' with
        | false =>
          simp only [Bool.false_eq_true, if_false] at el
          exact iteF ⟨m3, h3, acc, dacc, rest, xi3, r3, (rsi.mono xi2).mono x3, hD3, (qa.mono xi2.ext).mono x3.ext, el, eo⟩
        | true =>
          simp only [if_true] at el
          refine iteT ?_
          cases ef : f ρ1 h3 with
          | none => rw [ef] at el; cases el
          | some pr =>
            obtain ⟨w, h4⟩ := pr
            rw [ef] at el
            simp only [obnd_some] at el
            refine ⟨_, h3, ρ1, r3, rs2.mono x3, w, h4, ef, fun M4 H4 y x4 r4 ry => ?_⟩
            obtain ⟨u4, m4⟩ := M4
            obtain rfl : u4 = D :: M1.u := x4.same
            have hD4 : H4 D = some (.lst acc) := x4.stab _ _ hD3 fun z => (r3.us D List.mem_cons_self).1 z
            split at el
            · rename_i d'
              cases er : lcL k t f (wipeE ρ vs) (ds.drop (i + 1)) h4 with
              | none => rw [er] at el; cases el
              | some pr =>
                obtain ⟨rest', h5⟩ := pr
                rw [er] at el
                simp only [obnd_some, Option.some.injEq, Prod.mk.injEq] at el
                obtain ⟨e5, e6⟩ := el
                subst e5 e6
                have q4 := ((qa.mono xi2.ext).mono x3.ext).mono x4.ext
                have hlen : acc.length < sizeLine := by
                  have h7 := congrArg List.length eo
                  rw [List.length_append, List.length_cons] at h7
                  rw [qa.length]; omega
                have in4 : D ∈ (⟨D :: M1.u, m4⟩ : Mm).u := List.mem_cons_self
                exact ⟨acc, hD4, hlen, m4, h4, acc ++ [y], dacc ++ [d'], rest', (xi3.trans (x4.reu M1.u)).beside nD, r4.off in4, (((rsi.mono xi2).mono x3).mono x4).off in4, upd_same, (q4.off in4).app (.cons (RD.off in4 ry) .nil), er, by rw [List.append_assoc]; exact eo⟩
            · cases el
    · cases el
  · refine .inl ?_
    have hi' : i = ds.length := by omega
    subst hi'
    rw [List.drop_length] at el
    cases el
    rw [List.append_nil] at eo
    subst eo
    refine ⟨its, ?_⟩
    have c3 := c2 M1 H1 (.refl _ _)
    rw [if_pos outlen] at c3
    have nu : D ∉ M1.u := fun z => r1.new nD (.inl z)
    have nm : some D ∉ mi := (ri.us D inD).1
    cases m with
    | false =>
      exact c3.fin xi ri.told (RD.lst (fun z => z.elim nu nm) hD (qa.sub less_has))
    | true =>
      refine c3.fin (M' := ⟨M1.u, mi ++ [some D]⟩) ⟨rfl, xi.trk, xi.stab, fun a z => ?_, Nat.le_trans xi.len (by simp), fun j hj => ?_⟩ (ri.owned nu ⟨acc, hD, qa⟩) ⟨D, ?_, rfl⟩
      · rcases List.mem_append.mp z with z | z
        · exact xi.fresh a z
        · have : a = D := by simpa using z
          rw [this]; exact .inr nD
      · have hl : j < mi.length := Nat.lt_of_lt_of_le hj xi.len
        show (mi ++ [some D])[j]? = _
        rw [List.getElem?_append_left hl]; exact xi.pre j hj
      · show (mi ++ [some D])[h2.length]? = _
        rw [← show mi.length = h2.length from ri.len]; simp
section
variable {X : Cx}
theorem d_lcB (m : Bool) {elt tg iter : Expr} {ifs : List Expr} {scope : Scope} {own : List (Str × Nat)} {pos : Pos} {gi : IM} {ts : List Nat} {k : TM} {t : BM} {f : EM} (hc : X.calm = true) (hN : X.N.Nodup) (hi : DIB X tg iter gi) (ok : BlkOk X.N X.env.scope scope own)
    (hg : ∀ (s : Shared) (H : Hp) (C : Addr) (cl : List (Str × Addr)) (fp : List Addr), DGB (X.blk s H scope (compEnvC scope cl C X.env) fp) tg ts k) (ht : ∀ (s : Shared) (H : Hp) (C : Addr) (cl : List (Str × Addr)) (fp : List Addr), DTs (X.blk s H scope (compEnvC scope cl C X.env) fp) ifs t)
    (he : ∀ (s : Shared) (H : Hp) (C : Addr) (cl : List (Str × Addr)) (fp : List Addr), DE (X.blk s H scope (compEnvC scope cl C X.env) fp) elt f) (hsub : ∀ j ∈ ts, j ∈ own.map (·.2)) (hs : ∀ x, foldedSetIterable iter X.env x = pure x := by intro _; rfl) :
    DE X (.ListComp elt [⟨tg, iter, ifs, 0⟩] scope pos) (fLc m gi k t f (own.map (·.2))) := (pe_lc hc hN hi ok hg ht he hs).weak (lc_impB hsub)
end
mutual
def noD : D → Bool
  | .tuple ds => noDs ds
  | .list ds => noDs ds
  | .dict _ => false
  | _ => true
def noDs : List D → Bool
  | [] => true
  | d :: ds => noD d && noDs ds
end
def noDk : List (D × D) → Bool
  | [] => true
  | (_, d) :: es => noD d && noDk es
def noDM : Option MO → Bool
  | some (.lst ds) => noDs ds
  | some (.dic es) => noDk es
  | some (.dit es) => noDk es
  | some (.ins _ _) => false
  | _ => true
section
variable {M : Mm} {H : Hp} {d : Addr} {o : Obj} {u : HO} {kvs0 : List (Key × V)}
mutual
theorem RD.lock (hd : H d = some (.dK kvs0)) : ∀ {v : V} {x : D}, RD M H v x → noD x = true → RD M (upd H d u) v x
  | _, _, .non, _ => .non
  | _, _, .bl b, _ => .bl b
  | _, _, .int i, _ => .int i
  | _, _, .str s, _ => .str s
  | _, _, .tup n e r, h => .tup n (e.to fun _ q => by
      rw [upd_ne]; exact q
      rintro rfl
      rcases e with ⟨_, e⟩ | ⟨_, o, _, e⟩ <;> rw [hd] at e <;> cases e) (RDs.lock hd r (by simpa [noD] using h))
  | _, _, .lst n e r, h => .lst n (by
      rw [upd_ne]; exact e
      rintro rfl
      rw [hd] at e; cases e) (RDs.lock hd r (by simpa [noD] using h))
  | _, _, .dic n e r, h => by simp [noD] at h
  | _, _, .dit n e r, h => by simp [noD] at h
theorem RDs.lock (hd : H d = some (.dK kvs0)) : ∀ {v : List V} {x : List D}, RDs M H v x → noDs x = true → RDs M (upd H d u) v x
  | _, _, .nil, _ => .nil
  | _, _, .cons a r, h => by
    simp only [noDs, Bool.and_eq_true] at h
    exact .cons (RD.lock hd a h.1) (RDs.lock hd r h.2)
end
theorem RDk.lock (hd : H d = some (.dK kvs0)) : ∀ {v : List (Key × V)} {x : List (D × D)}, RDk M H v x → noDk x = true → RDk M (upd H d u) v x
  | _, _, .nil, _ => .nil
  | _, _, .cons a r, h => by
    simp only [noDk, Bool.and_eq_true] at h
    exact .cons (RD.lock hd a h.1) (RDk.lock hd r h.2)
theorem RDt.lock (hd : H d = some (.dK kvs0)) : ∀ {v : List KA} {x : List (D × D)}, RDt M H v x → noDk x = true → RDt M (upd H d u) v x
  | _, _, .nil, _ => .nil
  | _, _, .cons n e a r, h => by
    simp only [noDk, Bool.and_eq_true] at h
    exact .cons n (e.to fun _ q => by
      rw [upd_ne]; exact q
      rintro rfl
      rcases e with ⟨_, e⟩ | ⟨_, o, _, e⟩ <;> rw [hd] at e <;> cases e) (RD.lock hd a h.1) (RDt.lock hd r h.2)
theorem RO.lock (hd : H d = some (.dK kvs0)) (hn : ¬ M.Has d) {a : Addr} (ha : M.Has a) {m : MO} (r : RO M H a m) (h : noDM (some m) = true) : RO M (upd H d u) a m := by
  have ne : a ≠ d := fun z => hn (z ▸ ha)
  cases m with
  | lst ds => obtain ⟨xs, e, r⟩ := r; exact ⟨xs, by rw [upd_ne ne]; exact e, r.lock hd h⟩
  | dic ds => obtain ⟨xs, e, r⟩ := r; exact ⟨xs, by rw [upd_ne ne]; exact e, r.lock hd h⟩
  | dit ds => obtain ⟨xs, e, r⟩ := r; exact ⟨xs, by rw [upd_ne ne]; exact e, r.lock hd h⟩
  | ins C fs => cases h
  | tab q P =>
    obtain ⟨z, ps, e, t, r⟩ := r
    refine ⟨z, ps, by rw [upd_ne ne]; exact e, t, fun pos cv hc => ?_⟩
    obtain ⟨c, e1, n, e2⟩ := r pos cv hc
    refine ⟨c, e1, n, ?_⟩
    rw [upd_ne]; exact e2
    rintro rfl
    rw [hd] at e2; cases e2
theorem Rep.lock {h : Hh} (r : Rep M H h) (hd : H d = some (.dK kvs0)) (hn : ¬ M.Has d) (hk : h.all noDM = true) : Rep M (upd H d u) h :=
  ⟨fun a m => ⟨(r.us a m).1, let ⟨w, e, ht⟩ := (r.us a m).2; ⟨w, by rw [upd_ne (fun z => hn (.inl (by rw [← z]; exact m)))]; exact e, ht⟩⟩, r.len, r.inj, fun i a e => by
    obtain ⟨m, hm, ro⟩ := r.at_ i a e
    exact ⟨m, hm, ro.lock hd hn (.inr (List.mem_of_getElem? e)) (List.all_eq_true.mp hk _ (List.mem_of_getElem? hm))⟩, r.dead⟩
end
section
variable {X : Cx}
theorem RDk.get {M : Mm} {H : Hp} : ∀ {kvs : List (Key × V)} {es : List (D × D)} {i : Nat} {e : D × D}, RDk M H kvs es → es[i]? = some e → ∃ k v, kvs[i]? = some (k, v) ∧ e.1 = kP k ∧ RD M H v e.2
  | _, _, _, _, .nil, e => by simp at e
  | _, _, 0, _, .cons r t, e => by simp at e; subst e; exact ⟨_, _, rfl, rfl, r⟩
  | _, _, i + 1, _, .cons r t, e => by
    obtain ⟨k, v, h1, h2⟩ := RDk.get (i := i) t (by simpa using e)
    exact ⟨k, v, by simpa using h1, h2⟩
end
end DL
set_option maxRecDepth 100000
set_option maxHeartbeats 1000000
namespace DL
open PySem PySem.Spec PyProof.Rows L2
variable [HW]
section
variable {X : Cx}
theorem RDk.vals {M : Mm} {H : Hp} : ∀ {kvs : List (Key × V)} {es : List (D × D)}, RDk M H kvs es → RDs M H (kvs.map (·.2)) (es.map (·.2))
  | _, _, .nil => .nil
  | _, _, .cons r t => .cons r t.vals
end
end DL
set_option maxRecDepth 100000
set_option maxHeartbeats 1000000
namespace DL
open PySem PySem.Spec PyProof.Rows L2
variable [HW]
end DL
set_option maxRecDepth 100000
set_option maxHeartbeats 1000000
namespace DL
open PySem PySem.Spec PyProof.Rows L2
variable [HW]
end DL
set_option maxRecDepth 100000
set_option maxHeartbeats 1000000
namespace DL
open PySem PySem.Spec PyProof.Rows L2
variable [HW]
end DL
set_option maxRecDepth 100000
set_option maxHeartbeats 1000000
namespace DL
open PySem PySem.Spec PyProof.Rows L2
variable [HW]
end DL
set_option maxRecDepth 100000
namespace DL
open PySem PySem.Spec PyProof.Rows L2
variable [HW]
theorem lookup_relabel {env : PySem.Env} : ∀ {names : List (Str × NameKind)} {x : Str}, names.lookup x = some .cell ∨ names.lookup x = some .free →
    (names.map fun (n, k) => if (k == NameKind.free && env.scope.kind == .function && env.kindOf n == some .cell) then (n, NameKind.cell) else (n, k)).lookup x = some .cell ∨
    (names.map fun (n, k) => if (k == NameKind.free && env.scope.kind == .function && env.kindOf n == some .cell) then (n, NameKind.cell) else (n, k)).lookup x = some .free
  | [], _, h => by simp at h
  | (n, k) :: r, x, h => by
    have ih := @lookup_relabel env r x
    rw [List.map_cons]
    show List.lookup x ((if (k == NameKind.free && env.scope.kind == .function && env.kindOf n == some .cell) = true then (n, NameKind.cell) else (n, k)) :: _) = _ ∨ List.lookup x ((if (k == NameKind.free && env.scope.kind == .function && env.kindOf n == some .cell) = true then (n, NameKind.cell) else (n, k)) :: _) = _
    cases hx : x == n with
    | true =>
      simp only [List.lookup_cons, hx] at h
      by_cases hc : (k == NameKind.free && env.scope.kind == .function && env.kindOf n == some .cell) = true
      · rw [if_pos hc]; left; simp only [List.lookup_cons, hx]
      · rw [if_neg hc]; simp only [List.lookup_cons, hx]; exact h
    | false =>
      simp only [List.lookup_cons, hx] at h
      by_cases hc : (k == NameKind.free && env.scope.kind == .function && env.kindOf n == some .cell) = true
      · rw [if_pos hc]; simp only [List.lookup_cons, hx]; exact ih h
      · rw [if_neg hc]; simp only [List.lookup_cons, hx]; exact ih h
theorem blk_re {N : List Str} {sc scope : Scope} {own : List (Str × Nat)} {env : PySem.Env} (h : BlkOk N sc scope own) : BlkOk N (relabel sc env) scope own :=
  ⟨h.kind, h.uniq, h.ix, fun y hy e => lookup_relabel (h.free y hy e), h.own⟩
end DL
set_option maxRecDepth 100000
set_option maxHeartbeats 1000000
namespace DL
open PySem PySem.Spec PyProof.Rows L2
variable [HW]
end DL
set_option maxRecDepth 100000
set_option maxHeartbeats 1000000
namespace DL
open PySem PySem.Spec PyProof.Rows L2
variable [HW]
end DL
set_option maxRecDepth 100000
set_option maxHeartbeats 1000000
namespace DL
open PySem PySem.Spec PyProof.Rows L2
variable [HW]
section
variable {X : Cx} {M : Mm} {H : Hp}
def insF (C : Addr) (w : W) (h : Hh) : Option (List (Str × D)) := match w with
  | .ins C' fs => if C' = C then some fs else none
  | .ref n => match h[n]? with
    | some (some (.ins C' fs)) => if C' = C then some fs else none
    | _ => none
  | _ => none
def fFld (C : Addr) (f : Str) (g : EM) : EM := fun ρ h => obnd (g ρ h) fun w h1 => match insF C w h1 with
  | some fs => match fs.lookup f with
    | some d => some (.dat d, h1)
    | none => none
  | none => none
def fMeth (C : Addr) (m : Str) (mm : FM) (go : EM) (ga : AM) : EM := fun ρ h => obnd (go ρ h) fun w h1 => match insF C w h1 with
  | some fs => match fs.lookup m with
    | some _ => none
    | none => obnd (ga ρ h1) fun ws h2 => mm (w :: ws) h2
  | none => none
def fMk (C : Addr) (mi : FM) (ga : AM) : EM := fun ρ h => obnd (ga ρ h) fun ws h1 => match mi (.ref h1.length :: ws) (h1 ++ [some (.ins C [])]) with
  | some (.dat .none, h2) => match h2[h1.length]? with
    | some (some (.ins C' fs)) => if C' = C then some (.ins C fs, h2.set h1.length none) else none
    | _ => none
  | _ => none
end
end DL
set_option maxRecDepth 100000
set_option maxHeartbeats 1000000
namespace DL
open PySem PySem.Spec PyProof.Rows L2
variable [HW]
end DL
set_option maxRecDepth 100000
set_option maxHeartbeats 1000000
namespace DL
open PySem PySem.Spec PyProof.Rows L2
variable [HW]
end DL
set_option maxRecDepth 100000
set_option maxHeartbeats 1000000
namespace DL
open PySem PySem.Spec PyProof.Rows L2
variable [HW]
end DL
set_option maxRecDepth 100000
set_option maxHeartbeats 1000000
namespace DL
open PySem PySem.W PySem.Calls PyProof.Rows PyProof.V PySem.Spec
variable [HW]
end DL
set_option maxRecDepth 100000
set_option maxHeartbeats 1000000
namespace DL
open PySem PySem.Spec PyProof.Rows L2
variable [HW]
end DL
set_option maxRecDepth 100000
set_option maxHeartbeats 1000000
namespace DL
open PySem PySem.Spec PyProof.Rows L2
variable [HW]
end DL
set_option maxRecDepth 100000
set_option maxHeartbeats 1000000
namespace DL
open PySem PySem.Spec PyProof.Rows L2
variable [HW]
end DL
set_option maxRecDepth 100000
set_option maxHeartbeats 1000000
namespace DL
open PySem PySem.Spec PyProof.Rows L2
variable [HW]
def tabsO (os : List (Option (Str × Addr × Addr))) : Hh := os.map fun o => o.map fun t => .tab t.1 t.2.2
theorem inj_O : ∀ (os : List (Option (Str × Addr × Addr))), ((os.filterMap id).map (·.2.2)).Nodup → ∀ {i j : Nat} {t1 t2 : Str × Addr × Addr}, os[i]? = some (some t1) → os[j]? = some (some t2) → t1.2.2 = t2.2.2 → i = j
  | [], _, i, j, t1, t2, h1, _, _ => by simp at h1
  | none :: os, nd, i, j, t1, t2, h1, h2, e => by
    cases i with
    | zero => simp at h1
    | succ i => cases j with
      | zero => simp at h2
      | succ j => exact congrArg (· + 1) (inj_O os nd (by simpa using h1) (by simpa using h2) e)
  | some t :: os, nd, i, j, t1, t2, h1, h2, e => by
    have nd' : (t.2.2 :: (os.filterMap id).map (·.2.2)).Nodup := nd
    obtain ⟨n1, n2⟩ := List.nodup_cons.mp nd'
    have inn : ∀ {k : Nat} {u : Str × Addr × Addr}, os[k]? = some (some u) → u.2.2 ∈ (os.filterMap id).map (·.2.2) := fun {k u} hk => List.mem_map.mpr ⟨u, List.mem_filterMap.mpr ⟨some u, List.mem_of_getElem? hk, rfl⟩, rfl⟩
    cases i with
    | zero => cases j with
      | zero => rfl
      | succ j =>
        simp at h1 h2
        subst h1
        exact (n1 (e ▸ inn h2)).elim
    | succ i => cases j with
      | zero =>
        simp at h1 h2
        subst h2
        exact (n1 (e ▸ inn h1)).elim
      | succ j => exact congrArg (· + 1) (inj_O os n2 (by simpa using h1) (by simpa using h2) e)
omit [HW] in
theorem walk_gO {l : PySem.W.OpenLaw} {k : Nat} {q : Program} {loose : List Str} {XP : (Str → Option Value) → Heap → Prop} {YP : World → Heap → Prop} {d : DefRec} {K : Params → PySem.W.Frag} {x : Str} {xs : List Str}
    (hn : l.most = some 63) (hdf : d.params.defaults = []) (hr : Room k callerA)
    (hY : ∀ (w : World) (h : Heap), YP w h → (K w.params).In h) (hnl : ∀ w : World, noList (K w.params) = true) (hrec : ∀ x ∈ xs, ((recsOf q).find? fun e => e.name == x).isSome = true)
    (F : ∀ (w : World) (mg : Str → Option Value) (fa : Addr) (h : Heap), (K w.params).In h → h.Ns mainGlobals mg → mg d.name = some (.ref fa) →
      ∃ (fd : FuncData) (os : List (Option (Str × Addr × Addr))) (m : FM), (∀ (s : Shared) (u : Value), BindsTo s fd ⟨[u], []⟩ [(x, u)]) ∧ (∀ t ∈ os.filterMap id, (∃ y ∈ xs, PySem.W.tabIn (K w.params) y = some (t.2.1, t.2.2)) ∧ (K w.params).lookup t.2.2 = none) ∧ ((os.filterMap id).map (·.2.2)).Nodup ∧
        (∀ base : Heap, (K w.params).In base → base.Ns mainGlobals mg → (∀ t ∈ os.filterMap id, LamX.TabB base mg t.2.1 t.2.2) → FnG l.prog w (K w.params) mg base CX0 k fa fd [x] (@spD (HW.mk l.prog w) m)) ∧
        ∀ ns : List Int, ns.length ≤ 63 → ∃ h', m [.scr ns] (tabsO os) = some (.dat (.bool true), h')) :
    PySem.W.WalkO q loose XP YP l.row.toRowW d [] (fun f vs => PySem.call f vs) := by
  apply Att.attach_call hn hdf
  intro w s₀ s₁ mg mb fa o pm cd doc a vs ns G Y ho hd hcd hmg hobj hints hlen hg
  letI : HW := HW.mk l.prog w
  have KX := hY w _ Y
  obtain ⟨fd, os, m, hb, hts, hnd, hF, hm⟩ := F w mg fa _ KX G.T.g hmg
  generalize hos : os.filterMap id = ts at hts hnd hF
  have hka : (K w.params).lookup a = none := by
    cases e : (K w.params).lookup a with
    | none => rfl
    | some u =>
      exfalso
      have e1 := KX a u e
      rw [hobj] at e1
      cases e1
      have := List.all_eq_true.mp (hnl w) _ (lookup_mem e)
      cases this
  have hT : ∀ p ∈ ts.map (·.2), PySem.W.CodeHd s₁.heap p.1 p.2 ∧ s₁.heap.get? p.2 = some { cls := .none, data := .fields #[] } := by
    intro p hp
    obtain ⟨t, ht, rfl⟩ := List.mem_map.mp hp
    obtain ⟨⟨y, hy, e⟩, _⟩ := hts t ht
    obtain ⟨dr, hdr⟩ := Option.isSome_iff_exists.mp (hrec y hy)
    exact PySem.W.tab_of G.T KX hdr e
  have nT : ∀ p ∈ ts.map (·.2), (K w.params).lookup p.2 = none := by
    intro p hp
    obtain ⟨t, ht, rfl⟩ := List.mem_map.mp hp
    exact (hts t ht).2
  refine law_gT (sp := spD m) (cs := ts.map (·.2)) KX G.T.g G.T.b G.T.builtins G.T.nolimit hg hT nT G.T.bmain hobj hints (Nat.le_trans hlen (by decide)) hr (fun base kb nb TB => hF base kb nb fun t ht => TB t.2 (List.mem_map.mpr ⟨t, ht, rfl⟩)) hb hka ?_
  intro H ha hH hna
  obtain ⟨ob, ha⟩ := ha
  obtain ⟨h', e⟩ := hm ns hlen
  have at_ : ∀ (i : Nat) (b : Addr), (os.map fun o => o.map fun t => t.2.2)[i]? = some (some b) → ∃ t, os[i]? = some (some t) ∧ t.2.2 = b ∧ t ∈ ts := by
    intro i b z
    rw [List.getElem?_map] at z
    cases y : os[i]? with
    | none => rw [y] at z; cases z
    | some o =>
      cases o with
      | none => rw [y] at z; simp at z
      | some t =>
        rw [y] at z; simp at z
        exact ⟨t, rfl, z, by rw [← hos]; exact List.mem_filterMap.mpr ⟨some t, List.mem_of_getElem? y, rfl⟩⟩
  have rep : Rep ⟨[], os.map fun o => o.map fun t => t.2.2⟩ H (tabsO os) := by
    refine ⟨fun a z => (by cases z), by simp [tabsO], fun i j b z1 z2 => ?_, fun i b z => ?_, fun i z => ?_⟩
    · obtain ⟨t1, y1, e1, _⟩ := at_ i b z1
      obtain ⟨t2, y2, e2, _⟩ := at_ j b z2
      exact inj_O os (by rw [hos]; exact hnd) y1 y2 (e1.trans e2.symm)
    · obtain ⟨t, y, rfl, ht⟩ := at_ i b z
      refine ⟨.tab t.1 t.2.2, by simp [tabsO, y], rfl, #[], hH t.2 (List.mem_map.mpr ⟨t, ht, rfl⟩), trivial, fun pos cv hc => ?_⟩
      have z : codeAmong pos [] = some cv := hc
      simp [codeAmong] at z
    · have z' : (os.map fun o => o.map fun t => t.2.2)[i]? = some none := z
      rw [List.getElem?_map] at z'
      cases y : os[i]? with
      | none => rw [y] at z'; cases z'
      | some o =>
        cases o with
        | none => simp [tabsO, y]
        | some t => rw [y] at z'; simp at z'
  have nh : ¬ Mm.Has ⟨[], os.map fun o => o.map fun t => t.2.2⟩ a := fun z => by
    rcases z with z | z
    · cases z
    · obtain ⟨o, ho, e⟩ := List.mem_map.mp (show some a ∈ os.map fun o => o.map fun t => t.2.2 from z)
      cases o with
      | none => cases e
      | some t =>
        apply hna
        rw [List.map_map]
        exact List.mem_map.mpr ⟨t, by rw [← hos]; exact List.mem_filterMap.mpr ⟨some t, ho, rfl⟩, Option.some.inj e⟩
  refine ⟨_, tabsO os, [.scr ns], rep, .cons ⟨a, ob, rfl, nh, ha⟩ .nil, .dat (.bool true), h', e, fun M' H' v _ _ r => ?_⟩
  cases (show RD M' H' v _ from r)
  rfl
section
variable {X : Cx}
def divBW := intW (fun _ j => decide (0 < j ∧ j < 1000000000000000000)) fun i j => i / j
theorem divBW_e (x y : W) (h : Hh) : divBW x y h = intW (fun _ j => decide (0 < j ∧ j < 1000000000000000000)) (fun i j => i / j) x y h := rfl
end
end DL
set_option maxRecDepth 100000
set_option maxHeartbeats 1000000
namespace DL
open PySem PySem.Spec PyProof.Rows L2
variable [HW]
end DL
set_option maxRecDepth 100000
set_option maxHeartbeats 1000000
namespace DL
open PySem PySem.Spec PyProof.Rows L2
variable [HW]
end DL
set_option maxRecDepth 100000
set_option maxHeartbeats 1000000
namespace DL
open PySem PySem.Spec PyProof.Rows L2
variable [HW]
end DL
set_option maxRecDepth 100000
set_option maxHeartbeats 400000
namespace DL
open PySem PySem.Spec PyProof.Rows L2
variable [HW]
abbrev Xc := Nat × Addr × List (Str × D)
def XR (M : Mm) (H : Hp) (cls : Value) (d : Option Addr) (x : Xc) : Prop := ∃ gs, cls = .ref x.2.1 ∧ XD M H d gs ∧ RF M H gs x.2.2
theorem XR.mono {M M' : Mm} {H H' : Hp} {cls : Value} {d : Option Addr} {x : Xc} (e : Ext M M' H H') : XR M H cls d x → XR M' H' cls d x
  | ⟨gs, q, y, z⟩ => ⟨gs, q, y.to (fun _ _ q n => e.out n q) fun _ _ q _ n => e.st n q, z.to fun _ _ => RD.mono e⟩
abbrev RE := Env → Hh → Option (Xc × Hh)
abbrev RM := Env → Hh → Option ((Env × Xc) × Hh)
def RPost (W : WX) (M0 : Mm) (H0 : Hp) : Option ((Env × Xc) × Hh) → Prop
  | some ((ρ, x), h) => ∀ M H σ cls d, M.u = M0.u → Ext M0 M H0 H → Rep M H h → RS M H ρ σ → XR M H cls d x → W cls d σ H
  | none => False
theorem RPost.mono {W : WX} {M0 M1 : Mm} {H0 H1 : Hp} {r : Option ((Env × Xc) × Hh)} (p : RPost W M0 H0 r) (u : M1.u = M0.u) (x : Ext M0 M1 H0 H1) : RPost W M1 H1 r := by
  match r, p with
  | some ((ρ, y), h), p => exact fun M H σ cls d e z => p M H σ cls d (e.trans u) (x.trans z)
end DL
set_option maxRecDepth 100000
set_option maxHeartbeats 400000
namespace DL
open PySem PySem.Spec PyProof.Rows L2
variable [HW]
abbrev FR := List W → Hh → Option (Xc × Hh)
theorem XR.sub {M M' : Mm} {H : Hp} {cls : Value} {d : Option Addr} {x : Xc} (s : ∀ b, M'.Has b → M.Has b) : XR M H cls d x → XR M' H cls d x
  | ⟨gs, q, y, z⟩ => ⟨gs, q, y.to (fun b _ _ n m => n (s b m)) (fun _ _ q _ _ => q), z.to fun _ _ => RD.sub s⟩
end DL
set_option maxRecDepth 100000
set_option maxHeartbeats 400000
namespace DL
open PySem PySem.Spec PyProof.Rows L2
variable [HW]
theorem all_cons {α : Type} {P : α → Prop} {a : α} {l : List α} (h : P a) (t : ∀ x ∈ l, P x) : ∀ x ∈ a :: l, P x := fun x m => by
  rcases List.mem_cons.mp m with rfl | m
  · exact h
  · exact t x m
end DL
set_option maxRecDepth 100000
set_option maxHeartbeats 400000
namespace DL
open PySem PySem.Spec PyProof.Rows L2
variable [HW]
section
variable {X : Cx} {a : Addr} {pn pins : List (Addr × Obj)} {σ : L2.St} {H : Hp} {s : Shared} {E : Value → Shared → Prop}
structure EC (K : PySem.W.Frag) (C : Addr) : Prop where
  hg : PySem.W.findIn K (.ref C) "__getattribute__" = some (some (.builtin "BaseException.__getattribute__"))
  hk : PySem.W.findIn K (.ref C) "__getattr__" = some none
  hs : PySem.W.subIn K (.ref C) (.type "BaseException") = some true
  hd : PySem.W.hasDictIn K C = true
  ha : PySem.W.findIn K (.ref C) "__class__" = some (some (.builtin "object.__class__"))
  hn : PySem.W.specialIn K (.builtin "object.__class__") "__get__" = some (some (.builtin "getset_descriptor.__get__"))
  ht : PySem.W.takesIn K (.builtin "object.__class__") = some true
  hm : PySem.W.mroIn K C (.type "object") = some true
theorem EC.cl {K : PySem.W.Frag} {C : Addr} (e : EC K C) : (PySem.W.clsIn K C).isSome = true := by
  obtain ⟨cd, hc, _⟩ := PySem.W.any_some e.hd
  rw [hc]; rfl
end
section
variable {X : Cx} {e : Expr} {f : EM} {p pt pos : Pos} {ks : List (Nat × Addr)} {ys : List Nat}
inductive ClsPA (X : Cx) : List Expr → List V → List Value → Prop
  | nil : ClsPA X [] [] []
  | cons {x : Str} {np : Pos} {C : Addr} {es : List Expr} {cs : List V} {us : List Value} : X.mg x = some (.ref C) → ClsPA X es cs us → (hg : Gl X x := by rfl) → (hd : (x == ("__debug__" : Str)) = false := by decide) →
      (hs : starEach (.Name x np :: es) X.env = (false, eval (.Name x np) X.env) :: starEach es X.env := by rfl) → ClsPA X (.Name x np :: es) (.ref C :: cs) (.ref C :: us)
  | consB {x : Str} {np : Pos} {T : String} {es : List Expr} {cs : List V} {us : List Value} : X.mg x = none → bootBuiltins x = some (.type T) → ClsPA X es cs us → (hg : Gl X x := by rfl) → (hn : x ≠ "__name__" := by decide) → (hd : (x == ("__debug__" : Str)) = false := by decide) →
      (hs : starEach (.Name x np :: es) X.env = (false, eval (.Name x np) X.env) :: starEach es X.env := by rfl) → ClsPA X (.Name x np :: es) (.ty T :: cs) (.type T :: us)
theorem ClsPA.cv : ∀ {es : List Expr} {cs : List V} {us : List Value}, ClsPA X es cs us → Paired ClsV cs us
  | _, _, _, .nil => .nil
  | _, _, _, .cons _ t _ _ _ => .cons (.own _) t.cv
  | _, _, _, .consB _ _ t _ _ _ _ => .cons (.ty _) t.cv
end
end DL
set_option maxRecDepth 100000
set_option maxHeartbeats 400000
namespace DL
open PySem PySem.Spec PyProof.Rows L2
variable [HW]
end DL
set_option maxRecDepth 100000
set_option maxHeartbeats 400000
namespace DL
open PySem PySem.Spec PyProof.Rows L2
variable [HW]
end DL
set_option maxRecDepth 100000
set_option maxHeartbeats 1000000
namespace DL
open PySem PySem.Spec PyProof.Rows L2
variable [HW]
end DL
set_option maxRecDepth 100000
set_option maxHeartbeats 4000000
namespace DL
open PySem PySem.Spec PyProof.Rows L2
variable [HW]
end DL
set_option maxRecDepth 100000
set_option maxHeartbeats 4000000
namespace DL
open PySem PySem.Spec PyProof.Rows L2
variable [HW]
end DL
set_option maxRecDepth 100000
set_option maxHeartbeats 4000000
namespace DL
open PySem PySem.Spec PyProof.Rows L2
variable [HW]
end DL
set_option maxRecDepth 100000
set_option maxHeartbeats 1000000
namespace DL
open PySem PySem.Spec PyProof.Rows L2
variable [HW]
end DL
set_option maxRecDepth 100000
set_option maxHeartbeats 4000000
namespace DL
open PySem PySem.Spec PyProof.Rows L2
variable [HW]
end DL
set_option maxRecDepth 100000
set_option maxHeartbeats 4000000
namespace DL
open PySem PySem.Spec PyProof.Rows L2
variable [HW]
end DL
set_option maxRecDepth 100000
set_option maxHeartbeats 4000000
namespace DL
open PySem PySem.Spec PyProof.Rows L2
variable [HW]
end DL
set_option maxRecDepth 100000
set_option maxHeartbeats 1000000
namespace DL
open PySem PySem.Spec PyProof.Rows L2
variable [HW]
section
variable {X : Cx}
theorem reads_txt2 {h : Heap} : ∀ {us : List Value} {l : List Str}, us.length = l.length → (∀ (i : Nat) (s : Str), l[i]? = some s → ∃ t, us[i]? = some (.str s t)) → ReadsAll h us (l.map .str) []
  | [], [], _, _ => .nil
  | [], _ :: _, e, _ => by simp at e
  | _ :: _, [], e, _ => by simp at e
  | u :: us, s :: l, e, q => by
    obtain ⟨t, ht⟩ := q 0 s rfl
    have hu : u = .str s t := by simpa using ht
    subst hu
    exact .cons (as := []) (bs := []) (.str s t) (reads_txt2 (by simpa using e) fun i z hz => by
      obtain ⟨t, ht⟩ := q (i + 1) z (by simpa using hz)
      exact ⟨t, by simpa using ht⟩)
def rReprD : List V → Hp → VK → Prop := fun xs H Q => ∃ (a : Addr) (l : List (Str × Str)), xs = [.ref a] ∧ H a = some (.dK (l.map fun p => (Sum.inr p.1, V.str p.2))) ∧ (PyData.dict (l.map fun p => (PyData.str p.1, PyData.str p.2))).showable = true ∧ (PyData.dict (l.map fun p => (PyData.str p.1, PyData.str p.2))).shown.length ≤ sizeLine ∧ Q (.str (PyData.dict (l.map fun p => (PyData.str p.1, PyData.str p.2))).shown) H
theorem depth_kv2 : ∀ l : List (Str × Str), PyData.depthKv (l.map fun p => (PyData.str p.1, PyData.str p.2)) = 0
  | [] => by simp [PyData.depthKv]
  | p :: l => by
    have ih := depth_kv2 l
    simp [PyData.depthKv, PyData.depth, ih]
theorem cr_reprD {k : Nat} (hr : RG k X.A) : CallR X (.builtin "repr") rReprD := by
  intro pins s σ H xs us Q I r h
  obtain ⟨a, l, rfl, ha, hs, hz, q⟩ := h
  obtain rfl := Vals.ref1 r
  obtain ⟨_, hsys, vs, rel, dof⟩ := dk_of I.hok ha
  obtain ⟨es, ep, ⟨o, ho, hc, hd⟩, hsz, at_⟩ := dof.raw
  have hlen : vs.length = l.length := by
    have := KV.length rel
    rw [List.length_map] at this
    omega
  have key : ∀ (i : Nat) (p : Str × Str), l[i]? = some p → ∃ (e : DictEntry) (t u : Tok), es.toList[i]? = some e ∧ e.key = .str p.1 t ∧ e.val = .str p.2 u := fun i p hp => by
    have hi : i < es.size := by rw [hsz, hlen]; exact lt_of_get hp
    have hv : i < vs.length := by rw [hlen]; exact lt_of_get hp
    obtain ⟨x, h1, h2⟩ := KV.at' (k := vs[i].1) (v := vs[i].2) rel (by rw [List.getElem?_eq_getElem hv])
    rw [List.getElem?_map, hp] at h1
    have h1' : ((Sum.inr p.1 : Key), V.str p.2) = (vs[i].1, x) := Option.some.inj h1
    injection h1' with e1 e2
    subst e2
    obtain ⟨h3, h4⟩ := at_ i hi vs[i].1 vs[i].2 (by rw [List.getElem?_eq_getElem hv])
    rw [← e1] at h3
    obtain ⟨t, ht⟩ : ∃ t, es[i].key = .str p.1 t := by
      rcases keyIs_shape (k := Sum.inr p.1) (v := es[i].key) (show keyIs (Sum.inr p.1) es[i].key = true from h3) with ⟨_, _, z, _⟩ | ⟨y, t, z, e⟩
      · exact nomatch z
      · cases z; exact ⟨t, e⟩
    obtain ⟨u, hu⟩ : ∃ u, vs[i].2 = .str p.2 u := h2
    exact ⟨es[i], t, u, by rw [Array.getElem?_toList, Array.getElem?_eq_getElem hi], ht, by rw [h4, hu]⟩
  have hel : es.toList.length = l.length := by rw [Array.length_toList, hsz, hlen]
  have rk : ReadsAll s.heap (es.toList.map (·.key)) ((l.map fun p => (PyData.str p.1, PyData.str p.2)).map (·.1)) [] := by
    have := reads_txt2 (h := s.heap) (us := es.toList.map (·.key)) (l := l.map (·.1)) (by rw [List.length_map, List.length_map, hel]) fun i z hz => by
      rw [List.getElem?_map] at hz
      obtain ⟨p, hp, rfl⟩ := Option.map_eq_some_iff.mp hz
      obtain ⟨e, t, u, e1, e2, e3⟩ := key i p hp
      exact ⟨t, by rw [List.getElem?_map, e1, Option.map_some, e2]⟩
    rw [List.map_map] at this ⊢
    exact this
  have rv : ReadsAll s.heap (es.toList.map (·.val)) ((l.map fun p => (PyData.str p.1, PyData.str p.2)).map (·.2)) [] := by
    have := reads_txt2 (h := s.heap) (us := es.toList.map (·.val)) (l := l.map (·.2)) (by rw [List.length_map, List.length_map, hel]) fun i z hz => by
      rw [List.getElem?_map] at hz
      obtain ⟨p, hp, rfl⟩ := Option.map_eq_some_iff.mp hz
      obtain ⟨e, t, u, e1, e2, e3⟩ := key i p hp
      exact ⟨u, by rw [List.getElem?_map, e1, Option.map_some, e3]⟩
    rw [List.map_map] at this ⊢
    exact this
  have rd : Reads s.heap (.ref a) (.dict (l.map fun p => (PyData.str p.1, PyData.str p.2))) [a] := .dict (as := []) (bs := []) ho hc.1 hd rk rv
  apply repr_of_reads' rd hs (fun _ => by
    rw [List.mem_singleton]
    intro e
    rw [← e] at hsys
    simp at hsys) hr.gd _ (fun _ _ e => e) _ hz
  · rw [PyData.depth, depth_kv2]
    have := hr.room.un; omega
  · intro h' u tk hk
    exact ⟨.str _, H, I.kept hk, ⟨u, rfl⟩, q⟩
def reprDW (ws : List W) (h : Hh) : Option (W × Hh) := match ws with
  | [w] => match deref h w with
    | some (.dict es) => if isT es = true then none else match rowS (es.map (·.1)), rowS (es.map (·.2)) with
      | some _, some _ => if ((PyData.dict es).showable && decide ((PyData.dict es).shown.length ≤ sizeLine)) = true then ok (.str (PyData.dict es).shown) h else none
      | _, _ => none
    | _ => none
  | _ => none
theorem rdk_txt {M : Mm} {H : Hp} : ∀ {kvs : List (Key × V)} {es : List (D × D)} {ks vs : List Str}, RDk M H kvs es → rowS (es.map (·.1)) = some ks → rowS (es.map (·.2)) = some vs → ∃ l : List (Str × Str), kvs = l.map (fun p => (Sum.inr p.1, V.str p.2)) ∧ es = l.map fun p => (PyData.str p.1, PyData.str p.2)
  | _, _, _, _, .nil, _, _ => ⟨[], rfl, rfl⟩
  | _, _, ks, vs, .cons (k := k) (d := d) r t, e1, e2 => by
    have m1 := rowS_map e1
    have m2 := rowS_map e2
    rw [List.map_cons] at m1 m2
    match ks, vs, m1, m2, e1, e2 with
    | a :: ks, b :: vs, m1, m2, e1, e2 =>
      rw [List.map_cons] at m1 m2
      injection m1 with a1 a2
      injection m2 with b1 b2
      have b1' : d = .str b := b1
      subst b1'
      obtain ⟨l, h1, h2⟩ := rdk_txt t (ks := ks) (vs := vs) (by rw [a2]; exact rowS_strs ks) (by rw [b2]; exact rowS_strs vs)
      cases k with
      | inl i => cases a1
      | inr s =>
        have a1' : PyData.str s = PyData.str a := a1
        cases r
        exact ⟨(s, b) :: l, by rw [h1]; rfl, by rw [h2]; rfl⟩
    | [], _, m1, _, _, _ => cases m1
    | _ :: _, [], _, m2, _, _ => cases m2
theorem s_reprD : SemA rReprD reprDW := by
  intro M H h vs ws Q rep rv c
  unfold reprDW at c
  split at c
  · obtain ⟨v, rfl, r⟩ := rvs1 rv
    split at c
    · rename_i es e
      split at c
      · exact c.no.elim
      · rename_i ht
        split at c
        · rename_i k1 k2 e1 e2
          split at c
          · rename_i hz
            rw [Bool.and_eq_true, decide_eq_true_eq] at hz
            rcases deref_rr rep r e with ⟨a, kvs, rfl, ha, q⟩ | ⟨a, kvs, es', rfl, rfl, ha, q⟩
            · obtain ⟨l, rfl, rfl⟩ := rdk_txt q e1 e2
              exact ⟨a, l, rfl, ha, hz.1, hz.2, c.here rep (.str _)⟩
            · exact absurd rfl ht
          · exact c.no.elim
        · exact c.no.elim
    · exact c.no.elim
  · exact c.no.elim
end
section
variable {X : Cx} {e : Expr} {p pos : Pos} {g : AM}
theorem d_reprD {k : Nat} (hr : RG k X.A) (hm : X.mg "repr" = none) (ha : DA X [e] g) (hg : Gl X "repr" := by rfl) (he : starEach [e] X.env = (false, eval e X.env) :: starEach [] X.env := by rfl) (hpl : (backTo pos (starEach [] X.env)).any (·.1) = false := by rfl) : DE X (.Call (.Name "repr" p) [e] [] pos) (fA reprDW g) :=
  d_callB (cr_reprD hr) s_reprD hm (by decide +kernel) ha hg (by decide) (by decide) he hpl
end
end DL
set_option maxRecDepth 100000
set_option maxHeartbeats 1000000
namespace PySem
section
variable {prog : Program} {w : World} {A : Around} {R : Result → Shared → Prop} {I : Addr} {fp wr : List Addr} {n : Nat} {P : Nat → Value → Prop} {St : Nat → Heap → Prop}
theorem entry_ci : entryFor table "proto.contains_iter" = some Builtin.«proto.contains_iter» := entryFor_of_fast (by kernel_rfl)
theorem plain_ci : plainId "proto.contains_iter" = true := by decide +kernel
theorem codeAny_ci (W : Walks prog w A.in1 I fp wr n P St) (x : Value) (tr : Nat → Bool) (htr : ∀ (i : Nat) (v : Value) (s : Shared) (Q : Bool → Shared → Prop) (E : Value → Shared → Prop), P i v → Q (tr i) s → wpAny (model prog w) A.in1 (eqBool v x) Q E s) : ∀ (k i : Nat) (s : Shared), n - i = k → i ≤ n → St i s.heap →
    (∀ h' tk, (∀ b o, b ∉ wr → s.heap.get? b = some o → h'.get? b = some o) → R (.ok (.ret (.bool (((List.range n).drop i).any tr)))) { s with heap := h', toks := tk }) →
    codeAny (model prog w) A (.builtin "proto.contains_iter" ⟨[.ref I, x], []⟩) R s := by
  intro k
  induction k with
  | zero =>
    intro i s hk hi hst hR
    have hin : i = n := by omega
    subst hin
    refine codeAny_builtin entry_ci ?_
    rw [Around.under_plainId plain_ci _]
    show wpAny _ A.in1 (pyNext (.ref I) >>= _) _ _ s
    refine wpAny_bind (W.done s _ _ hst fun h' tk hk' => ?_)
    refine wpAny_bind (wpAny_rule (wpAny_pure ?_))
    have := hR h' tk hk'
    rw [List.drop_of_length_le (by simp)] at this
    exact this
  | succ k ih =>
    intro i s hk hi hst hR
    have hlt : i < n := by omega
    have hd : (List.range n).drop i = i :: (List.range n).drop (i + 1) := by
      rw [List.drop_eq_getElem_cons (by simpa using hlt)]; simp
    refine codeAny_builtin entry_ci ?_
    rw [Around.under_plainId plain_ci _]
    show wpAny _ A.in1 (pyNext (.ref I) >>= _) _ _ s
    refine wpAny_bind (W.item i s _ _ hlt hst fun v h' tk hP hst' hk' => ?_)
    refine wpAny_bind (htr i v _ _ _ hP ?_)
    cases hb : tr i with
    | false =>
      simp only [Bool.false_eq_true, if_false]
      refine wpAny_pure ⟨plainId_quiet plain_ci _, ih (i + 1) _ (by omega) hlt hst' fun h'' tk'' hk'' => ?_⟩
      have := hR h'' tk'' fun b o hbw e => hk'' b o hbw (hk' b o hbw e)
      rw [hd, List.any_cons, hb, Bool.false_or] at this
      exact this
    | true =>
      simp only [if_true]
      refine wpAny_bind (wpAny_rule (wpAny_pure ?_))
      have := hR h' tk hk'
      rw [hd, List.any_cons, hb, Bool.true_or] at this
      exact this
end
section
variable {prog : Program} {w : World} {A : Around} {E : Value → Shared → Prop} {s : Shared}
open PySem.W in
theorem wpAny_contains_src {T : String} {r d : Addr} {n : Nat} {P : Nat → Value → Prop} {OK : Heap → Prop} {Q : Bool → Shared → Prop} (K : KdlSrc prog w T r d n P OK) (hh : A.handled = none) (hok : OK s.heap) (hl : typeLookup (.type T) "__contains__" = pure none)
    (x : Value) (tr : Nat → Bool) (htr : ∀ (i : Nat) (v : Value) (s : Shared) (Q : Bool → Shared → Prop) (E : Value → Shared → Prop), P i v → Q (tr i) s → wpAny (model prog w) A.in1 (eqBool v x) Q E s)
    (h : ∀ h' tk, (∀ b o, s.heap.get? b = some o → h'.get? b = some o) → Q ((List.range n).any tr) { s with heap := h', toks := tk }) : wpAny (model prog w) A (contains (.ref r) x) Q E s := by
  have hT := K.type s hok
  unfold contains
  refine wpAny_holding ?_
  rw [stdlibNamesSay?_of_typeIs hT]
  refine wpAny_bind (wpAny_specialOf hT hl ?_)
  show wpAny _ _ (if ((none : Option Value) == some Value.none) = true then _ else _) Q E s
  rw [if_neg (by simp)]
  refine wpAny_bind (wpAny_callSpecialUnlessNone?_none hT hl ?_)
  refine wpAny_bind (wpAny_rule ?_)
  obtain ⟨oI, St, hit, W, st⟩ := K.iter A.in1 s hh hok
  refine wpAny_bind (wpAny_tryCatch (wpAny_of_in1 (hit _ _ ?_)))
  refine wpAny_bind (wpAny_runValue (codeAny_ci W x tr htr n 0 _ rfl (Nat.zero_le _) st fun h' tk hk => ?_))
  rw [List.drop_zero]
  refine wpAny_pure ?_
  exact h h' tk fun b o e => hk b o (fun hm => absurd (Heap.lt_size e) (by rw [List.mem_singleton.mp hm]; exact Nat.lt_irrefl _)) (Heap.get?_push_of_some _ e)
theorem noci_values : typeLookup (.type "dict_values") "__contains__" = pure none := by kernel_rfl
end
end PySem
set_option maxRecDepth 100000
set_option maxHeartbeats 1000000
namespace DL
open PySem PySem.Spec PyProof.Rows L2
variable [HW]
section
variable {X : Cx}
def atV (x : V) (xs : List V) (i : Nat) : Bool := match xs[i]? with
  | some y => eqV y x
  | none => false
theorem any_at (x : V) (xs : List V) : (List.range xs.length).any (atV x xs) = inV x xs := by
  rw [Bool.eq_iff_iff]
  unfold inV
  rw [List.any_eq_true, List.any_eq_true]
  constructor
  · rintro ⟨i, hi, e⟩
    rw [List.mem_range] at hi
    unfold atV at e
    rw [List.getElem?_eq_getElem hi] at e
    exact ⟨_, List.getElem_mem hi, e⟩
  · rintro ⟨y, hy, e⟩
    obtain ⟨i, hi⟩ := List.getElem?_of_mem hy
    refine ⟨i, List.mem_range.mpr (lt_of_get hi), ?_⟩
    unfold atV
    rw [hi]
    exact e
theorem inVals_run (hc : X.calm = true) {o : Expr} {apos mpos : Pos} {td : TE} (hd : PE X o td) (hb : attributeBase o "values" X.env (eval o X.env) = eval o X.env) (hl : (apos.endLine == mpos.line) = true)
    {pins : List (Addr × Obj)} {σ : L2.St} {H : Hp} {s : Shared} (I : L2.Inv X pins σ H s) {x : V} {v : Value} (rx : L2.RelV x v) {Qv : V → Hp → Prop} {Q : Value → Shared → Prop}
    (h : td σ H fun y H2 => ∃ d kvs, y = .ref d ∧ H2 d = some (.dK kvs) ∧ flatV x = true ∧ (kvs.map (·.2)).all flatV = true ∧ Qv (.bl (inV x (kvs.map (·.2)))) H2) (hQ : ∀ (b : Bool) (H2 : Hp) (s' : Shared), L2.Inv X pins σ H2 s' → Qv (.bl b) H2 → Q (.bool b) s') :
    wpAny (model X.prog X.w) X.A (eval (.Call (.Attribute o "values" apos) [] [] mpos) X.env) (fun b s₂ => wpAny (model X.prog X.w) X.A (compareOp .In v b) Q X.xe s₂) X.xe s := by
  apply wpAny_Call_method0_late hb hl
  refine thn (hd.run pins s σ H _ I h) fun u s2 ⟨y, H2, I2, r2, d, kvs, ey, hdk, fx, fxs, q⟩ => ?_
  subst ey
  obtain rfl : u = Value.ref d := r2
  obtain ⟨hz, hsys, vs, rel, dof⟩ := dk_of I2.hok hdk
  obtain ⟨ep, dat⟩ := dof.dictAt
  have ⟨ob, es, ho, exd, _⟩ := dat
  have hlv : vs.length = kvs.length := (KV.length rel).symm
  refine ⟨"dict", "dict.values", F.plainAttrs_dict, F.slot_dict_values, F.type_dict_values, ⟨ob, ho, exd.1⟩, fun b e => by cases e; exact ⟨ob, ho, exd.2.1⟩, Calls.callWith_builtin rfl (PySem.evalArgs_none ?_)⟩
  refine call_meetsIn F.slot_dict_values ⟨ob, ho, exd.1⟩ F.entry_dict_values (F.args_dict_values_1 _) (meets_dict_values (mixKind X.prog X.w) d hsys) ⟨⟨vs, dof⟩, ?_⟩
  have k1 : ∀ b u, s2.heap.get? b = some u → (s2.heap.push { cls := .type "dict_values", data := .fields #[.ref d] }).get? b = some u := fun b u e => Heap.get?_push_of_some _ e
  have I3 : L2.Inv X pins σ H2 { s2 with heap := s2.heap.push { cls := .type "dict_values", data := .fields #[.ref d] } } := I2.kept (t' := s2.toks) k1
  have vw : (s2.heap.push { cls := .type "dict_values", data := .fields #[.ref d] }).get? s2.heap.objs.size = some { cls := .type "dict_values", data := .fields #[.ref d] } := Heap.get?_push_size _ rfl
  show wpAny (model X.prog X.w) X.A (contains (.ref s2.heap.objs.size) v >>= fun r => pure (Value.bool r)) Q X.xe { s2 with heap := s2.heap.push { cls := .type "dict_values", data := .fields #[.ref d] } }
  refine wpAny_bind (wpAny_contains_src (s := { s2 with heap := s2.heap.push { cls := .type "dict_values", data := .fields #[.ref d] } }) (PySem.W.kdl_values (knd := mixKind X.prog X.w) (r := s2.heap.objs.size) (d := d) (kvs := vs) (ep := ep)) (I.ok.hd hc) ⟨⟨_, vw, rfl, rfl⟩, dat.keep k1⟩ noci_values v (atV x (kvs.map (·.2))) (fun i u s' Q' E' hP hq => ?_) fun h' tk hk => ?_)
  · obtain ⟨k, hk⟩ := hP
    obtain ⟨z, h1, h2⟩ := KV.at' rel hk
    have g1 : (kvs.map (·.2))[i]? = some z := by rw [List.getElem?_map, h1]; rfl
    have fz : flatV z = true := List.all_eq_true.mp fxs z (List.mem_of_getElem? g1)
    unfold atV at hq
    rw [g1] at hq
    exact eqAt_V (A := X.A.in1) (s := s') h2 rx fz fx X.prog X.w E' Q' hq
  · rw [hlv, show kvs.length = (kvs.map (·.2)).length by rw [List.length_map], any_at]
    exact wpAny_pure (hQ _ _ _ (I3.kept (t' := tk) hk) q)
def tInV (ta td : TE) : TE := fun σ H Q => ta σ H fun x H1 => td σ H1 fun y H2 => ∃ d kvs, y = .ref d ∧ H2 d = some (.dK kvs) ∧ flatV x = true ∧ (kvs.map (·.2)).all flatV = true ∧ Q (.bl (inV x (kvs.map (·.2)))) H2
theorem pt_inV (hc : X.calm = true) {a o : Expr} {pos apos mpos : Pos} {ta td : TE} (ha : PE X a ta) (hd : PE X o td) (hb : attributeBase o "values" X.env (eval o X.env) = eval o X.env) (hl : (apos.endLine == mpos.line) = true) :
    PT X (.Compare a [.In] [.Call (.Attribute o "values" apos) [] [] mpos] pos) (tTest (tInV ta td)) := by
  refine ⟨fun pins s σ H Q I h => ?_⟩
  refine wpAny_isTrue_Compare1 (thn (ha.run pins s σ H _ I h) fun v s1 ⟨x, H1, I1, r1, q1⟩ => ?_) rfl
  refine inVals_run (Qv := fun x H' => ∃ k, x = .bl k ∧ Q k H') hc hd hb hl I1 r1 q1 fun b H2 s' I2 q => ?_
  obtain ⟨k, e, q⟩ := q
  cases e
  exact wpAny_truthy_bool ⟨H2, I2, q⟩
def inVW (x y : W) (h : Hh) : Option (W × Hh) := match x, deref h y with
  | .dat (.str z), some (.dict es) => if isT es = true then none else match rowS (es.map (·.2)) with
    | some l => bok (decide (z ∈ l)) h
    | none => none
  | _, _ => none
theorem inV_strs {z : Str} : ∀ l : List Str, inV (.str z) (l.map V.str) = decide (z ∈ l)
  | [] => rfl
  | a :: l => by
    have ih := inV_strs (z := z) l
    unfold inV at ih ⊢
    rw [List.map_cons, List.any_cons, ih]
    show ((a == z) || decide (z ∈ l)) = _
    by_cases e : a = z
    · subst e; simp
    · have e1 : (a == z) = false := beq_eq_false_iff_ne.mpr e
      have e2 : z ≠ a := fun q => e q.symm
      rw [e1]; simp [e2]
theorem inV_imp {f g : EM} : ∀ σ H Q, tE (f2 inVW f g) σ H Q → tInV (tE f) (tE g) σ H Q := fun σ H Q => by
  rintro ⟨M, h, ρ, r, rs, c⟩
  obtain ⟨w, h1, e1, c1⟩ := Cont.bind (δ := Unit) c
  refine ⟨M, h, ρ, r, rs, w, h1, e1, fun M1 H1 v x1 r1 v1 => ⟨M1, h1, ρ, r1, rs.mono x1, ?_⟩⟩
  obtain ⟨w2, h2, e2, c2⟩ := Cont.bind (δ := Unit) (c1 M1 H1 x1)
  refine ⟨w2, h2, e2, fun M2 H2 v2 x2 r2 q2 => ?_⟩
  have c3 := c2 M2 H2 x2
  have v1' := v1.mono x2
  unfold inVW at c3
  split at c3
  · rename_i z es e
    split at c3
    · exact c3.no.elim
    · rename_i ht
      split at c3
      · rename_i l hl
        cases (show RD M2 H2 v (.str z) from v1')
        rcases deref_rr r2 q2 e with ⟨a, kvs, rfl, ha, q⟩ | ⟨a, kvs, es', rfl, rfl, ha, q⟩
        · have em := rowS_map hl
          have qv := q.vals
          rw [em] at qv
          have ev := rds_strs qv
          refine ⟨a, kvs, rfl, ha, rfl, ?_, ?_⟩
          · rw [ev, List.all_eq_true]
            intro y hy
            obtain ⟨s, _, rfl⟩ := List.mem_map.mp hy
            rfl
          · rw [ev, inV_strs]
            exact c3.here r2 (.bl _)
        · exact absurd rfl ht
      · exact c3.no.elim
  · exact c3.no.elim
theorem t_inV (hc : X.calm = true) {a o : Expr} {pos apos mpos : Pos} {f g : EM} (ha : DE X a f) (hd : DE X o g) (hb : attributeBase o "values" X.env (eval o X.env) = eval o X.env := by rfl) (hl : (apos.endLine == mpos.line) = true := by rfl) :
    DT X (.Compare a [.In] [.Call (.Attribute o "values" apos) [] [] mpos] pos) (fB (f2 inVW f g)) := (pt_inV hc ha hd hb hl).weak fun σ H Q q => by
  obtain ⟨M, h, ρ, r, rs, c⟩ := q
  obtain ⟨w, h1, e1, c1⟩ := Cont.bind (δ := Unit) c
  refine inV_imp σ H _ ⟨M, h, ρ, r, rs, w, h1, e1, fun M1 H1 v x1 r1 v1 => ?_⟩
  have c2 := c1 M1 H1 x1
  split at c2
  · cases v1; exact ⟨_, rfl, c2.fin (.refl _ _) r1 rfl⟩
  · exact c2.no.elim
end
end DL
set_option maxRecDepth 100000
set_option maxHeartbeats 1000000
namespace DL
open PySem PySem.Spec PyProof.Rows L2
def orbL (m : Nat) : Nat → Nat → List Nat
  | 0, _ => []
  | n + 1, x => x :: orbL m n ((x * 5 + 1) % (m + 1))
theorem lcgI_head (m x : Nat) : ∀ b, lcgI m ((x * 5 + 1) % (m + 1)) b = lcgI m x (b + 1)
  | 0 => rfl
  | b + 1 => by
    show (lcgI m ((x * 5 + 1) % (m + 1)) b * 5 + 1) % (m + 1) = (lcgI m x (b + 1) * 5 + 1) % (m + 1)
    rw [lcgI_head m x b]
theorem orb_mem {m : Nat} : ∀ {n x j : Nat}, j ∈ orbL m n x → ∃ b, b < n ∧ lcgI m x b = j
  | 0, _, _, h => by cases h
  | n + 1, x, j, h => by
    rcases List.mem_cons.mp h with rfl | h
    · exact ⟨0, Nat.succ_pos _, rfl⟩
    · obtain ⟨b, h1, h2⟩ := orb_mem h
      exact ⟨b + 1, by omega, by rw [← lcgI_head]; exact h2⟩
theorem orb511 : ((List.range 512).all fun j => (orbL 511 512 0).contains j) = true := by decide +kernel
theorem round511 : lcgN 511 512 = 0 := by decide +kernel
theorem lcgN_I (m : Nat) : ∀ k, lcgN m k = lcgI m 0 k
  | 0 => rfl
  | k + 1 => by
    show (lcgN m k * 5 + 1) % (m + 1) = (lcgI m 0 k * 5 + 1) % (m + 1)
    rw [lcgN_I m k]
theorem at511 {j : Nat} (hj : j ≤ 511) : ∃ b, b ≤ 511 ∧ lcgN 511 b = j := by
  have h := List.all_eq_true.mp orb511 j (List.mem_range.mpr (by omega))
  obtain ⟨b, h1, h2⟩ := orb_mem (List.contains_iff_mem.mp h)
  exact ⟨b, by omega, by rw [lcgN_I]; exact h2⟩
theorem again511 : ∀ k, lcgN 511 (512 + k) = lcgN 511 k
  | 0 => round511
  | k + 1 => by
    show (lcgN 511 (512 + k) * 5 + 1) % 512 = (lcgN 511 k * 5 + 1) % 512
    rw [again511 k]
def M4 (m : Nat) : Prop := m = 7 ∨ m = 31 ∨ m = 127 ∨ m = 511
theorem M4.odd {m : Nat} (h : M4 m) : m % 2 = 1 := by
  rcases h with e | e | e | e <;> subst e <;> rfl
theorem M4.all {m : Nat} (hm : M4 m) {i j : Nat} (hi : i ≤ m) (hj : j ≤ m) : ∃ k, k ≤ m ∧ lcgI m i k = j := by
  rcases hm with e | e | e | e
  · exact lcgI_all (.inl e) hi hj
  · exact lcgI_all (.inr (.inl e)) hi hj
  · exact lcgI_all (.inr (.inr e)) hi hj
  · subst e
    obtain ⟨a, ha, ea⟩ := at511 hi
    obtain ⟨b, hb, eb⟩ := at511 hj
    rw [← ea]
    by_cases c : a ≤ b
    · exact ⟨b - a, by omega, by rw [lcgN_add, show a + (b - a) = b by omega, eb]⟩
    · refine ⟨b + 512 - a, by omega, ?_⟩
      rw [lcgN_add, show a + (b + 512 - a) = 512 + b by omega, again511, eb]
theorem M4.run {m : Nat} (hm : M4 m) (h : Int) {j : Nat} (hj : j ≤ m) : ∃ n, n ≤ m + 12 ∧ runI m (SetTable.bits h) n = j := by
  obtain ⟨k, hk, e⟩ := hm.all (runI_le m (SetTable.bits h) 12) hj
  exact ⟨12 + k, by omega, (runI_tail (bits_lt h) k).trans e⟩
theorem M4.meets {m : Nat} (hm : M4 m) (h : Int) {j : Nat} (hj : j ≤ m) : ∃ k, k < 10 * SetTable.turns m ∧ way m h k = j := by
  obtain ⟨n, hn, e⟩ := hm.run h hj
  obtain ⟨k, hk, e2⟩ := run_nth m (SetTable.bits h) n
  refine ⟨k, by unfold SetTable.turns; omega, ?_⟩
  show (nth m _ k).j = j
  rw [e2]
  exact e
theorem way_in {m : Nat} (h : Int) (k : Nat) : way m h k ≤ m := by
  have e := (runEnd_bd (m := m) (i := SetTable.bits h % (m + 1)) (Nat.le_of_lt_succ (Nat.mod_lt _ (Nat.succ_pos _))))
  have := nth_in (m := m) k (runAt m (SetTable.bits h % (m + 1)) (SetTable.bits h)) (by
    show SetTable.bits h % (m + 1) + (SetTable.runEnd m (SetTable.bits h % (m + 1)) - SetTable.bits h % (m + 1)) ≤ m
    omega)
  show (nth m _ k).j ≤ m
  omega
structure TabW (t : SetTable) (hs : List Int) : Prop where
  ris : Ris t.place.toList
  dm : t.dummies = #[]
  sz : t.place.size = hs.length
  mok : M4 t.mask
  bd : ∀ x ∈ t.place.toList, x ≤ t.mask
  reach : ∀ (i : Nat) (h : Int) (j : Nat), hs[i]? = some h → t.place.toList[i]? = some j → ∃ k, way t.mask h k = j ∧ ∀ k', k' < k → way t.mask h k' ∈ t.place.toList
theorem TabW.first {t : SetTable} {hs : List Int} (T : TabW t hs) (hl : hs.length ≤ t.mask) (h : Int) : ∃ K, K < 10 * SetTable.turns t.mask ∧ way t.mask h K ∉ t.place.toList ∧ ∀ k, k < K → way t.mask h k ∈ t.place.toList := by
  obtain ⟨j, hj, nj⟩ := st_missing t.place.toList (t.mask + 1) (by rw [Array.length_toList, T.sz]; omega)
  obtain ⟨k, hk, rfl⟩ := T.mok.meets h (Nat.le_of_lt_succ hj)
  obtain ⟨K, h1, h2, h3⟩ := st_least (p := fun k => way t.mask h k ∉ t.place.toList) k nj
  exact ⟨K, by omega, h2, fun k' hk' => Classical.byContradiction fun z => h3 k' hk' z⟩
theorem TabW.put {t : SetTable} {hs : List Int} (T : TabW t hs) {h : Int} {K : Nat} (hK : way t.mask h K ∉ t.place.toList) (hb : ∀ k, k < K → way t.mask h k ∈ t.place.toList) :
    (t.put (way t.mask h K)).2 = SetTable.below t.place (way t.mask h K) ∧ SetTable.below t.place (way t.mask h K) ≤ hs.length ∧
    TabW (t.put (way t.mask h K)).1 (hs.take (SetTable.below t.place (way t.mask h K)) ++ h :: hs.drop (SetTable.below t.place (way t.mask h K))) ∧
    (t.put (way t.mask h K)).1.mask = t.mask ∧ (t.put (way t.mask h K)).1.led = t.led ∧ (t.put (way t.mask h K)).1.fill = hs.length + 1 := by
  have c1 := (below_cut T.ris (way t.mask h K)).1
  have p1 : SetTable.below t.place (way t.mask h K) ≤ t.place.toList.length := by rw [Array.length_toList]; exact c1
  have p2 : SetTable.below t.place (way t.mask h K) ≤ hs.length := by rw [← T.sz]; exact c1
  have new : t.place[SetTable.below t.place (way t.mask h K)]? ≠ some (way t.mask h K) := fun e => hK (List.mem_of_getElem? (by rw [Array.getElem?_toList]; exact e))
  have pp := put_place t (way t.mask h K)
  have sz : (t.put (way t.mask h K)).1.place.size = hs.length + 1 := by rw [← Array.length_toList, pp, len_ins _ p1, Array.length_toList, T.sz]
  have up : ∀ {x : Nat}, x ∈ t.place.toList → x ∈ (t.put (way t.mask h K)).1.place.toList := fun {x} hx => by rw [pp]; exact mem_ins.2 (.inr hx)
  refine ⟨rfl, p2, ⟨ris_insert T.ris new, put_dm T.dm _, by rw [len_ins _ p2]; exact sz, T.mok, fun x hx => ?_, fun i h' j' h1 h2 => ?_⟩, rfl, rfl, ?_⟩
  · rw [pp] at hx
    rcases mem_ins.1 hx with rfl | z
    · exact way_in h K
    · exact T.bd x z
  · rw [tins_get hs p2] at h1
    rw [pp, tins_get _ p1] at h2
    have old : ∀ i', hs[i']? = some h' → t.place.toList[i']? = some j' → ∃ k, way t.mask h' k = j' ∧ ∀ k', k' < k → way t.mask h' k' ∈ (t.put (way t.mask h K)).1.place.toList := fun i' q1 q2 => by
      obtain ⟨k, e, z⟩ := T.reach i' h' j' q1 q2
      exact ⟨k, e, fun k' hk' => up (z k' hk')⟩
    show ∃ k, way t.mask h' k = j' ∧ ∀ k', k' < k → way t.mask h' k' ∈ (t.put (way t.mask h K)).1.place.toList
    split at h1
    · rename_i c
      rw [if_pos c] at h2
      exact old i h1 h2
    · rename_i c
      rw [if_neg c] at h2
      split at h1
      · rename_i d
        rw [if_pos d] at h2
        cases h1
        cases h2
        exact ⟨K, rfl, fun k' hk' => up (hb k' hk')⟩
      · rename_i d
        rw [if_neg d] at h2
        exact old (i - 1) h1 h2
  · show (t.put (way t.mask h K)).1.place.size + (t.put (way t.mask h K)).1.dummies.size = hs.length + 1
    rw [sz, put_dm T.dm]
    rfl
end DL
set_option maxRecDepth 100000
set_option maxHeartbeats 1000000
namespace DL
open PySem PySem.Spec PyProof.Rows L2
abbrev RK := Addr × List Key
abbrev hsh (P : Program) (w : World) (q : RK) : Int := tupleKeyHash (mixKind P w) q.2
abbrev Is1 (P : Program) (w : World) (h : Heap) (q : RK) : Prop := IsTupleKey (mixKind P w) h q.2 q.1
def cell1 (P : Program) (w : World) (q : RK) : Int × Value := (hsh P w q, .ref q.1)
section
variable {P : Program} {w : World} {A : Around} {E : Value → Shared → Prop} {s : Shared}
abbrev Small (v : Value) : Prop := (∃ i t, v = Value.int i t) ∨ ∃ x t, v = Value.str x t
end
structure SX (P : Program) (w : World) (h : Heap) (a : Addr) (L : List RK) (es : Array (Int × Value)) (ep : Nat) (t : SetTable) : Prop where
  ob : ∃ o, h.get? a = some o ∧ o.ExactSet ∧ o.data = .set es ep t
  cells : es.toList = L.map (cell1 P w)
  tab : TabW t (L.map (hsh P w))
  nd : (L.map (·.2)).Nodup
  all : ∀ q ∈ L, Is1 P w h q
  led : w.params.followText "set-order" = true ∨ t.led = true
  room : L.length * 5 < t.mask * 3
section
variable {P : Program} {w : World} {A : Around} {E : Value → Shared → Prop} {s : Shared} {a : Addr} {L : List RK} {es : Array (Int × Value)} {ep : Nat} {t : SetTable}
theorem SX.few (R : SX P w s.heap a L es ep t) : L.length ≤ 306 := by
  have := R.room
  rcases R.tab.mok with e | e | e | e <;> omega
theorem SX.size (R : SX P w s.heap a L es ep t) : es.size = L.length := by
  rw [← Array.length_toList, R.cells, List.length_map]
theorem SX.at_ (R : SX P w s.heap a L es ep t) {i : Nat} {q : RK} (h : L[i]? = some q) : es[i]? = some (cell1 P w q) := by
  rw [← Array.getElem?_toList, R.cells, List.getElem?_map, h]
  rfl
theorem SX.whole (R : SX P w s.heap a L es ep t) : ¬ t.gaveWay = true := by
  unfold SetTable.gaveWay
  rw [R.tab.mok.odd]
  decide
theorem SX.keep {h h' : Heap} (R : SX P w h a L es ep t) (ha : ∀ o, h.get? a = some o → h'.get? a = some o) (ht : ∀ q ∈ L, Is1 P w h' q) : SX P w h' a L es ep t := by
  obtain ⟨o, ho, r⟩ := R.ob
  exact ⟨⟨o, ha o ho, r⟩, R.cells, R.tab, R.nd, ht, R.led, R.room⟩
end
end DL
set_option maxRecDepth 100000
set_option maxHeartbeats 1000000
namespace DL
open PySem PySem.Spec PyProof.Rows L2
section
variable {P : Program} {w : World} {A : Around} {E : Value → Shared → Prop} {s : Shared} {a : Addr} {L : List RK} {es : Array (Int × Value)} {ep : Nat} {t : SetTable}
structure Had (ks : List RK) (i : Nat) (L : List RK) : Prop where
  sub : ∀ q ∈ L, q ∈ ks.take i
  all : ∀ q ∈ ks.take i, q.2 ∈ L.map (·.2)
theorem Had.zero (ks : List RK) : Had ks 0 [] := ⟨fun q h => (by cases h), fun q h => (by simp at h)⟩
theorem Had.same {ks L : List RK} {i : Nat} {q : RK} (g : Had ks i L) (h : ks[i]? = some q) (hm : q.2 ∈ L.map (·.2)) : Had ks (i + 1) L := by
  refine ⟨fun p hp => ?_, fun p hp => ?_⟩
  · rw [L2.take_next h]; exact List.mem_append_left _ (g.sub p hp)
  · rw [L2.take_next h] at hp
    rcases List.mem_append.mp hp with z | z
    · exact g.all p z
    · rw [List.mem_singleton.mp z]; exact hm
theorem Had.more {ks L L' : List RK} {i : Nat} {q : RK} (g : Had ks i L) (h : ks[i]? = some q) (pm : L'.Perm (q :: L)) : Had ks (i + 1) L' := by
  refine ⟨fun p hp => ?_, fun p hp => ?_⟩
  · rw [L2.take_next h]
    rcases List.mem_cons.mp (pm.mem_iff.mp hp) with rfl | z
    · exact List.mem_append_right _ (List.mem_singleton.mpr rfl)
    · exact List.mem_append_left _ (g.sub p z)
  · rw [(pm.map (·.2)).mem_iff, List.map_cons]
    rw [L2.take_next h] at hp
    rcases List.mem_append.mp hp with z | z
    · exact List.mem_cons_of_mem _ (g.all p z)
    · rw [List.mem_singleton.mp z]; exact List.mem_cons_self
end
end DL
set_option maxRecDepth 100000
set_option maxHeartbeats 1000000
namespace DL
open PySem PySem.Spec PyProof.Rows L2
section
variable {P : Program} {w : World} {A : Around} {R : Result → Shared → Prop} {I : Addr} {fp wr : List Addr} {G : Array GenState → Array GenState → Prop} {n : Nat} {Pv : Nat → Value → Prop} {St : Nat → Shared → Prop}
abbrev SXe (P : Program) (w : World) (h : Heap) (a : Addr) (L : List RK) : Prop := ∃ es ep t, SX P w h a L es ep t
end
end DL
set_option maxRecDepth 100000
set_option maxHeartbeats 1000000
namespace DL
open PySem PySem.Spec PyProof.Rows L2
variable [HW]
def SX0 (P : Program) (w : World) (h : Heap) (a : Addr) (L : List RK) : Prop := ∃ es ep t, (∃ o, h.get? a = some o ∧ o.ExactSet ∧ o.data = .set es ep t) ∧ es.toList = L.map (cell1 P w) ∧ TabW t (L.map (hsh P w)) ∧ (L.map (·.2)).Nodup ∧
  (w.params.followText "set-order" = true ∨ t.led = true) ∧ L.length * 5 < t.mask * 3
theorem SXe.zero {P : Program} {w : World} {h : Heap} {a : Addr} {L : List RK} (x : SXe P w h a L) : SX0 P w h a L := by
  obtain ⟨es, ep, t, x⟩ := x
  exact ⟨es, ep, t, x.ob, x.cells, x.tab, x.nd, x.led, x.room⟩
end DL
set_option maxRecDepth 100000
set_option maxHeartbeats 1000000
namespace DL
open PySem PySem.Spec PyProof.Rows L2
variable [HW]
end DL
set_option maxRecDepth 100000
set_option maxHeartbeats 1000000
namespace DL
open PySem PySem.Spec PyProof.Rows L2
variable [HW]
end DL
set_option maxRecDepth 100000
set_option maxHeartbeats 1000000
namespace DL
open PySem PySem.Spec PyProof.Rows L2
variable [HW]
theorem rps_len {M : Mm} {H : Hp} : ∀ {xs : List V} {is : List (Sum Nat D)}, RPs M H xs is → xs.length = is.length
  | _, _, .nil => rfl
  | _, _, .ref _ t => by rw [List.length_cons, List.length_cons, rps_len t]
  | _, _, .dat _ t => by rw [List.length_cons, List.length_cons, rps_len t]
abbrev IMp := DL.Env → Hh → Option (List (Sum Nat D) × Hh)
def RPI (M M1 : Mm) (H : Hp) (x : V) : Sum Nat D → Prop
  | .inl n => ∃ a, x = .ref a ∧ M.m[n]? = some (some a)
  | .inr d => RD M1 H x d
def ItP (M : Mm) (H : Hp) (J : It) (ps : List (Sum Nat D)) : Prop := ∀ M1 H1, Ext M M1 H H1 → (∀ a, M1.Has a → ∃ o, H1 a = some o ∧ tpO o = false) → (∀ (i : Nat) (p : Sum Nat D), ps[i]? = some p → J.go i H1 ∧ ∀ x H2, J.yld i H1 x H2 → Same H1 H2 ∧ RPI M M1 H2 x p) ∧ J.stop ps.length H1
def tIp (g : IMp) : TI := fun σ H R => ∃ M h ρ ps h', Rep M H h ∧ RS M H ρ σ ∧ g ρ h = some (ps, h') ∧ ∀ M' H' J, ExtE M M' H H' → Rep M' H' h' → ItP M' H' J ps → R J H'
theorem rps_get {M M1 : Mm} {H H1 : Hp} (x : Ext M M1 H H1) : ∀ {xs : List V} {ps : List (Sum Nat D)} {i : Nat} {p : Sum Nat D}, RPs M H xs ps → ps[i]? = some p → ∃ v, xs[i]? = some v ∧ RPI M M1 H1 v p
  | _, _, _, _, .nil, h => by simp at h
  | _, _, 0, _, .ref e _, h => by cases h; exact ⟨_, rfl, _, rfl, e⟩
  | _, _, 0, _, .dat e _, h => by cases h; exact ⟨_, rfl, RD.mono x e⟩
  | _, _, i + 1, _, .ref _ t, h => by
    obtain ⟨v, a, b⟩ := rps_get (i := i) x t (by simpa using h)
    exact ⟨v, by simpa using a, b⟩
  | _, _, i + 1, _, .dat _ t, h => by
    obtain ⟨v, a, b⟩ := rps_get (i := i) x t (by simpa using h)
    exact ⟨v, by simpa using a, b⟩
theorem itp_list {K : PySem.W.Frag} {M : Mm} {H : Hp} {a : Addr} {xs : List V} {ps : List (Sum Nat D)} (n : ¬ M.Has a) (ha : H a = some (.lst xs)) (q : RPs M H xs ps) : ItP M H (Itl K a) ps := fun M1 H1 x tr => by
  have ha1 := x.st n ha
  refine ⟨fun i d e => ?_, ⟨xs, .of ha1, by rw [rps_len q]; exact Nat.le_refl _⟩⟩
  obtain ⟨v, ev, rv⟩ := rps_get x q e
  refine ⟨⟨xs, v, .of ha1, ev⟩, fun y H2 hy => ?_⟩
  obtain ⟨e2, hy⟩ := hy
  subst e2
  have := hy xs (.of ha1)
  rw [ev] at this; cases this
  exact ⟨same_refl', rv⟩
def seqP (f : EM) : IMp := fun ρ h => obnd (f ρ h) fun w h1 => match w with
  | .pack ps => some (ps, h1)
  | _ => none
section
variable {X : Cx} {tg : Expr}
theorem di_seqP {e : Expr} {f : EM} (he : DE X e f) : PI X tg e (tIp (seqP f)) := (pi_list he).weak fun σ H R => by
  rintro ⟨M, h, ρ, ps, h', r, rs, e, q⟩
  unfold seqP at e
  cases ef : f ρ h with
  | none => rw [ef] at e; cases e
  | some p =>
    obtain ⟨w, h1⟩ := p
    rw [ef] at e
    simp only [obnd_some] at e
    split at e
    · cases e
      refine ⟨M, h, ρ, r, rs, _, _, ef, fun M1 H1 v x1 r1 v1 => ?_⟩
      obtain ⟨a, xs, rfl, n, ha, qa⟩ := v1
      exact ⟨_, rfl, ⟨_, .of ha⟩, q M1 H1 _ x1 r1 (itp_list n ha qa)⟩
    · cases e
end
def itW (h : Hh) : Sum Nat D → Option W
  | .inl n => match h[n]? with
    | some (some _) => some (.ref n)
    | _ => none
  | .inr d => some (.dat d)
def forP (k : TM) (body : SM) : List (Sum Nat D) → DL.Env → Hh → Option (Out × Hh)
  | [], ρ, h => some (.nx ρ, h)
  | p :: ps, ρ, h => match itW h p with
    | some w => match k w ρ h with
      | some ρ1 => match body ρ1 h with
        | some (.nx ρ2, h2) => forP k body ps ρ2 h2
        | some (.ct ρ2, h2) => forP k body ps ρ2 h2
        | some (.bk ρ2, h2) => some (.nx ρ2, h2)
        | some (.rt w, h2) => some (.rt w, h2)
        | none => none
      | none => none
    | none => none
def sForP (gi : IMp) (k : TM) (body : SM) : SM := fun ρ h => sbnd (gi ρ h) fun ps h1 => forP k body ps ρ h1
theorem rpi_rv {M Mi : Mm} {H Hi H2 : Hp} {hi : Hh} (x : Ext M Mi H Hi) (r : Rep Mi Hi hi) {v : V} {p : Sum Nat D} {w : W} (q : RPI M Mi H2 v p) (e : itW hi p = some w) : RV Mi H2 v w := by
  cases p with
  | inl n =>
    obtain ⟨a, rfl, hm⟩ := q
    simp only [itW] at e
    split at e
    · rename_i o ho
      cases e
      refine ⟨a, ?_, rfl⟩
      have lt : n < M.m.length := (List.getElem?_eq_some_iff.mp hm).1
      rcases x.kill n lt with z | z
      · rw [z]; exact hm
      · rw [r.dead n z] at ho
        cases ho
    · cases e
  | inr d =>
    cases e
    exact q
theorem forP_imp {gi : IMp} {k : TM} {body : SM} {ts : List Nat} : ∀ D σ H, tS (sForP gi k body) D σ H → tFor (tIp gi) (tGd ts k) (tS body) D σ H := fun D σ H => by
  rintro ⟨M, h, ρ, r, rs, p⟩
  obtain ⟨ds, h1, e1, p1⟩ := p.bind
  refine ⟨M, h, ρ, ds, h1, r, rs, e1, fun M1 H1 J x1 r1 it => ?_⟩
  have p2 := p1.mono x1.same x1.ext
  let P : Nat → L2.St → Hp → Prop := fun i σi Hi => ∃ Mi hi ρi, Mi.u = M1.u ∧ Ext M1 Mi H1 Hi ∧ Rep Mi Hi hi ∧ RS Mi Hi ρi σi ∧ SPost D Mi Hi (forP k body (ds.drop i) ρi hi)
  refine ⟨fun i n σi Hi => n + i = ds.length ∧ P i σi Hi, ⟨ds.length, by omega, M1, h1, ρ, rfl, .refl _ _, r1, rs.mono x1, by rw [List.drop_zero]; exact p2⟩, fun i n σi Hi w => ?_⟩
  obtain ⟨hn, Mi, hi, ρi, ui, xi, ri, rsi, pi⟩ := w
  obtain ⟨ity, its⟩ := it Mi Hi xi fun a ha => ri.tracked ha
  by_cases hlt : i < ds.length
  · refine .inr ?_
    have ed : ds[i]? = some ds[i] := List.getElem?_eq_getElem hlt
    obtain ⟨go, yl⟩ := ity i _ ed
    rw [List.drop_eq_getElem_cons hlt] at pi
    refine ⟨go, P (i + 1), fun σ' H' q => ⟨n - 1, by omega, by omega, q⟩, fun x H2 hy => ?_⟩
    obtain ⟨sm, rx⟩ := yl x H2 hy
    obtain ⟨ri2, xi2⟩ := ri.grow sm
    unfold forP at pi
    split at pi
    · rename_i wv ew
      have rv := rpi_rv xi ri rx ew
      split at pi
      · rename_i ρ1 ek
        refine ⟨Mi, hi, ρi, wv, ρ1, ri2, rsi.mono xi2, rv, ek, fun σ2 rs2 _ _ => ⟨Mi, hi, ρ1, ri2, rs2, ?_⟩⟩
        have pi' := pi.mono rfl xi2.ext
        cases eb : body ρ1 hi with
        | none => rw [eb] at pi'; exact pi'.elim
        | some q =>
          obtain ⟨o, h3⟩ := q
          rw [eb] at pi'
          cases o with
          | nx ρ2 => exact fun M3 H3 σ3 u3 x3 r3 rs3 => ⟨M3, h3, ρ2, u3.trans ui, (xi.trans xi2.ext).trans x3, r3, rs3, SPost.mono pi' u3 x3⟩
          | ct ρ2 => exact fun M3 H3 σ3 u3 x3 r3 rs3 => ⟨M3, h3, ρ2, u3.trans ui, (xi.trans xi2.ext).trans x3, r3, rs3, SPost.mono pi' u3 x3⟩
          | bk ρ2 => exact pi'
          | rt w => exact pi'
      · exact pi.elim
    · exact pi.elim
  · refine .inl ?_
    have hi' : i = ds.length := by omega
    subst hi'
    rw [List.drop_length] at pi
    exact ⟨its, pi Mi Hi σi rfl (.refl _ _) ri rsi⟩
section
variable {X : Cx}
theorem ds_forP {tg iter : Expr} {body : List Stmt} {pos : Pos} {gi : IMp} {k : TM} {ts : List Nat} {f : SM} (hc : X.calm = true) (hp : PassesOwn (model X.prog X.w) X.A X.env X.xe) (hi : PI X tg iter (tIp gi)) (hg : DG X tg ts k) (hb : DSs X body f) (hs : ∀ x, foldedSetIterable iter X.env x = pure x := by intro _; rfl) : DS X (.For tg iter body [] pos) (sForP gi k f) :=
  (ps_for hp hc hi hg hb hs).weak forP_imp
end
end DL
set_option maxRecDepth 100000
set_option maxHeartbeats 1000000
namespace DL
open PySem PySem.Spec PyProof.Rows L2
variable [HW]
end DL
set_option maxRecDepth 100000
set_option maxHeartbeats 4000000
namespace DL
open PySem PySem.Spec PyProof.Rows L2
variable [HW]
end DL
set_option maxRecDepth 100000
namespace DL
open PySem L2
variable [HW]
noncomputable def m__law_box : FM := fnM true 2 3 (sSeq (sAsg (fC (.int 0)) (gN 2))
    (sSeq (sIf (fB (f2 lt_W (fVar 1) (fA lenW (fCons (fVar 0) (fNil))))) (sAsg (f2 idxW (fVar 0) (fVar 1)) (gN 2)) (sSkip))
    (sRet (fA (lstW true) (fCons (f2 (mulW false) (fA absW (fCons (fVar 2) (fNil))) (fA intC (fCons (f2 ge_W (fA absW (fCons (fVar 2) (fNil))) (f2 powW (fC (.int 10)) (fC (.int 18)))) (fNil)))) (fCons (f2 (addW false) (f2 (addW false) (f2 modW (fVar 2) (fC (.int 2147483629))) (f2 (mulW false) (fC (.int 7919)) (fVar 1))) (fC (.int 11))) (fCons (fC (.int 0)) (fNil))))))))
noncomputable def m__law_take : FM := fnM false 2 4 (sSeq (sIf (fB (f2 gt_W (f2 idxW (fVar 0) (fC (.int 0))) (fC (.int 0)))) (sSeq (sAsg (f2 modW (f2 idxW (fVar 0) (fC (.int 0))) (fVar 1)) (gN 3))
    (sSeq (sSub (f2 divW (f2 idxW (fVar 0) (fC (.int 0))) (fVar 1)) (fVar 0) (fC (.int 0)))
    (sRet (fVar 3)))) (sSkip))
    (sSeq (sSub (f2 (addW false) (f2 idxW (fVar 0) (fC (.int 2))) (fC (.int 1))) (fVar 0) (fC (.int 2)))
    (sSeq (sAsg (f2 modW (f2 powW (f2 (addW false) (f2 idxW (fVar 0) (fC (.int 1))) (f2 (mulW false) (fC (.int 39373)) (f2 idxW (fVar 0) (fC (.int 2))))) (fC (.int 5))) (fC (.int 2147483647))) (gN 2))
    (sRet (f2 modW (f2 divW (f2 modW (f2 (addW false) (f2 (mulW false) (fVar 2) (f2 (addW false) (f2 modW (fVar 2) (fC (.int 40009))) (fC (.int 7)))) (f2 (mulW false) (f2 idxW (fVar 0) (fC (.int 2))) (fC (.int 7919)))) (fC (.int 2147483629))) (fC (.int 64))) (fVar 1))))))
noncomputable def m__law_same : Nat → FM
  | 0 => fun _ _ => none
  | n + 1 => fnM false 2 4 (sSeq (sIf (fB (f1 (isiW ["list", "tuple"]) (fVar 1))) (sSeq (sIf (bOr (fB (f2 (eqW true) (f1 (isiW ["list"]) (fVar 0)) (f1 (isiW ["list"]) (fVar 1)))) (fB (f2 (eqW true) (f1 (isiW ["tuple"]) (fVar 0)) (f1 (isiW ["tuple"]) (fVar 1))))) (sRet (fC (.bool false))) (sSkip))
    (sSeq (sIf (fB (f2 (eqW true) (fA lenW (fCons (fVar 0) (fNil))) (fA lenW (fCons (fVar 1) (fNil))))) (sRet (fC (.bool false))) (sSkip))
    (sRet (fA allW (fCons (fLc false (zipI (fCons (fVar 0) (fCons (fVar 1) (fNil)))) (gT 2 (gC (gN 2) (gC (gN 3) (gE)))) (bYes) (fA (m__law_same n) (fCons (fVar 2) (fCons (fVar 3) (fNil)))) [2, 3]) (fNil)))))) (sSkip))
    (sSeq (sIf (bOr (fB (f2 (isW false) (fVar 1) (fC .none))) (fB (f1 (isiW ["str"]) (fVar 1)))) (sRet (fAnd (f2 (eqW false) (fVar 0) (fVar 1)) (f2 (eqW false) (f1 (isiW ["str"]) (fVar 0)) (f1 (isiW ["str"]) (fVar 1))))) (sSkip))
    (sRet (fAnd (f1 (isiW ["int"]) (fVar 0)) (fAnd (f2 (eqW false) (f1 (isiW ["bool"]) (fVar 0)) (f1 (isiW ["bool"]) (fVar 1))) (f2 (eqW false) (fVar 0) (fVar 1)))))))
noncomputable def m__law_strewn : FM := fnM false 2 4 (sSeq (sAsg (fA (lstW true) (fNil)) (gN 2))
    (sSeq (sFor (seqI (fVar 1)) (gN 3)
    (sExpr (fM isL insertW (fVar 2) (fCons (fA (m__law_take) (fCons (fVar 0) (fCons (f2 (addW false) (fA lenW (fCons (fVar 2) (fNil))) (fC (.int 1))) (fNil)))) (fCons (fVar 3) (fNil))))))
    (sRet (fVar 2))))
noncomputable def m__law_crew : FM := fnM false 2 9 (sSeq (sPar (fCons (f2 (addW false) (fC (.int 1)) (fA (m__law_take) (fCons (fVar 0) (fCons (fVar 1) (fNil))))) (fCons (fC (.str "abcdefghijklmnopqrstuvwxyz")) (fCons (fA (lstW true) (fNil)) (fNil)))) [3, 4, 5])
    (sSeq (sPar (fCons (fA (m__law_take) (fCons (fVar 0) (fCons (fC (.int 26)) (fNil)))) (fCons (f2 idxW (fA (lstW false) (fCons (fC (.int 1)) (fCons (fC (.int 3)) (fCons (fC (.int 25)) (fNil))))) (fA (m__law_take) (fCons (fVar 0) (fCons (fC (.int 3)) (fNil))))) (fNil))) [6, 7])
    (sSeq (sFor (rng1I (fCons (fVar 3) (fNil))) (gN 2)
    (sSeq (sAsg (f2 idxW (fVar 4) (f2 modW (f2 (addW false) (fVar 6) (f2 (mulW false) (fVar 7) (f2 divW (fVar 2) (fC (.int 2))))) (fC (.int 26)))) (gN 8))
    (sExpr (fM isL appendW (fVar 5) (fCons (f2 (addW false) (fVar 8) (f2 idxW (fA (lstW false) (fCons (fC (.str "")) (fCons (fC (.str "a")) (fCons (fC (.str "zz")) (fNil))))) (f2 (mulW false) (f2 modW (fVar 2) (fC (.int 2))) (f2 (addW false) (fC (.int 1)) (f2 modW (fVar 6) (fC (.int 2))))))) (fNil))))))
    (sFrz 5 (sRet (fA (m__law_strewn) (fCons (fVar 0) (fCons (fVar 5) (fNil)))))))))
end DL
namespace DL
open PySem L2
variable [HW]
noncomputable def m_is_name : FM := fnM false 1 2 (sRet (fAnd (f1 (isiW ["str"]) (fVar 0)) (fAnd (fChain le_W le_W (fC (.int 1)) (fA lenW (fCons (fVar 0) (fNil))) (fC (.int 6))) (fA allW (fCons (fLc false (strI (fVar 0)) (gN 1) (bYes) (f2 (inW false) (fVar 1) (fC (.str "abcdefghijklmnopqrstuvwxyz"))) [1]) (fNil))))))
noncomputable def m_by_names : FM := fnM false 1 3 (sRet (fDc false (seqI (fVar 0)) (gT 2 (gC (gN 1) (gC (gN 2) (gE)))) (bYes) (fVar 1) (fVar 2) [1, 2]))
noncomputable def m_people : FM := fnM false 1 3 (sRet (fA tupleW (fCons (fLc false (seqI (fVar 0)) (gT 2 (gC (gN 1) (gC (gN 2) (gE)))) (bYes) (fVar 1) [1, 2]) (fNil))))
noncomputable def m_look_name : FM := fnM false 2 2 (sIf (fB (f2 (inW true) (fVar 1) (fVar 0))) (sNever) (sSkip))
noncomputable def m_stay : FM := fnM false 1 2 (sRet (fA tupleW (fCons (fLc false (seqI (fA (sortW false) (fCons (fVar 0) (fNil)))) (gN 1) (bYes) (fA tupW (fCons (fVar 1) (fCons (fVar 1) (fNil)))) [1]) (fNil))))
noncomputable def m_all_to : FM := fnM false 2 3 (sSeq (sExpr (fA (m_look_name) (fCons (fVar 0) (fCons (fVar 1) (fNil)))))
    (sRet (fA tupleW (fCons (fLc false (seqI (fA (sortW false) (fCons (fVar 0) (fNil)))) (gN 2) (bYes) (fA tupW (fCons (fVar 2) (fCons (fVar 1) (fNil)))) [2]) (fNil)))))
noncomputable def m__law_lists : Nat → FM
  | 0 => fun _ _ => none
  | n + 1 => fnM false 1 2 (sRet (fIf (fB (f1 (isiW ["list", "tuple"]) (fVar 0))) (fLc false (seqI (fVar 0)) (gN 1) (bYes) (fA (m__law_lists n) (fCons (fVar 1) (fNil))) [1]) (fVar 0)))
noncomputable def m__law_of : FM := fnM false 2 2 (sRet (f2 idxW (fVar 1) (fA (m__law_take) (fCons (fVar 0) (fCons (fA lenW (fCons (fVar 1) (fNil))) (fNil))))))
noncomputable def m__law_ask : FM := fnM false 2 12 (sSeq (sPar (fCons (fA (sortW false) (fCons (fVar 1) (fNil))) (fCons (fA (m__law_take) (fCons (fVar 0) (fCons (fC (.int 6)) (fNil)))) (fNil))) [3, 4])
    (sSeq (sPar (fCons (fSl false (fA (m__law_strewn) (fCons (fVar 0) (fCons (fVar 3) (fNil)))) (oNone) (oSome (f2 (addW false) (fC (.int 1)) (fA (m__law_take) (fCons (fVar 0) (fCons (fC (.int 3)) (fNil))))))) (fCons (fA (m__law_strewn) (fCons (fVar 0) (fCons (fVar 3) (fNil)))) (fNil))) [5, 6])
    (sSeq (sAsg (fA (lstW true) (fNil)) (gN 2))
    (sSeq (sFor (enumA (fCons (fVar 3) (fNil))) (gT 2 (gC (gN 7) (gC (gN 8) (gE))))
    (sSeq (sPar (fCons (fA (m__law_of) (fCons (fVar 0) (fCons (fVar 3) (fNil)))) (fCons (fA (m__law_of) (fCons (fVar 0) (fCons (fVar 5) (fNil)))) (fNil))) [10, 11])
    (sSeq (sAsg (fIf (fB (f2 (eqW false) (fA (m__law_take) (fCons (fVar 0) (fCons (fC (.int 4)) (fNil)))) (fC (.int 0)))) (fVar 10) (fVar 8)) (gN 9))
    (sExpr (fM isL appendW (fVar 2) (fCons (fA tupW (fCons (fVar 8) (fCons (f2 idxW (fA (lstW false) (fCons (fVar 10) (fCons (fVar 10) (fCons (fVar 11) (fCons (fVar 9) (fCons (f2 idxW (fVar 6) (fVar 7)) (fCons (fVar 11) (fNil)))))))) (fVar 4)) (fNil)))) (fNil)))))))
    (sFrz 2 (sRet (fA tupleW (fCons (fVar 2) (fNil)))))))))
end DL
namespace DL
open PySem L2
variable [HW]
end DL
namespace DL
open PySem L2
variable [HW]
noncomputable def m_groups : FM := fnM false 1 4 (sSeq (sAsg (fDn true) (gN 1))
    (sSeq (sFor (seqI (fVar 0)) (gT 2 (gC (gN 2) (gC (gN 3) (gE))))
    (sPut (f2 (addW false) (fGet (fVar 1) (fVar 3) (fA (lstW false) (fNil))) (fA (lstW false) (fCons (fVar 2) (fNil)))) (fVar 1) (fVar 3)))
    (sFrz 1 (sRet (fLc false (seqI (fA (sortDW false) (fCons (fVar 1) (fNil)))) (gN 3) (bYes) (fA tupW (fCons (fVar 3) (fCons (fA tupleW (fCons (f2 idxW (fVar 1) (fVar 3)) (fNil))) (fNil)))) [3])))))
noncomputable def m_whom : FM := fnM false 2 3 (sSeq (sAsg (fA (m_by_names) (fCons (fVar 0) (fNil))) (gN 2))
    (sSeq (sExpr (fA (m_look_name) (fCons (fVar 2) (fCons (fVar 1) (fNil)))))
    (sRet (f2 idxW (fVar 2) (fVar 1)))))
end DL
namespace DL
open PySem L2
variable [HW]
end DL
namespace DL
open PySem L2
variable [HW]
end DL
namespace DL
open PySem L2
variable [HW]
noncomputable def m_is_pair : FM := fnM false 1 2 (sRet (fAnd (f1 (isiW ["tuple"]) (fVar 0)) (fAnd (f2 (eqW false) (fA lenW (fCons (fVar 0) (fNil))) (fC (.int 2))) (fA allW (fCons (fLc false (seqI (fVar 0)) (gN 1) (bYes) (fA (m_is_name) (fCons (fVar 1) (fNil))) [1]) (fNil))))))
noncomputable def m_is_call : FM := fnM false 1 7 (sSeq (sIf (bOr (bNot (fB (f1 (isiW ["tuple"]) (fVar 0)))) (bOr (fB (f2 (eqW false) (fA lenW (fCons (fVar 0) (fNil))) (fC (.int 0)))) (bNot (fB (fA allW (fCons (fLc false (seqI (fVar 0)) (gN 6) (bYes) (fA (m_is_pair) (fCons (fVar 6) (fNil))) [6]) (fNil))))))) (sRet (fC (.bool false))) (sSkip))
    (sSeq (sAsg (fLc false (seqI (fVar 0)) (gT 2 (gC (gN 2) (gC (gN 3) (gE)))) (bYes) (fVar 2) [2, 3]) (gN 1))
    (sSeq (sIf (fB (fA anyW (fCons (fLc false (zipB (fCons (fVar 1) (fCons (fSl false (fVar 1) (oSome (fC (.int 1))) (oNone)) (fNil)))) (gT 2 (gC (gN 4) (gC (gN 5) (gE)))) (bYes) (f2 ge_W (fVar 4) (fVar 5)) [4, 5]) (fNil)))) (sRet (fC (.bool false))) (sSkip))
    (sRet (fA allW (fCons (fLc false (seqI (fVar 0)) (gT 2 (gC (gN 2) (gC (gN 3) (gE)))) (bYes) (f2 (inW false) (fVar 3) (fVar 1)) [2, 3]) (fNil)))))))
end DL
set_option maxRecDepth 100000
namespace DL
open PySem L2
variable [HW]
end DL
set_option maxRecDepth 100000
namespace DL
open PySem L2
variable [HW]
end DL
set_option maxRecDepth 100000
namespace DL
open PySem L2
variable [HW]
end DL
set_option maxRecDepth 100000
namespace DL
open PySem L2
variable [HW]
end DL
set_option maxRecDepth 100000
namespace DL
open PySem L2
variable [HW]
end DL
set_option maxRecDepth 100000
namespace DL
open PySem L2
variable [HW]
end DL
set_option maxRecDepth 100000
namespace DL
open PySem L2
variable [HW]
end DL
set_option maxRecDepth 100000
set_option maxHeartbeats 400000
namespace DL
open PySem L2
variable [HW]
end DL
namespace DL
open PySem L2
variable [HW]
noncomputable def m_goers : FM := fnM false 1 3 (sRet (fLc false (seqI (fVar 0)) (gT 2 (gC (gN 1) (gC (gN 2) (gE)))) (fB (f2 (eqW true) (fVar 1) (fVar 2))) (fVar 1) [1, 2]))
noncomputable def m_call_of : FM := fnM false 2 4 (sSeq (sFor (seqI (fA (sortDW false) (fCons (fVar 1) (fNil)))) (gN 2)
    (sExpr (fA (m_look_name) (fCons (fVar 0) (fCons (fVar 2) (fNil))))))
    (sSeq (sFor (seqI (fSortV false (fVar 1))) (gN 2)
    (sExpr (fA (m_look_name) (fCons (fVar 0) (fCons (fVar 2) (fNil))))))
    (sRet (fA tupleW (fCons (fLc false (seqI (fA (sortW false) (fCons (fVar 0) (fNil)))) (gN 3) (bYes) (fA tupW (fCons (fVar 3) (fCons (fGet (fVar 1) (fVar 3) (fVar 3)) (fNil)))) [3]) (fNil))))))
noncomputable def m_going : FM := fnM false 3 3 (sSeq (sExpr (fA (m_look_name) (fCons (fVar 0) (fCons (fVar 1) (fNil)))))
    (sRet (fA (m_call_of) (fCons (fVar 0) (fCons (fDv false [(1, 2)]) (fNil))))))
end DL
namespace DL
open PySem L2
variable [HW]
end DL
namespace DL
open PySem L2
variable [HW]
end DL
namespace DL
open PySem L2
variable [HW]
end DL
namespace DL
open PySem L2
variable [HW]
end DL
set_option maxRecDepth 100000
set_option maxHeartbeats 400000
namespace DL
open PySem L2
variable [HW]
@[reducible] def Dm {α : Sort u} (_ : α) : Type := Unit
def ob {α β : Type} (k : α → Hh → Option (β × Hh)) (u : Dm k) (r : Option (α × Hh)) : Option (β × Hh) := obnd r k
theorem obnd_x {α β : Type} (r : Option (α × Hh)) (k : α → Hh → Option (β × Hh)) : obnd r k = ob k () r := rfl
theorem ob_some {α β : Type} (k : α → Hh → Option (β × Hh)) (u : Dm k) (a : α) (h : Hh) : ob k u (some (a, h)) = k a h := rfl
def sb {α : Type} (k : α → Hh → Option (Out × Hh)) (u : Dm k) (r : Option (α × Hh)) : Option (Out × Hh) := sbnd r k
theorem sbnd_x {α : Type} (r : Option (α × Hh)) (k : α → Hh → Option (Out × Hh)) : sbnd r k = sb k () r := rfl
theorem sb_some {α : Type} (k : α → Hh → Option (Out × Hh)) (u : Dm k) (a : α) (h : Hh) : sb k u (some (a, h)) = k a h := rfl
def seqK (g : SM) (u : Dm g) (r : Option (Out × Hh)) : Option (Out × Hh) := match r with
  | some (.nx ρ1, h1) => g ρ1 h1
  | r => r
theorem sSeq_e (f g : SM) (ρ : Env) (h : Hh) : sSeq f g ρ h = seqK g () (f ρ h) := rfl
theorem seqK_nx (g : SM) (u : Dm g) (ρ : Env) (h : Hh) : seqK g u (some (.nx ρ, h)) = g ρ h := rfl
theorem seqK_rt (g : SM) (u : Dm g) (w : W) (h : Hh) : seqK g u (some (.rt w, h)) = some (.rt w, h) := rfl
theorem seqK_bk (g : SM) (u : Dm g) (ρ : Env) (h : Hh) : seqK g u (some (.bk ρ, h)) = some (.bk ρ, h) := rfl
theorem seqK_ct (g : SM) (u : Dm g) (ρ : Env) (h : Hh) : seqK g u (some (.ct ρ, h)) = some (.ct ρ, h) := rfl
def frK (g : SM) (u : Dm g) (r : Option (Env × Hh)) : Option (Out × Hh) := match r with
  | some (ρ, h) => g ρ h
  | none => none
theorem sFrz_e (i : Nat) (f : SM) (ρ : Env) (h : Hh) : sFrz i f ρ h = frK f () (frz i ρ h) := rfl
theorem frK_some (g : SM) (u : Dm g) (ρ : Env) (h : Hh) : frK g u (some (ρ, h)) = g ρ h := rfl
theorem isR_ref (n m : Nat) : isR n (some (.ref m)) = decide (m = n) := rfl
theorem isR_dat (n : Nat) (d : D) : isR n (some (.dat d)) = false := rfl
theorem isR_none (n : Nat) : isR n none = false := rfl
def retK (rm : Bool) (h : Hh) (r : Option (Out × Hh)) : Option (W × Hh) := match r with
    | some (.rt w, h') => leave rm h w h'
    | some (.nx _, h') => leave rm h (.dat .none) h'
    | _ => none
theorem retK_rt (rm : Bool) (h : Hh) (w : W) (h' : Hh) : retK rm h (some (.rt w, h')) = leave rm h w h' := rfl
theorem retK_nx (rm : Bool) (h : Hh) (ρ : Env) (h' : Hh) : retK rm h (some (.nx ρ, h')) = leave rm h (.dat .none) h' := rfl
def iteK {α : Type} (x y : α) (u : Dm (x, y)) (b : Bool) : α := if b = true then x else y
theorem ite_x {α : Type} (b : Bool) (x y : α) : (if b = true then x else y) = iteK x y () b := rfl
theorem iteK_t {α : Type} (x y : α) (u : Dm (x, y)) : iteK x y u true = x := rfl
theorem iteK_f {α : Type} (x y : α) (u : Dm (x, y)) : iteK x y u false = y := rfl
theorem subW_e (x y : W) (h : Hh) : subW x y h = intW (fun _ _ => true) (fun i j => i - j) x y h := rfl
theorem modW_e (x y : W) (h : Hh) : modW x y h = intW (fun _ j => decide (0 < j)) (fun i j => i % j) x y h := rfl
theorem divW_e (x y : W) (h : Hh) : divW x y h = intW (fun _ j => decide (0 < j ∧ j < 1073741824)) (fun i j => i / j) x y h := rfl
theorem powW_e (x y : W) (h : Hh) : powW x y h = intW (fun i j => decide (0 ≤ j ∧ j ≤ 1000000 ∧ i.natAbs < 18446744073709551616)) (fun i j => i ^ j.toNat) x y h := rfl
theorem lt_e (x y : W) (h : Hh) : lt_W x y h = ltW (fun i j => decide (i < j)) (fun i j => decide (i < j)) x y h := rfl
theorem gt_e (x y : W) (h : Hh) : gt_W x y h = ltW (fun i j => decide (j < i)) (fun i j => decide (j < i)) x y h := rfl
theorem le_e (x y : W) (h : Hh) : le_W x y h = ltW (fun i j => decide (i ≤ j)) (fun i j => !decide (j < i)) x y h := rfl
theorem ge_e (x y : W) (h : Hh) : ge_W x y h = ltW (fun i j => decide (j ≤ i)) (fun i j => !decide (i < j)) x y h := rfl
theorem allW_e (ws : List W) (h : Hh) : allW ws h = lW bools (fun bs => .bool (bs.all id)) ws h := rfl
theorem anyW_e (ws : List W) (h : Hh) : anyW ws h = lW bools (fun bs => .bool (bs.any id)) ws h := rfl
theorem sumW_e (ws : List W) (h : Hh) : sumW ws h = lW intsD (fun bs => .int bs.sum) ws h := rfl
theorem fnM_e (rm : Bool) (np nl : Nat) (body : SM) (ws : List W) (h : Hh) (e : ws.length = np) : fnM rm np nl body ws h = retK rm h (body (ws.map some ++ List.replicate (nl - np) none) h) := by
  unfold fnM
  rw [if_pos e]
  rfl
theorem iLT_none : (["list", "tuple"].any fun t => isT1 t (.none : D)) = false := by rfl
theorem iLT_bool (b : Bool) : (["list", "tuple"].any fun t => isT1 t (.bool b : D)) = false := by rfl
theorem iLT_int (i : Int) : (["list", "tuple"].any fun t => isT1 t (.int i : D)) = false := by rfl
theorem iLT_str (s : Str) : (["list", "tuple"].any fun t => isT1 t (.str s : D)) = false := by rfl
theorem iLT_list (ds : List D) : (["list", "tuple"].any fun t => isT1 t (.list ds : D)) = true := by rfl
theorem iLT_tup (ds : List D) : (["list", "tuple"].any fun t => isT1 t (.tuple ds : D)) = true := by rfl
theorem iL_none : (["list"].any fun t => isT1 t (.none : D)) = false := by rfl
theorem iL_bool (b : Bool) : (["list"].any fun t => isT1 t (.bool b : D)) = false := by rfl
theorem iL_int (i : Int) : (["list"].any fun t => isT1 t (.int i : D)) = false := by rfl
theorem iL_str (s : Str) : (["list"].any fun t => isT1 t (.str s : D)) = false := by rfl
theorem iL_list (ds : List D) : (["list"].any fun t => isT1 t (.list ds : D)) = true := by rfl
theorem iL_tup (ds : List D) : (["list"].any fun t => isT1 t (.tuple ds : D)) = false := by rfl
theorem iT_none : (["tuple"].any fun t => isT1 t (.none : D)) = false := by rfl
theorem iT_bool (b : Bool) : (["tuple"].any fun t => isT1 t (.bool b : D)) = false := by rfl
theorem iT_int (i : Int) : (["tuple"].any fun t => isT1 t (.int i : D)) = false := by rfl
theorem iT_str (s : Str) : (["tuple"].any fun t => isT1 t (.str s : D)) = false := by rfl
theorem iT_list (ds : List D) : (["tuple"].any fun t => isT1 t (.list ds : D)) = false := by rfl
theorem iT_tup (ds : List D) : (["tuple"].any fun t => isT1 t (.tuple ds : D)) = true := by rfl
theorem iS_none : (["str"].any fun t => isT1 t (.none : D)) = false := by rfl
theorem iS_bool (b : Bool) : (["str"].any fun t => isT1 t (.bool b : D)) = false := by rfl
theorem iS_int (i : Int) : (["str"].any fun t => isT1 t (.int i : D)) = false := by rfl
theorem iS_str (s : Str) : (["str"].any fun t => isT1 t (.str s : D)) = true := by rfl
theorem iS_list (ds : List D) : (["str"].any fun t => isT1 t (.list ds : D)) = false := by rfl
theorem iS_tup (ds : List D) : (["str"].any fun t => isT1 t (.tuple ds : D)) = false := by rfl
theorem iI_none : (["int"].any fun t => isT1 t (.none : D)) = false := by rfl
theorem iI_bool (b : Bool) : (["int"].any fun t => isT1 t (.bool b : D)) = true := by rfl
theorem iI_int (i : Int) : (["int"].any fun t => isT1 t (.int i : D)) = true := by rfl
theorem iI_str (s : Str) : (["int"].any fun t => isT1 t (.str s : D)) = false := by rfl
theorem iI_list (ds : List D) : (["int"].any fun t => isT1 t (.list ds : D)) = false := by rfl
theorem iI_tup (ds : List D) : (["int"].any fun t => isT1 t (.tuple ds : D)) = false := by rfl
theorem iB_none : (["bool"].any fun t => isT1 t (.none : D)) = false := by rfl
theorem iB_bool (b : Bool) : (["bool"].any fun t => isT1 t (.bool b : D)) = true := by rfl
theorem iB_int (i : Int) : (["bool"].any fun t => isT1 t (.int i : D)) = false := by rfl
theorem iB_str (s : Str) : (["bool"].any fun t => isT1 t (.str s : D)) = false := by rfl
theorem iB_list (ds : List D) : (["bool"].any fun t => isT1 t (.list ds : D)) = false := by rfl
theorem iB_tup (ds : List D) : (["bool"].any fun t => isT1 t (.tuple ds : D)) = false := by rfl
theorem lcL_map {k : TM} {t : BM} {f : EM} {ρ : Env} {h : Hh} (p : D → Bool) (g : D → D) : ∀ {ds : List D}, (∀ d ∈ ds, ∃ ρ1, k (.dat d) ρ h = some ρ1 ∧ t ρ1 h = some (p d, h) ∧ (p d = true → f ρ1 h = some (.dat (g d), h))) → lcL k t f ρ ds h = some ((ds.filter p).map g, h)
  | [], _ => rfl
  | d :: ds, H => by
    obtain ⟨ρ1, e1, e2, e3⟩ := H d List.mem_cons_self
    have ih := lcL_map (k := k) (t := t) (f := f) (ρ := ρ) (h := h) p g (ds := ds) fun e he => H e (List.mem_cons_of_mem _ he)
    unfold lcL
    simp only [e1, e2, obnd]
    cases hp : p d with
    | true =>
      simp only [if_true]
      rw [e3 hp]
      simp only [ih, List.filter_cons, hp, if_true, List.map_cons]
    | false => simp only [Bool.false_eq_true, if_false, ih, List.filter_cons, hp]
theorem lcL_all {k : TM} {t : BM} {f : EM} {ρ : Env} {h : Hh} (g : D → D) {ds : List D} (H : ∀ d ∈ ds, ∃ ρ1, k (.dat d) ρ h = some ρ1 ∧ t ρ1 h = some (true, h) ∧ f ρ1 h = some (.dat (g d), h)) : lcL k t f ρ ds h = some (ds.map g, h) := by
  have := lcL_map (k := k) (t := t) (f := f) (ρ := ρ) (h := h) (fun _ => true) g (ds := ds) fun d hd => by
    obtain ⟨ρ1, a, b, c⟩ := H d hd
    exact ⟨ρ1, a, b, fun _ => c⟩
  rwa [List.filter_eq_self.mpr (fun _ _ => rfl)] at this
theorem lcL_inv {k : TM} {f : EM} {ρ : Env} (I : Nat → Hh → Prop) (R : Nat → D → Prop) : ∀ {ds : List D} {n : Nat} {h : Hh}, I n h → (∀ (j : Nat) (d : D), ds[j]? = some d → ∀ h, I (n + j) h → ∃ ρ1 d' h', k (.dat d) ρ h = some ρ1 ∧ f ρ1 h = some (.dat d', h') ∧ R (n + j) d' ∧ I (n + j + 1) h') →
    ∃ rs h', lcL k bYes f ρ ds h = some (rs, h') ∧ rs.length = ds.length ∧ (∀ (j : Nat) (r : D), rs[j]? = some r → R (n + j) r) ∧ I (n + ds.length) h'
  | [], n, h, i, _ => ⟨[], h, rfl, rfl, (fun j r hr => by simp at hr), i⟩
  | d :: ds, n, h, i, H => by
    obtain ⟨ρ1, d', h1, e1, e2, r, i1⟩ := H 0 d rfl h i
    obtain ⟨rs, h2, e3, hl, hr, i2⟩ := lcL_inv (k := k) (f := f) (ρ := ρ) I R (ds := ds) (n := n + 1) i1 fun j e he h q => by
      have := H (j + 1) e (by simpa using he) h (by rw [← show n + 1 + j = n + (j + 1) by omega]; exact q)
      rw [show n + 1 + j = n + (j + 1) by omega]
      exact this
    refine ⟨d' :: rs, h2, ?_, by simp [hl], ?_, ?_⟩
    · unfold lcL
      simp only [e1, bYes, obnd, if_true, e2]
      rw [e3]
    · intro j x hx
      cases j with
      | zero => simp at hx; subst hx; exact r
      | succ j =>
        have := hr j x (by simpa using hx)
        rw [show n + 1 + j = n + (j + 1) by omega] at this
        exact this
    · rw [List.length_cons, show n + (ds.length + 1) = n + 1 + ds.length by omega]; exact i2
theorem forL_inv {k : TM} {body : SM} (I : Nat → Env → Hh → Prop) : ∀ {ds : List D} {n : Nat} {ρ : Env} {h : Hh}, I n ρ h → (∀ (j : Nat) (d : D), ds[j]? = some d → ∀ ρ h, I (n + j) ρ h → ∃ ρ1 ρ2 h2, k (.dat d) ρ h = some ρ1 ∧ body ρ1 h = some (.nx ρ2, h2) ∧ I (n + j + 1) ρ2 h2) →
    ∃ ρ' h', forL k body ds ρ h = some (.nx ρ', h') ∧ I (n + ds.length) ρ' h'
  | [], n, ρ, h, i, _ => ⟨ρ, h, rfl, i⟩
  | d :: ds, n, ρ, h, i, H => by
    obtain ⟨ρ1, ρ2, h2, e1, e2, i2⟩ := H 0 d rfl ρ h i
    obtain ⟨ρ', h', e3, i3⟩ := forL_inv (k := k) (body := body) I (ds := ds) (n := n + 1) i2 fun j e he ρ h q => by
      obtain ⟨a, b, c, x, y, z⟩ := H (j + 1) e (by simpa using he) ρ h (by rw [← show n + 1 + j = n + (j + 1) by omega]; exact q)
      exact ⟨a, b, c, x, y, by rw [show n + 1 + j + 1 = n + (j + 1) + 1 by omega]; exact z⟩
    refine ⟨ρ', h', ?_, by rw [List.length_cons, show n + (ds.length + 1) = n + 1 + ds.length by omega]; exact i3⟩
    unfold forL
    simp only [e1, e2, e3]
theorem getK_cons (e : D × D) (es : List (D × D)) (k : Key) : getK (e :: es) k = if dKey e.1 = some k then some e.2 else getK es k := by
  unfold getK
  rw [List.find?_cons]
  by_cases h : dKey e.1 = some k
  · simp [h]
  · simp [h]
def sdic (l : List (Str × D)) : List (D × D) := l.map fun p => (.str p.1, p.2)
theorem dKey_str (s : Str) : dKey (.str s) = some (.inr s) := rfl
theorem getK_sdic (s : Str) : ∀ l : List (Str × D), getK (sdic l) (.inr s) = l.lookup s
  | [] => rfl
  | (t, d) :: l => by
    show getK ((.str t, d) :: sdic l) (.inr s) = _
    rw [getK_cons, getK_sdic s l, List.lookup_cons, dKey_str]
    by_cases h : t = s
    · subst h; simp
    · have h1 : ¬ (some (Sum.inr t : Key) = some (Sum.inr s)) := fun z => h (by cases z; rfl)
      have h2 : (s == t) = false := by simpa using fun z => h z.symm
      rw [if_neg h1, h2]
theorem isT_sdic : ∀ l : List (Str × D), isT (sdic l) = false
  | [] => rfl
  | (t, d) :: l => rfl
theorem getD_sdic (l : List (Str × D)) (s : Str) : getD (sdic l) (.str s) = some (l.lookup s) := by
  unfold getD
  rw [isT_sdic, if_neg (by simp), dKey_str]
  simp [getK_sdic]
theorem sdic_snoc (l : List (Str × D)) (s : Str) (d : D) : sdic (l ++ [(s, d)]) = sdic l ++ [(.str s, d)] := by simp [sdic]
theorem putK_sdic {l : List (Str × D)} {s : Str} (d : D) (h : l.lookup s = none) : putK' (sdic l) (.inr s) d = sdic (l ++ [(s, d)]) := by
  unfold putK'
  rw [getK_sdic, h, sdic_snoc]
  rfl
theorem lookup_none {l : List (Str × D)} {s : Str} (h : s ∉ l.map (·.1)) : l.lookup s = none := by
  induction l with
  | nil => rfl
  | cons p l ih =>
    obtain ⟨t, d⟩ := p
    simp only [List.map_cons, List.mem_cons, not_or] at h
    rw [List.lookup_cons, show (s == t) = false by simpa using h.1]
    exact ih h.2
theorem merge_sdic : ∀ (ps : List (Str × D)) (l : List (Str × D)), ((l ++ ps).map (·.1)).Nodup → mergeD (sdic l) (ps.map fun p => (Sum.inr p.1, p.2)) = sdic (l ++ ps)
  | [], l, _ => by simp [mergeD]
  | (s, d) :: ps, l, h => by
    have hn : s ∉ l.map (·.1) := by
      rw [List.map_append, List.nodup_append] at h
      intro z
      exact h.2.2 _ z _ (by simp) rfl
    have e : mergeD (sdic l) (((s, d) :: ps).map fun p => (Sum.inr p.1, p.2)) = mergeD (putK' (sdic l) (.inr s) d) (ps.map fun p => (Sum.inr p.1, p.2)) := rfl
    rw [e, putK_sdic d (lookup_none hn), merge_sdic ps (l ++ [(s, d)]) (by simpa using h)]
    simp
def prs (ps : List (Str × D)) : List D := ps.map fun p => .tuple [.str p.1, p.2]
theorem pairsK_prs : ∀ ps : List (Str × D), pairsK (prs ps) = some (ps.map fun p => (Sum.inr p.1, p.2))
  | [] => rfl
  | (s, d) :: ps => by
    show (match dKey (.str s), pairsK (prs ps) with | some k, some r => some ((k, d) :: r) | _, _ => none) = _
    rw [pairsK_prs ps]
    rfl
theorem dcL_sdic {k : TM} {fk fv : EM} {ρ : Env} {h : Hh} (g : D → Str × D) : ∀ {ds : List D} {l : List (Str × D)}, ((l ++ ds.map g).map (·.1)).Nodup → (l ++ ds.map g).length ≤ sizeLine →
    (∀ d ∈ ds, ∃ ρ1, k (.dat d) ρ h = some ρ1 ∧ fk ρ1 h = some (.dat (.str (g d).1), h) ∧ fv ρ1 h = some (.dat (g d).2, h)) → dcL k bYes fk fv ρ ds (sdic l) h = some (sdic (l ++ ds.map g), h)
  | [], l, _, _, _ => by simp [dcL]
  | d :: ds, l, hn, hl, H => by
    obtain ⟨ρ1, e1, e2, e3⟩ := H d List.mem_cons_self
    have hn' : (g d).1 ∉ l.map (·.1) := by
      rw [List.map_append, List.nodup_append] at hn
      intro z
      exact hn.2.2 _ z _ (by simp) rfl
    unfold dcL
    simp only [e1, bYes, obnd, if_true, e2, e3, dKey_str]
    have hlen : (sdic l).length < sizeLine := by
      simp only [sdic, List.length_map]
      simp only [List.length_append, List.length_map, List.length_cons] at hl
      omega
    rw [if_pos hlen, putK_sdic _ (lookup_none hn')]
    have ih := dcL_sdic (k := k) (fk := fk) (fv := fv) (ρ := ρ) (h := h) g (ds := ds) (l := l ++ [((g d).1, (g d).2)]) (by simpa using hn) (by simpa using hl) fun e he => H e (List.mem_cons_of_mem _ he)
    rw [ih]
    simp
end DL
set_option maxRecDepth 100000
set_option maxHeartbeats 400000
namespace DL
open PySem L2
variable [HW]
local macro_rules | `(tactic| walk_at "dl") => `(tactic| simp (config := { dsimp := false }) only [↓fnM_e, ↓sSeq_e, seqK_nx, seqK_rt, seqK_bk, seqK_ct, retK_rt, retK_nx, ↓sFrz_e, frK_some, ↓sAsg, ↓sRet, ↓sRetN, ↓sIf, ↓sExpr, ↓sSkip, ↓sNever, ↓sPar, ↓sFor, ↓sSub, ↓fVar, ↓fC, ↓fNil, ↓fCons, ↓fA, ↓f1, ↓f2, ↓fB, ↓fIf, ↓fNeg, ↓fNot, ↓fAnd, ↓fOr, ↓bNot, ↓bAnd, ↓bOr, ↓bYes, ↓obnd_x, ob_some, ↓sbnd_x, sb_some, ↓ite_x, iteK_t, iteK_f, gN, gT, gC, gE, ↓rng1I, ↓rng2I, ↓seqI, ↓enumA, ↓zipI, ↓strI, ↓fLc, ↓fDc, ↓fM, ↓fSl, ↓oNone, ↓oSome, ↓fRev, wipeE, ↓kwM, permM, permL, List.foldr, List.length_cons, List.length_nil, List.map_cons, List.map_nil, List.cons_append, List.nil_append, List.replicate, List.replicate_succ, List.replicate_zero, List.getElem?_cons_zero, List.getElem?_cons_succ, List.set_cons_zero, List.set_cons_succ, if_true, if_false, reduceIte, Nat.reduceAdd, Nat.reduceSub, Nat.reduceEqDiff, Nat.reduceLT, Nat.reduceLeDiff, Int.reduceLT, Int.reduceLE, Int.reduceNeg, Int.reduceMul, Int.reduceAdd, Int.reduceSub, Int.reduceToNat, Int.reducePow, Int.reduceEq, ok, bok, deref, mkL, lstW, tupW, dats, Option.map_some, appendW, insertW, setL, isL, listW, tupleW, lenW, absW, intC, maxW, minW, idxW, addW, subW_e, modW_e, divW_e, powW_e, mulW, intW, lt_e, gt_e, le_e, ge_e, ltW, allW_e, anyW_e, sumW_e, lW, setW, lstAt, cutW, backW, isW, isiW, iLT_none, iLT_bool, iLT_int, iLT_str, iLT_list, iLT_tup, iL_none, iL_bool, iL_int, iL_str, iL_list, iL_tup, iT_none, iT_bool, iT_int, iT_str, iT_list, iT_tup, iS_none, iS_bool, iS_int, iS_str, iS_list, iS_tup, iI_none, iI_bool, iI_int, iI_str, iI_list, iI_tup, iB_none, iB_bool, iB_int, iB_str, iB_list, iB_tup, Bool.false_eq_true, reduceCtorEq, Bool.not_true, Bool.not_false, decide_true, decide_false, List.zip_cons_cons, List.zip_nil_left, List.foldl_cons, List.foldl_nil, and_self, and_true, true_and, Bool.and_true, Bool.true_and, Bool.or_true, Bool.true_or, *])
def BoxAt (h : Hh) (b c : Nat) : Prop := ∃ d s k : Int, h[b]? = some (some (.lst [.int d, .int s, .int k])) ∧ 0 ≤ d ∧ 0 ≤ s ∧ s < 1099511627776 ∧ 0 ≤ k ∧ k ≤ c
structure Only (b : Nat) (h h' : Hh) : Prop where
  len : h'.length = h.length
  off : ∀ i : Nat, i ≠ b → h'[i]? = h[i]?
theorem Only.refl (b : Nat) (h : Hh) : Only b h h := ⟨rfl, fun _ _ => rfl⟩
theorem Only.trans {b : Nat} {h h1 h2 : Hh} (x : Only b h h1) (y : Only b h1 h2) : Only b h h2 := ⟨y.len.trans x.len, fun i n => (y.off i n).trans (x.off i n)⟩
theorem only_set (b : Nat) (h : Hh) (o : Option MO) : Only b h (h.set b o) := ⟨by simp, fun i n => by rw [List.getElem?_set_ne (fun z => n z.symm)]⟩
theorem BoxAt.mono {h : Hh} {b c c' : Nat} (x : BoxAt h b c) (hc : c ≤ c') : BoxAt h b c' := by
  obtain ⟨d, s, k, e, h1, h2, h3, h4, h5⟩ := x
  exact ⟨d, s, k, e, h1, h2, h3, h4, by omega⟩
theorem BoxAt.lt {h : Hh} {b c : Nat} (x : BoxAt h b c) : b < h.length := by
  obtain ⟨d, s, k, e, _⟩ := x
  exact (List.getElem?_eq_some_iff.mp e).1
theorem live_only {b c c' : Nat} {h h' : Hh} (x : BoxAt h b c) (y : BoxAt h' b c') (o : Only b h h') : live h' = live h := by
  apply List.ext_getElem?
  intro i
  unfold live
  rw [List.getElem?_map, List.getElem?_map]
  by_cases hi : i = b
  · subst hi
    obtain ⟨_, _, _, e1, _⟩ := x
    obtain ⟨_, _, _, e2, _⟩ := y
    rw [e1, e2]
    rfl
  · rw [o.off i hi]
theorem leave_dat {h h' : Hh} {d : D} (e : live (h'.take h.length) = live h) : leave false h (.dat d) h' = some (.dat d, h'.take h.length) := by
  unfold leave
  rw [if_pos e]
theorem leave_dat' {b c c' : Nat} {h h' : Hh} {d : D} (x : BoxAt h b c) (y : BoxAt h' b c') (o : Only b h h') : leave false h (.dat d) h' = some (.dat d, h') := by
  have e : h'.take h.length = h' := List.take_of_length_le (by rw [o.len]; exact Nat.le_refl _)
  rw [leave_dat (by rw [e]; exact live_only x y o), e]
theorem leave_same' {h : Hh} {d : D} : leave false h (.dat d) h = some (.dat d, h) := by
  have e : h.take h.length = h := List.take_of_length_le (Nat.le_refl _)
  rw [leave_dat (by rw [e]), e]
theorem atI3 (x y z : D) : L2.atI [x, y, z] 0 = some x ∧ L2.atI [x, y, z] 1 = some y ∧ L2.atI [x, y, z] 2 = some z := ⟨rfl, rfl, rfl⟩
theorem ix3 : ixN 3 0 = some 0 ∧ ixN 3 1 = some 1 ∧ ixN 3 2 = some 2 := ⟨rfl, rfl, rfl⟩
theorem take_ok {h : Hh} {b c : Nat} {n : Int} (hb : BoxAt h b c) (hc : c < 1099511627776) (h0 : 0 < n) (h1 : n < 1073741824) :
    ∃ r h', m__law_take [.ref b, .dat (.int n)] h = some (.dat (.int r), h') ∧ 0 ≤ r ∧ r < n ∧ BoxAt h' b (c + 1) ∧ Only b h h' := by
  obtain ⟨d, s, k, e, hd, hs, hs2, hk, hk2⟩ := id hb
  have lb := hb.lt
  have a0 := fun x y z : D => (atI3 x y z).1
  have a1 := fun x y z : D => (atI3 x y z).2.1
  have a2 := fun x y z : D => (atI3 x y z).2.2
  have i0 := ix3.1
  have i2 := ix3.2.2
  by_cases hp : 0 < d
  · have y : BoxAt (h.set b (some (.lst [.int (d / n), .int s, .int k]))) b c := ⟨d / n, s, k, by rw [List.getElem?_set_self lb], Int.ediv_nonneg hd (by omega), hs, hs2, hk, hk2⟩
    refine ⟨d % n, h.set b (some (.lst [.int (d / n), .int s, .int k])), ?_, Int.emod_nonneg _ (by omega), Int.emod_lt_of_pos _ h0, y.mono (by omega), only_set _ _ _⟩
    unfold m__law_take
    walk_at "dl"
    exact leave_dat' hb y (only_set _ _ _)
  · have y : BoxAt (h.set b (some (.lst [.int d, .int s, .int (k + 1)]))) b (c + 1) := ⟨d, s, k + 1, by rw [List.getElem?_set_self lb], hd, hs, hs2, by omega, by omega⟩
    have hp' : decide (0 < d) = false := by simpa using hp
    have g1 : (h.set b (some (.lst [.int d, .int s, .int (k + 1)])))[b]? = some (some (.lst [.int d, .int s, .int (k + 1)])) := by rw [List.getElem?_set_self lb]
    have hw : (s + 39373 * (k + 1)).natAbs < 18446744073709551616 := by omega
    have o1 : -18446744073709551616 < (s + 39373 * (k + 1)) ^ 5 % 2147483647 := by omega
    have o2 : (s + 39373 * (k + 1)) ^ 5 % 2147483647 < 18446744073709551616 := by omega
    have k1 : -18446744073709551616 < k + 1 := by omega
    have k2 : k + 1 < 18446744073709551616 := by omega
    refine ⟨((s + 39373 * (k + 1)) ^ 5 % 2147483647 * ((s + 39373 * (k + 1)) ^ 5 % 2147483647 % 40009 + 7) + (k + 1) * 7919) % 2147483629 / 64 % n, h.set b (some (.lst [.int d, .int s, .int (k + 1)])), ?_, Int.emod_nonneg _ (by omega), Int.emod_lt_of_pos _ h0, y, only_set _ _ _⟩
    unfold m__law_take
    walk_at "dl"
    exact leave_dat' hb y (only_set _ _ _)
theorem insert_perm {α : Type} (l : List α) (x : α) (i : Nat) : (l.take i ++ [x] ++ l.drop i).Perm (x :: l) := by
  have h1 : (l.take i ++ [x] ++ l.drop i).Perm ([x] ++ l.take i ++ l.drop i) := List.Perm.append_right _ List.perm_append_comm
  refine h1.trans ?_
  rw [List.append_assoc, List.take_append_drop]
  exact List.Perm.refl _
theorem only_app {b : Nat} {h h' : Hh} {o : Option MO} (hb : b < h.length) (x : Only b (h ++ [o]) h') : Only b h (h'.take h.length) ∧ ∃ g : Hh, h' = g ++ [o] ∧ g.length = h.length := by
  have hl : h'.length = h.length + 1 := by rw [x.len]; simp
  have e : h'[h.length]? = some o := by rw [x.off _ (by omega)]; simp
  have e2 : h' = h'.take h.length ++ [o] := by
    apply List.ext_getElem?
    intro i
    by_cases hi : i < h.length
    · rw [List.getElem?_append_left (by simp; omega), List.getElem?_take_of_lt hi]
    · by_cases hi2 : i = h.length
      · subst hi2
        rw [e, List.getElem?_append_right (by simp; omega)]
        simp [hl]
      · rw [List.getElem?_eq_none (by omega), List.getElem?_eq_none (by simp; omega)]
  refine ⟨⟨by simp [hl], fun i n => ?_⟩, h'.take h.length, e2, by simp [hl]⟩
  by_cases hi : i < h.length
  · rw [List.getElem?_take_of_lt hi, x.off i n, List.getElem?_append_left hi]
  · rw [List.getElem?_eq_none (by simp; omega), List.getElem?_eq_none (by omega)]
theorem box_app {h : Hh} {b c : Nat} {l : Hh} (x : BoxAt h b c) : BoxAt (h ++ l) b c := by
  have lb := x.lt
  obtain ⟨d, s, k, e, r⟩ := x
  exact ⟨d, s, k, by rw [List.getElem?_append_left lb]; exact e, r⟩
theorem box_take {h : Hh} {b c n : Nat} (x : BoxAt h b c) (hb : b < n) : BoxAt (h.take n) b c := by
  obtain ⟨d, s, k, e, r⟩ := x
  exact ⟨d, s, k, by rw [List.getElem?_take_of_lt hb]; exact e, r⟩
theorem take_snoc {α : Type} {l : List α} {n : Nat} {x : α} (e : l[n]? = some x) : l.take (n + 1) = l.take n ++ [x] := by
  rw [List.take_add_one, e]; rfl
theorem strewn_ok {h : Hh} {b c : Nat} {x : D} {ds : List D} (hx : x = .list ds ∨ x = .tuple ds) (hb : BoxAt h b c) (hc : c + ds.length < 1000000000) (hl : ds.length < 1000000) :
    ∃ rs h', m__law_strewn [.ref b, .dat x] h = some (.dat (.list rs), h') ∧ rs.Perm ds ∧ BoxAt h' b (c + ds.length) ∧ Only b h h' := by
  have hz : sizeLine = 16777216 := by rfl
  have key := forL_inv (k := gN 3) (body := sExpr (fM isL insertW (fVar 2) (fCons (fA (m__law_take) (fCons (fVar 0) (fCons (f2 (addW false) (fA lenW (fCons (fVar 2) (fNil))) (fC (.int 1))) (fNil)))) (fCons (fVar 3) (fNil)))))
    (fun n ρ g => ∃ (v : Option W) (rs : List D) (g' : Hh), ρ = [some (.ref b), some (.dat x), some (.ref h.length), v] ∧ g = g' ++ [some (.lst rs)] ∧ g'.length = h.length ∧ rs.Perm (ds.take n) ∧ BoxAt g' b (c + n) ∧ Only b h g') (ds := ds) (n := 0)
    (ρ := [some (.ref b), some (.dat x), some (.ref h.length), none]) (h := h ++ [some (.lst [])])
    ⟨none, [], h, rfl, rfl, rfl, by simp, hb, .refl _ _⟩ (by
      intro j d ej ρ g hi
      obtain ⟨v, rs, g', rfl, rfl, gl, pm, bx, on⟩ := hi
      rw [Nat.zero_add] at pm bx ⊢
      have hj : j < ds.length := (List.getElem?_eq_some_iff.mp ej).1
      have rl : rs.length = j := by rw [pm.length_eq, List.length_take]; omega
      have bg := bx.lt
      obtain ⟨r, g2, e2, r0, r1, bx2, on2⟩ := take_ok (n := (rs.length : Int) + 1) (box_app (l := [some (.lst rs)]) bx) (by omega) (by omega) (by omega)
      obtain ⟨on3, g3, rfl, g3l⟩ := only_app bg on2
      have hg : (g3 ++ [some (MO.lst rs)])[h.length]? = some (some (.lst rs)) := by rw [List.getElem?_append_right (by omega), g3l, gl]; simp
      have hg0 : (g' ++ [some (MO.lst rs)])[h.length]? = some (some (.lst rs)) := by rw [List.getElem?_append_right (by omega), gl]; simp
      have hs : (g3 ++ [some (MO.lst rs)]).set h.length (some (.lst (rs.take r.toNat ++ [d] ++ rs.drop r.toNat))) = g3 ++ [some (.lst (rs.take r.toNat ++ [d] ++ rs.drop r.toNat))] := by
        rw [List.set_append_right _ _ (by omega), show h.length - g3.length = 0 by omega]; rfl
      have c1 : rs.length < sizeLine := by omega
      have c2 : r < 1000000 := by omega
      refine ⟨[some (.ref b), some (.dat x), some (.ref h.length), some (.dat d)], [some (.ref b), some (.dat x), some (.ref h.length), some (.dat d)], g3 ++ [some (.lst (rs.take r.toNat ++ [d] ++ rs.drop r.toNat))], rfl, ?_, _, _, g3, rfl, rfl, by omega, ?_, ?_, ?_⟩
      · clear rl hz
        walk_at "dl"
      · rw [take_snoc ej]
        exact (insert_perm rs d _).trans ((List.Perm.cons d pm).trans (List.perm_append_singleton d _).symm)
      · have := box_take bx2 (n := g3.length) (by omega)
        rw [List.take_append_of_le_length (Nat.le_refl _), List.take_length] at this
        exact this
      · have e : (g3 ++ [some (MO.lst rs)]).take g'.length = g3 := by rw [← g3l, List.take_append_of_le_length (Nat.le_refl _), List.take_length]
        rw [e] at on3
        exact on.trans on3)
  obtain ⟨ρ', h', e, v, rs, g', rfl, rfl, gl, pm, bx, on⟩ := key
  rw [Nat.zero_add, List.take_length] at pm
  rw [Nat.zero_add] at bx
  refine ⟨rs, g', ?_, pm, bx, on⟩
  have hg : (g' ++ [some (MO.lst rs)])[h.length]? = some (some (.lst rs)) := by rw [List.getElem?_append_right (by omega), gl]; simp
  have et : (g' ++ [some (MO.lst rs)]).take h.length = g' := by rw [← gl, List.take_append_of_le_length (Nat.le_refl _), List.take_length]
  have hlv := live_only hb bx on
  have nl : ¬ h.length < h.length := by omega
  unfold m__law_strewn
  rcases hx with rfl | rfl
  · walk_at "dl"
    unfold leave
    walk_at "dl"
  · walk_at "dl"
    unfold leave
    walk_at "dl"
end DL
set_option maxRecDepth 100000
set_option maxHeartbeats 400000
namespace DL
open PySem L2
variable [HW]
local macro_rules | `(tactic| walk_at "dl") => `(tactic| simp (config := { dsimp := false }) only [↓fnM_e, ↓sSeq_e, seqK_nx, seqK_rt, seqK_bk, seqK_ct, retK_rt, retK_nx, ↓sFrz_e, frK_some, ↓sAsg, ↓sRet, ↓sRetN, ↓sIf, ↓sExpr, ↓sSkip, ↓sNever, ↓sPar, ↓sFor, ↓sSub, ↓fVar, ↓fC, ↓fNil, ↓fCons, ↓fA, ↓f1, ↓f2, ↓fB, ↓fIf, ↓fNeg, ↓fNot, ↓fAnd, ↓fOr, ↓bNot, ↓bAnd, ↓bOr, ↓bYes, ↓obnd_x, ob_some, ↓sbnd_x, sb_some, ↓ite_x, iteK_t, iteK_f, gN, gT, gC, gE, ↓rng1I, ↓rng2I, ↓seqI, ↓enumA, ↓zipI, ↓strI, ↓fLc, ↓fDc, ↓fM, ↓fSl, ↓oNone, ↓oSome, ↓fRev, wipeE, ↓kwM, permM, permL, List.foldr, List.length_cons, List.length_nil, List.map_cons, List.map_nil, List.cons_append, List.nil_append, List.replicate, List.replicate_succ, List.replicate_zero, List.getElem?_cons_zero, List.getElem?_cons_succ, List.set_cons_zero, List.set_cons_succ, if_true, if_false, reduceIte, Nat.reduceAdd, Nat.reduceSub, Nat.reduceEqDiff, Nat.reduceLT, Nat.reduceLeDiff, Int.reduceLT, Int.reduceLE, Int.reduceNeg, Int.reduceMul, Int.reduceAdd, Int.reduceSub, Int.reduceToNat, Int.reducePow, Int.reduceEq, ok, bok, deref, mkL, lstW, tupW, dats, Option.map_some, appendW, insertW, setL, isL, listW, tupleW, lenW, absW, intC, maxW, minW, idxW, addW, subW_e, modW_e, divW_e, powW_e, mulW, intW, lt_e, gt_e, le_e, ge_e, ltW, allW_e, anyW_e, sumW_e, lW, setW, lstAt, cutW, backW, isW, isiW, iLT_none, iLT_bool, iLT_int, iLT_str, iLT_list, iLT_tup, iL_none, iL_bool, iL_int, iL_str, iL_list, iL_tup, iT_none, iT_bool, iT_int, iT_str, iT_list, iT_tup, iS_none, iS_bool, iS_int, iS_str, iS_list, iS_tup, iI_none, iI_bool, iI_int, iI_str, iI_list, iI_tup, iB_none, iB_bool, iB_int, iB_str, iB_list, iB_tup, Bool.false_eq_true, reduceCtorEq, Bool.not_true, Bool.not_false, decide_true, decide_false, List.zip_cons_cons, List.zip_nil_left, List.foldl_cons, List.foldl_nil, and_self, and_true, true_and, Bool.and_true, Bool.true_and, Bool.or_true, Bool.true_or, *])
theorem str_ext {a b : Str} (h : a.cps.toList = b.cps.toList) : a = b := by
  obtain ⟨⟨x⟩⟩ := a
  obtain ⟨⟨y⟩⟩ := b
  simp at h
  rw [h]
theorem cps_app (a b : Str) : (a ++ b).cps.toList = a.cps.toList ++ b.cps.toList := by
  show (a.cps ++ b.cps).toList = _
  simp
theorem len_app (a b : Str) : (a ++ b).length = a.length + b.length := by
  show (a.cps ++ b.cps).size = _
  simp [Str.length]
def lt1 (i : Nat) : Str := ⟨#[97 + i]⟩
def sfx : Nat → Str
  | 0 => ""
  | 1 => "a"
  | _ => "zz"
def nm (st sp at_ : Nat) : Str := lt1 ((st + sp * (at_ / 2)) % 26) ++ sfx (at_ % 2 * (1 + st % 2))
theorem sfx_len : (sfx 0).cps.toList = [] ∧ (sfx 1).cps.toList = [97] ∧ (sfx 2).cps.toList = [122, 122] := by decide +kernel
def Steps (sp : Nat) : Prop := sp = 1 ∨ sp = 3 ∨ sp = 25
theorem nm_cps (st sp a : Nat) : (nm st sp a).cps.toList = (97 + (st + sp * (a / 2)) % 26) :: (sfx (a % 2 * (1 + st % 2))).cps.toList := by
  unfold nm
  rw [cps_app]
  rfl
theorem nm_inj {st sp a b : Nat} (hs : Steps sp) (ha : a < 52) (hb : b < 52) (e : nm st sp a = nm st sp b) : a = b := by
  have e' := congrArg (fun s : Str => s.cps.toList) e
  simp only [nm_cps, List.cons.injEq] at e'
  obtain ⟨e1, e2⟩ := e'
  have e3 : a / 2 = b / 2 := by
    rcases hs with rfl | rfl | rfl <;> omega
  have e4 : a % 2 = b % 2 := by
    rcases Nat.mod_two_eq_zero_or_one a with h1 | h1 <;> rcases Nat.mod_two_eq_zero_or_one b with h2 | h2
    · rw [h1, h2]
    · exfalso
      rw [h1, h2, Nat.zero_mul, Nat.one_mul, sfx_len.1] at e2
      rcases Nat.mod_two_eq_zero_or_one st with h3 | h3
      · rw [h3, sfx_len.2.1] at e2; cases e2
      · rw [h3, sfx_len.2.2] at e2; cases e2
    · exfalso
      rw [h1, h2, Nat.zero_mul, Nat.one_mul, sfx_len.1] at e2
      rcases Nat.mod_two_eq_zero_or_one st with h3 | h3
      · rw [h3, sfx_len.2.1] at e2; cases e2
      · rw [h3, sfx_len.2.2] at e2; cases e2
    · rw [h1, h2]
  omega
structure Crew (most : Nat) (rs : List Str) : Prop where
  nd : rs.Nodup
  pos : 0 < rs.length
  le : rs.length ≤ most
  nam : ∀ s ∈ rs, ∃ st sp a, st < 26 ∧ Steps sp ∧ s = nm st sp a
theorem crew_of {most size st sp : Nat} {rs : List Str} (hm : most ≤ 52) (h0 : 0 < size) (h1 : size ≤ most) (hst : st < 26) (hs : Steps sp) (p : rs.Perm ((List.range size).map (nm st sp))) : Crew most rs := by
  refine ⟨?_, by rw [p.length_eq]; simpa using h0, by rw [p.length_eq]; simpa using h1, fun s hs' => ?_⟩
  · rw [p.nodup_iff]
    rw [List.Nodup, List.pairwise_map]
    refine List.Pairwise.imp_of_mem ?_ List.nodup_range
    intro a b ha hb hab e
    exact hab (nm_inj hs (by have := List.mem_range.mp ha; omega) (by have := List.mem_range.mp hb; omega) e)
  · obtain ⟨a, _, rfl⟩ := List.mem_map.mp (p.mem_iff.mp hs')
    exact ⟨st, sp, a, hst, hs, rfl⟩
def unS : D → Str
  | .str s => s
  | _ => ""
theorem perm_strs {rs : List D} {l : List Str} (p : rs.Perm (l.map .str)) : ∃ rs' : List Str, rs = rs'.map .str ∧ rs'.Perm l := by
  refine ⟨rs.map unS, ?_, ?_⟩
  · rw [List.map_map]
    have : ∀ d ∈ rs, (PyData.str ∘ unS) d = d := fun d hd => by
      obtain ⟨s, _, rfl⟩ := List.mem_map.mp (p.mem_iff.mp hd)
      rfl
    rw [List.map_congr_left this]
    simp
  · have := p.map unS
    rw [List.map_map] at this
    simpa [Function.comp_def, unS] using this
abbrev letters : Str := "abcdefghijklmnopqrstuvwxyz"
theorem letters_at {i : Nat} (h : i < 26) : L2.atI letters.cps.toList (i : Int) = some (97 + i) := by
  have : ∀ i : Fin 26, L2.atI letters.cps.toList ((i : Nat) : Int) = some (97 + i.1) := by decide +kernel
  exact this ⟨i, h⟩
theorem letters_len : letters.length ≤ sizeLine := by decide +kernel
theorem rng_get {n j : Nat} {d : D} (e : (rngD 0 n)[j]? = some d) : j < n ∧ d = .int (j : Int) := by
  obtain ⟨h1, h2⟩ := rngD_get e
  exact ⟨h1, by rw [h2]; simp⟩
theorem rng_len (n : Nat) : (rngD 0 n).length = n := by simp [rngD]
theorem sfx_at (j st : Nat) : L2.atI [PyData.str "", .str "a", .str "zz"] ((j : Int) % 2 * (1 + (st : Int) % 2)) = some (.str (sfx (j % 2 * (1 + st % 2)))) := by
  have e : (j : Int) % 2 * (1 + (st : Int) % 2) = ((j % 2 * (1 + st % 2) : Nat) : Int) := by push_cast; rfl
  have h : j % 2 * (1 + st % 2) = 0 ∨ j % 2 * (1 + st % 2) = 1 ∨ j % 2 * (1 + st % 2) = 2 := by
    rcases Nat.mod_two_eq_zero_or_one j with z | z <;> rw [z] <;> omega
  rw [e]
  rcases h with h | h | h <;> rw [h] <;> rfl
theorem sfx_le (k : Nat) : (sfx k).length ≤ 2 := by
  match k with
  | 0 => decide +kernel
  | 1 => decide +kernel
  | _ + 2 => show (sfx 2).length ≤ 2; decide +kernel
def crewBody : SM := sSeq (sAsg (f2 idxW (fVar 4) (f2 modW (f2 (addW false) (fVar 6) (f2 (mulW false) (fVar 7) (f2 divW (fVar 2) (fC (.int 2))))) (fC (.int 26)))) (gN 8))
    (sExpr (fM isL appendW (fVar 5) (fCons (f2 (addW false) (fVar 8) (f2 idxW (fA (lstW false) (fCons (fC (.str "")) (fCons (fC (.str "a")) (fCons (fC (.str "zz")) (fNil))))) (f2 (mulW false) (f2 modW (fVar 2) (fC (.int 2))) (f2 (addW false) (fC (.int 1)) (f2 modW (fVar 6) (fC (.int 2))))))) (fNil))))
theorem crew_turn {g : Hh} {b p : Nat} {st sp j sz most : Int} {l : List D} {w : Option W} {L sx : Str} {cc : Nat} (ll : L.length ≤ sizeLine) (la : L2.atI L.cps.toList ((st + sp * (j / 2)) % 26) = some cc) (hx : L2.atI [PyData.str "", .str "a", .str "zz"] (j % 2 * (1 + st % 2)) = some (.str sx))
    (hg : g[p]? = some (some (.lst l))) (hl : l.length < sizeLine) (s0 : 0 ≤ sp) (s1 : sp < 26) (hs : sx.length ≤ 2) :
    crewBody [some (.ref b), some (.dat (.int most)), some (.dat (.int j)), some (.dat (.int sz)), some (.dat (.str L)), some (.ref p), some (.dat (.int st)), some (.dat (.int sp)), w] g =
      some (.nx [some (.ref b), some (.dat (.int most)), some (.dat (.int j)), some (.dat (.int sz)), some (.dat (.str L)), some (.ref p), some (.dat (.int st)), some (.dat (.int sp)), some (.dat (.str ⟨#[cc]⟩))], g.set p (some (.lst (l ++ [.str (⟨#[cc]⟩ ++ sx)])))) := by
  have c0 : -18446744073709551616 < sp := by omega
  have c1 : sp < 18446744073709551616 := by omega
  have c3 : -18446744073709551616 < j % 2 := by omega
  have c4 : j % 2 < 18446744073709551616 := by omega
  have c5 : (Str.length ⟨#[cc]⟩) + sx.length ≤ sizeLine := by
    have hz : sizeLine = 16777216 := by rfl
    show 1 + _ ≤ _
    omega
  have c7 : 3 ≤ sizeLine := by decide
  unfold crewBody
  walk_at "dl"
theorem crew_turn_none {g : Hh} {b p st sp j : Nat} {sz most : Int} {l : List D} {w : Option W} (hg : g[p]? = some (some (.lst l))) (hl : l.length < sizeLine) (s1 : sp < 26) :
    ∃ w', crewBody [some (.ref b), some (.dat (.int most)), some (.dat (.int j)), some (.dat (.int sz)), some (.dat (.str letters)), some (.ref p), some (.dat (.int st)), some (.dat (.int sp)), w] g =
      some (.nx [some (.ref b), some (.dat (.int most)), some (.dat (.int j)), some (.dat (.int sz)), some (.dat (.str letters)), some (.ref p), some (.dat (.int st)), some (.dat (.int sp)), w'], g.set p (some (.lst (l ++ [.str (nm st sp j)])))) ∧ ∀ n, isR n w' = false := by
  have hi : ((st : Int) + sp * ((j : Int) / 2)) % 26 = (((st + sp * (j / 2)) % 26 : Nat) : Int) := by push_cast; rfl
  exact ⟨_, crew_turn letters_len (by rw [hi]; exact letters_at (Nat.mod_lt _ (by omega))) (sfx_at j st) hg hl (by omega) (by omega) (sfx_le _), fun _ => rfl⟩
theorem crew_run {h g1 g2 g3 g5 g6 : Hh} {b : Nat} {most r1 r2 r3 sp : Int} {L : Str} (hL : L = letters) {pool rs : List D} {v w : Option W} (e1 : m__law_take [.ref b, .dat (.int most)] h = some (.dat (.int r1), g1)) (e2 : m__law_take [.ref b, .dat (.int 26)] (g1 ++ [some (.lst [])]) = some (.dat (.int r2), g2))
    (e3 : m__law_take [.ref b, .dat (.int 3)] g2 = some (.dat (.int r3), g3)) (hsi : L2.atI [PyData.int 1, .int 3, .int 25] r3 = some (.int sp)) (b0 : -1000000000 ≤ 1 + r1) (b1 : 1 + r1 ≤ 1000000000)
    (key : forL (gN 2) crewBody (rngD 0 (1 + r1).toNat) [some (.ref b), some (.dat (.int most)), none, some (.dat (.int (1 + r1))), some (.dat (.str L)), some (.ref g1.length), some (.dat (.int r2)), some (.dat (.int sp)), none] g3 =
      some (.nx [some (.ref b), some (.dat (.int most)), v, some (.dat (.int (1 + r1))), some (.dat (.str L)), some (.ref g1.length), some (.dat (.int r2)), some (.dat (.int sp)), w], g5))
    (hv : ∀ n, isR n v = false) (hw : ∀ n, isR n w = false) (hp : g5[g1.length]? = some (some (.lst pool))) (hbn : (b = g1.length) = False)
    (e6 : m__law_strewn [.ref b, .dat (.list pool)] (g5.set g1.length none) = some (.dat (.list rs), g6)) :
    m__law_crew [.ref b, .dat (.int most)] h = leave false h (.dat (.list rs)) g6 := by
  have c7 : 3 ≤ sizeLine := by decide
  have c8 : 0 ≤ sizeLine := Nat.zero_le _
  have hf : frz 5 [some (.ref b), some (.dat (.int most)), v, some (.dat (.int (1 + r1))), some (.dat (.str L)), some (.ref g1.length), some (.dat (.int r2)), some (.dat (.int sp)), w] g5 =
      some ([some (.ref b), some (.dat (.int most)), v, some (.dat (.int (1 + r1))), some (.dat (.str L)), some (.dat (.list pool)), some (.dat (.int r2)), some (.dat (.int sp)), w], g5.set g1.length none) := by
    unfold frz
    simp only [List.getElem?_cons_zero, List.getElem?_cons_succ, hp, List.set_cons_zero, List.set_cons_succ, List.any_cons, List.any_nil, hv, hw, isR_ref, isR_dat, isR_none, hbn, decide_false, Bool.or_false, isTab, Bool.false_eq_true, if_false, moD]
  unfold crewBody at key
  subst hL
  unfold m__law_crew
  clear hv hw hp hbn
  walk_at "dl"
theorem leave_two {b c c' : Nat} {h g : Hh} {d : D} {o : Option MO} (x : BoxAt h b c) (y : BoxAt g b c') (on : Only b h g) : leave false h (.dat d) (g ++ [o]) = some (.dat d, g) := by
  have e : (g ++ [o]).take h.length = g := by rw [← on.len, List.take_append_of_le_length (Nat.le_refl _), List.take_length]
  rw [leave_dat (by rw [e]; exact live_only x y on), e]
theorem crew_ok {h : Hh} {b c most : Nat} (hb : BoxAt h b c) (hc : c < 100000000) (h0 : 0 < most) (h1 : most ≤ 52) :
    ∃ rs h', m__law_crew [.ref b, .dat (.int most)] h = some (.dat (.list (rs.map .str)), h') ∧ Crew most rs ∧ BoxAt h' b (c + 3 + most) ∧ Only b h h' := by
  have hz : sizeLine = 16777216 := by rfl
  obtain ⟨r1, g1, e1, p1, q1, b1, o1⟩ := take_ok (n := (most : Int)) hb (by omega) (by omega) (by omega)
  obtain ⟨r2, g2, e2, p2, q2, b2, o2⟩ := take_ok (n := 26) (box_app (l := [some (.lst [])]) b1) (by omega) (by omega) (by omega)
  obtain ⟨r3, g3, e3, p3, q3, b3, o3⟩ := take_ok (n := 3) b2 (by omega) (by omega) (by omega)
  have lb := hb.lt
  have l1 := o1.len
  obtain ⟨o4, g4, e4, l4⟩ := only_app b1.lt (o2.trans o3)
  have eg : g3.take g1.length = g4 := by rw [e4, ← l4, List.take_append_of_le_length (Nat.le_refl _), List.take_length]
  rw [eg] at o4
  have b4 : BoxAt g4 b (c + 3) := by
    have := box_take b3 (n := g1.length) (by omega)
    rw [eg] at this
    exact this
  obtain ⟨st, rfl⟩ : ∃ st : Nat, r2 = st := ⟨r2.toNat, by omega⟩
  obtain ⟨sz, rfl⟩ : ∃ sz : Nat, r1 = sz := ⟨r1.toNat, by omega⟩
  obtain ⟨sp, hsp, hsi⟩ : ∃ sp : Nat, Steps sp ∧ L2.atI [PyData.int 1, .int 3, .int 25] r3 = some (.int (sp : Int)) := by
    have : r3 = 0 ∨ r3 = 1 ∨ r3 = 2 := by omega
    rcases this with rfl | rfl | rfl
    · exact ⟨1, .inl rfl, rfl⟩
    · exact ⟨3, .inr (.inl rfl), rfl⟩
    · exact ⟨25, .inr (.inr rfl), rfl⟩
  have sp26 : sp < 26 := by rcases hsp with rfl | rfl | rfl <;> omega
  have key := forL_inv (k := gN 2) (body := crewBody)
    (fun n ρ g => ∃ v w : Option W, (∀ n, isR n v = false) ∧ (∀ n, isR n w = false) ∧ ρ = [some (.ref b), some (.dat (.int most)), v, some (.dat (.int (1 + sz))), some (.dat (.str letters)), some (.ref g1.length), some (.dat (.int st)), some (.dat (.int sp)), w] ∧ g = g4 ++ [some (.lst ((List.range n).map fun a => .str (nm st sp a)))])
    (ds := rngD 0 (1 + (sz : Int)).toNat) (n := 0)
    (ρ := [some (.ref b), some (.dat (.int most)), none, some (.dat (.int (1 + sz))), some (.dat (.str letters)), some (.ref g1.length), some (.dat (.int st)), some (.dat (.int sp)), none]) (h := g3)
    ⟨none, none, fun _ => rfl, fun _ => rfl, rfl, e4⟩ (by
      intro j d ej ρ g hi
      obtain ⟨v, w, hv, hw, rfl, rfl⟩ := hi
      obtain ⟨hj, rfl⟩ := rng_get ej
      rw [Nat.zero_add]
      have hg : (g4 ++ [some (MO.lst ((List.range j).map fun a => PyData.str (nm st sp a)))])[g1.length]? = some (some (.lst ((List.range j).map fun a => .str (nm st sp a)))) := by rw [List.getElem?_append_right (by omega), l4]; simp
      have hs : (g4 ++ [some (MO.lst ((List.range j).map fun a => PyData.str (nm st sp a)))]).set g1.length (some (.lst ((List.range j).map (fun a => PyData.str (nm st sp a)) ++ [.str (nm st sp j)]))) = g4 ++ [some (.lst ((List.range (j + 1)).map fun a => .str (nm st sp a)))] := by
        rw [List.set_append_right _ _ (by omega), show g1.length - g4.length = 0 by omega, List.range_succ, List.map_append]; rfl
      obtain ⟨w', ew⟩ := crew_turn_none (b := b) (st := st) (j := j) (sz := 1 + (sz : Int)) (most := most) (w := w) hg (by simp; omega) sp26
      refine ⟨_, _, _, rfl, ew.1, some (.dat (.int j)), w', fun _ => rfl, ew.2, rfl, hs⟩)
  obtain ⟨ρ', g5, ek, v, w, hv, hw, rfl, rfl⟩ := key
  have hn : 0 + (rngD 0 (1 + (sz : Int)).toNat).length = 1 + sz := by rw [rng_len]; omega
  rw [hn] at ek
  have hgp : (g4 ++ [some (MO.lst ((List.range (1 + sz)).map fun a => PyData.str (nm st sp a)))])[g1.length]? = some (some (.lst ((List.range (1 + sz)).map fun a => .str (nm st sp a)))) := by rw [List.getElem?_append_right (by omega), l4]; simp
  have hgs : (g4 ++ [some (MO.lst ((List.range (1 + sz)).map fun a => PyData.str (nm st sp a)))]).set g1.length none = g4 ++ [none] := by
    rw [List.set_append_right _ _ (by omega), show g1.length - g4.length = 0 by omega]; rfl
  obtain ⟨rs, g6, e6, pm, b6, o6⟩ := strewn_ok (x := .list ((List.range (1 + sz)).map fun a => PyData.str (nm st sp a))) (.inl rfl) (box_app (l := [none]) b4) (by simp; omega) (by simp; omega)
  obtain ⟨o7, g7, e7, l7⟩ := only_app b4.lt o6
  subst e7
  have e8 : (g7 ++ [none]).take g4.length = g7 := by rw [← l7, List.take_append_of_le_length (Nat.le_refl _), List.take_length]
  rw [e8] at o7
  have b7 := box_take b6 (n := g4.length) b4.lt
  rw [e8] at b7
  obtain ⟨ss, rfl, ps⟩ := perm_strs (rs := rs) (l := (List.range (1 + sz)).map (nm st sp)) (by rw [List.map_map]; exact pm)
  have on := o1.trans (o4.trans o7)
  refine ⟨ss, g7, ?_, crew_of h1 (by omega) (by omega) (by omega) hsp ps, b7.mono (by simp; omega), on⟩
  rw [crew_run rfl e1 e2 e3 hsi (by omega) (by omega) ek hv hw hgp (eq_false (by omega)) (by rw [hgs]; exact e6)]
  exact leave_two hb b7 on
end DL
set_option maxRecDepth 100000
set_option maxHeartbeats 400000
namespace DL
open PySem L2
variable [HW]
local macro_rules | `(tactic| walk_at "dl") => `(tactic| simp (config := { dsimp := false }) only [↓fnM_e, ↓sSeq_e, seqK_nx, seqK_rt, seqK_bk, seqK_ct, retK_rt, retK_nx, ↓sFrz_e, frK_some, ↓sAsg, ↓sRet, ↓sRetN, ↓sIf, ↓sExpr, ↓sSkip, ↓sNever, ↓sPar, ↓sFor, ↓sSub, ↓fVar, ↓fC, ↓fNil, ↓fCons, ↓fA, ↓f1, ↓f2, ↓fB, ↓fIf, ↓fNeg, ↓fNot, ↓fAnd, ↓fOr, ↓bNot, ↓bAnd, ↓bOr, ↓bYes, ↓obnd_x, ob_some, ↓sbnd_x, sb_some, ↓ite_x, iteK_t, iteK_f, gN, gT, gC, gE, ↓rng1I, ↓rng2I, ↓seqI, ↓enumA, ↓zipI, ↓strI, ↓fLc, ↓fDc, ↓fM, ↓fSl, ↓oNone, ↓oSome, ↓fRev, wipeE, ↓kwM, permM, permL, List.foldr, List.length_cons, List.length_nil, List.map_cons, List.map_nil, List.cons_append, List.nil_append, List.replicate, List.replicate_succ, List.replicate_zero, List.getElem?_cons_zero, List.getElem?_cons_succ, List.set_cons_zero, List.set_cons_succ, if_true, if_false, reduceIte, Nat.reduceAdd, Nat.reduceSub, Nat.reduceEqDiff, Nat.reduceLT, Nat.reduceLeDiff, Int.reduceLT, Int.reduceLE, Int.reduceNeg, Int.reduceMul, Int.reduceAdd, Int.reduceSub, Int.reduceToNat, Int.reducePow, Int.reduceEq, ok, bok, deref, mkL, lstW, tupW, dats, Option.map_some, appendW, insertW, setL, isL, listW, tupleW, lenW, absW, intC, maxW, minW, idxW, addW, subW_e, modW_e, divW_e, powW_e, mulW, intW, lt_e, gt_e, le_e, ge_e, ltW, allW_e, anyW_e, sumW_e, lW, setW, lstAt, cutW, backW, isW, isiW, iLT_none, iLT_bool, iLT_int, iLT_str, iLT_list, iLT_tup, iL_none, iL_bool, iL_int, iL_str, iL_list, iL_tup, iT_none, iT_bool, iT_int, iT_str, iT_list, iT_tup, iS_none, iS_bool, iS_int, iS_str, iS_list, iS_tup, iI_none, iI_bool, iI_int, iI_str, iI_list, iI_tup, iB_none, iB_bool, iB_int, iB_str, iB_list, iB_tup, Bool.false_eq_true, reduceCtorEq, Bool.not_true, Bool.not_false, decide_true, decide_false, List.zip_cons_cons, List.zip_nil_left, List.foldl_cons, List.foldl_nil, and_self, and_true, true_and, Bool.and_true, Bool.true_and, Bool.or_true, Bool.true_or, *])
theorem zipD_self : ∀ ds : List D, zipD ds ds = ds.map fun d => .tuple [d, d]
  | [] => rfl
  | d :: ds => by rw [zipD, zipD_self ds]; rfl
theorem bools_true : ∀ n : Nat, bools (List.replicate n (.bool true)) = some (List.replicate n true)
  | 0 => rfl
  | n + 1 => by rw [List.replicate_succ, bools, bools_true n]; rfl
theorem all_true (n : Nat) : (List.replicate n true).all id = true := by induction n with
  | zero => rfl
  | succ n ih => rw [List.replicate_succ, List.all_cons, ih]; rfl
theorem eqS_bool (b : Bool) : eqS (.bool b) (.bool b) = some true := by simp [eqS]
theorem eqS_self_str (b : Str) : eqS (.str b) (.str b) = some true := by simp [eqS]
theorem eqS_self_int (b : Int) : eqS (.int b) (.int b) = some true := by simp [eqS]
theorem eqW_same {neg : Bool} {d : D} {h : Hh} (e : eqS d d = some true) : eqW neg (.dat d) (.dat d) h = bok (!neg) h := by
  unfold eqW
  simp only [deref, e]
  cases neg <;> rfl
mutual
def plainD : D → Bool
  | .dict _ => false
  | .list ds => plainDs ds && decide (ds.length ≤ sizeLine)
  | .tuple ds => plainDs ds && decide (ds.length ≤ sizeLine)
  | _ => true
def plainDs : List D → Bool
  | [] => true
  | d :: ds => plainD d && plainDs ds
end
theorem plainDs_mem : ∀ {ds : List D} {d : D}, plainDs ds = true → d ∈ ds → plainD d = true
  | _ :: _, _, h, .head _ => by rw [plainDs, Bool.and_eq_true] at h; exact h.1
  | _ :: ds, _, h, .tail _ m => by rw [plainDs, Bool.and_eq_true] at h; exact plainDs_mem h.2 m
theorem depthAll_mem : ∀ {ds : List D} {d : D}, d ∈ ds → d.depth ≤ PyData.depthAll ds
  | _ :: _, _, .head _ => by rw [PyData.depthAll]; exact Nat.le_max_left _ _
  | _ :: ds, _, .tail _ m => by rw [PyData.depthAll]; exact Nat.le_trans (depthAll_mem m) (Nat.le_max_right _ _)
theorem same_seq {n : Nat} {ds : List D} {h : Hh} (ih : ∀ d ∈ ds, m__law_same n [.dat d, .dat d] h = some (.dat (.bool true), h)) (v1 v2 : Option W) (hl : ds.length ≤ sizeLine) :
    lcL (gT 2 (gC (gN 2) (gC (gN 3) (gE)))) (bYes) (fA (m__law_same n) (fCons (fVar 2) (fCons (fVar 3) (fNil)))) [v1, v2, none, none] (zipD ds ds) h = some (List.replicate ds.length (.bool true), h) := by
  rw [zipD_self]
  rw [lcL_all (fun _ => .bool true) (ds := ds.map fun d => .tuple [d, d]) (fun d' hd' => ?_)]
  · rw [List.map_map]
    congr 2
    apply List.eq_replicate_iff.mpr
    exact ⟨by simp, fun b hb => by obtain ⟨d, hd, rfl⟩ := List.mem_map.mp hb; rfl⟩
  · obtain ⟨d, hd, rfl⟩ := List.mem_map.mp hd'
    have e := ih d hd
    refine ⟨[v1, v2, some (.dat d), some (.dat d)], ?_, rfl, ?_⟩
    · walk_at "dl"
    · walk_at "dl"
theorem callD_two (d : D) : callD [d, d] = false := by
  by_cases h : ∃ a b : Str, d = .tuple [.str a, .str b]
  · obtain ⟨a, b, rfl⟩ := h
    simp [callD, pairD, rowD, prTx, rowS]
  · by_cases h' : ∃ a : Str, d = .str a
    · obtain ⟨a, rfl⟩ := h'
      simp [callD, pairD, rowD, prTx, rowS]
    · exact callD_not _ (fun a b e => h ⟨a, b, e⟩) fun a e => h' ⟨a, e⟩
theorem zipOk_refl : ∀ ds : List D, zipOk ds ds = true
  | [] => rfl
  | d :: ds => by
    have ih := zipOk_refl ds
    unfold zipOk at ih ⊢
    simp only [zipD, List.all_cons, ih, notCall, callD_two]
    rfl
theorem same_refl : ∀ (n : Nat) (d : D) (h : Hh), plainD d = true → d.depth < n → m__law_same n [.dat d, .dat d] h = some (.dat (.bool true), h)
  | 0, _, _, _, hd => by omega
  | n + 1, d, h, hp, hd => by
    have tk : leave false h (.dat (.bool true)) h = some (.dat (.bool true), h) := leave_same'
    have e0 := fun b : Bool => eqW_same (neg := true) (h := h) (eqS_bool b)
    have e1 := fun b : Bool => eqW_same (neg := false) (h := h) (eqS_bool b)
    cases d with
    | none => 
      unfold m__law_same
      have e2 : eqW false (.dat .none) (.dat .none) h = bok true h := eqW_same rfl
      walk_at "dl"
    | bool b =>
      unfold m__law_same
      walk_at "dl"
    | int i =>
      unfold m__law_same
      have e2 := eqW_same (neg := false) (h := h) (eqS_self_int i)
      walk_at "dl"
    | str s =>
      unfold m__law_same
      have e2 := eqW_same (neg := false) (h := h) (eqS_self_str s)
      walk_at "dl"
    | list ds =>
      unfold m__law_same
      simp only [plainD, Bool.and_eq_true, decide_eq_true_eq] at hp
      simp only [PyData.depth] at hd
      have hl : ds.length ≤ sizeLine := hp.2
      have ez := zipOk_refl ds
      have e3 := same_seq (n := n) (ds := ds) (h := h) (fun d hd' => same_refl n d h (plainDs_mem hp.1 hd') (by have := depthAll_mem hd'; omega)) (some (.dat (.list ds))) (some (.dat (.list ds))) hl
      have e2 := eqW_same (neg := true) (h := h) (eqS_self_int (ds.length : Int))
      have e4 := bools_true ds.length
      have e5 := all_true ds.length
      have e6 : (List.replicate ds.length (PyData.bool true)).length ≤ sizeLine := by simpa using hl
      clear hd hp
      walk_at "dl"
    | tuple ds =>
      unfold m__law_same
      simp only [plainD, Bool.and_eq_true, decide_eq_true_eq] at hp
      simp only [PyData.depth] at hd
      have hl : ds.length ≤ sizeLine := hp.2
      have ez := zipOk_refl ds
      have e3 := same_seq (n := n) (ds := ds) (h := h) (fun d hd' => same_refl n d h (plainDs_mem hp.1 hd') (by have := depthAll_mem hd'; omega)) (some (.dat (.tuple ds))) (some (.dat (.tuple ds))) hl
      have e2 := eqW_same (neg := true) (h := h) (eqS_self_int (ds.length : Int))
      have e4 := bools_true ds.length
      have e5 := all_true ds.length
      have e6 : (List.replicate ds.length (PyData.bool true)).length ≤ sizeLine := by simpa using hl
      clear hd hp
      walk_at "dl"
    | dict es => simp [plainD] at hp
theorem forL_end {k : TM} {body : SM} (I : Nat → Env → Hh → Prop) {ds : List D} {ρ : Env} {h : Hh} (i : I 0 ρ h) (H : ∀ (j : Nat) (d : D), ds[j]? = some d → ∀ ρ h, I j ρ h → ∃ ρ1 ρ2 h2, k (.dat d) ρ h = some ρ1 ∧ body ρ1 h = some (.nx ρ2, h2) ∧ I (j + 1) ρ2 h2) :
    ∃ ρ' h', forL k body ds ρ h = some (.nx ρ', h') ∧ I ds.length ρ' h' := by
  have := forL_inv (k := k) (body := body) I (ds := ds) (n := 0) i fun j d e ρ h q => by
    have := H j d e ρ h (by rw [Nat.zero_add] at q; exact q)
    rw [Nat.zero_add]; exact this
  rw [Nat.zero_add] at this
  exact this
theorem leave_ref {h : Hh} {ds : List D} : leave true h (.ref h.length) (h ++ [some (.lst ds)]) = some (.ref h.length, h ++ [some (.lst ds)]) := by
  have e : (h ++ [some (MO.lst ds)]).take h.length = h := by rw [List.take_append_of_le_length (Nat.le_refl _), List.take_length]
  have e2 : (h ++ [some (MO.lst ds)])[h.length]? = some (some (.lst ds)) := by rw [List.getElem?_append_right (Nat.le_refl _)]; simp
  unfold leave
  rw [e, if_pos rfl]
  simp only [Nat.lt_irrefl, if_false, e2, if_true]
theorem box_run {ns : List Int} {k cell a : Int} {z : Bool} {h : Hh} (hc : (decide (k < (ns.length : Int)) = true ∧ L2.atI ns k = some cell) ∨ (decide (k < (ns.length : Int)) = false ∧ cell = 0)) (ha : (if cell < 0 then -cell else cell) = a) (hz : decide (1000000000000000000 ≤ a) = z) :
    m__law_box [.scr ns, .dat (.int k)] h = some (.ref h.length, h ++ [some (.lst [.int (a * (if z = true then 1 else 0)), .int (cell % 2147483629 + 7919 * k + 11), .int 0])]) := by
  have c7 : 3 ≤ sizeLine := by decide
  have hna : Int.natAbs 10 < 18446744073709551616 := by decide
  have lv := leave_ref (h := h) (ds := [.int (a * (if z = true then 1 else 0)), .int (cell % 2147483629 + 7919 * k + 11), .int 0])
  unfold m__law_box
  rcases hc with ⟨h1, h2⟩ | ⟨h1, rfl⟩
  · cases z with
    | true => walk_at "dl"; exact leave_ref
    | false => walk_at "dl"; exact leave_ref
  · have e0 : a = 0 := by rw [← ha]; rfl
    subst e0
    have e1 : z = false := by rw [← hz]; rfl
    subst e1
    clear hz ha
    walk_at "dl"
    exact leave_ref
theorem box_new {ns : List Int} {k : Int} {h : Hh} (hk : 0 ≤ k) (hk2 : k < 100) :
    ∃ d s : Int, m__law_box [.scr ns, .dat (.int k)] h = some (.ref h.length, h ++ [some (.lst [.int d, .int s, .int 0])]) ∧ 0 ≤ d ∧ 0 ≤ s ∧ s < 1099511627776 := by
  obtain ⟨cell, hc⟩ : ∃ cell : Int, (decide (k < (ns.length : Int)) = true ∧ L2.atI ns k = some cell) ∨ (decide (k < (ns.length : Int)) = false ∧ cell = 0) := by
    by_cases h1 : k < (ns.length : Int)
    · have h2 : k.toNat < ns.length := by omega
      refine ⟨ns[k.toNat], .inl ⟨by simpa using h1, ?_⟩⟩
      have := atI_nat (xs := ns) (j := k.toNat) (List.getElem?_eq_getElem h2)
      rwa [show ((k.toNat : Nat) : Int) = k by omega] at this
    · exact ⟨0, .inr ⟨by simpa using h1, rfl⟩⟩
  refine ⟨_, _, box_run hc rfl rfl, ?_, by omega, by omega⟩
  split <;> split <;> omega
noncomputable def lawM (T : Int) (right : FM) : FM := fnM false 1 4 (sSeq (sFor (rng1I (fCons (fA maxW (fCons (fC (.int 1)) (fCons (fA minW (fCons (fC (.int 3)) (fCons (fA lenW (fCons (fVar 0) (fNil))) (fNil)))) (fNil)))) (fNil))) (gN 1)
    (sSeq (sAsg (fA (m__law_box) (fCons (fVar 0) (fCons (fVar 1) (fNil)))) (gN 2))
    (sIf (bNot (fB (fA allW (fCons (fLc false (rng1I (fCons (fC (.int T)) (fNil))) (gN 3) (bYes) (fA right (fCons (fVar 2) (fNil))) [3]) (fNil))))) (sRet (fC (.bool false))) (sSkip))))
    (sRet (fC (.bool true))))
theorem bools_all : ∀ {rs : List D}, (∀ r ∈ rs, r = .bool true) → rs = List.replicate rs.length (.bool true)
  | [], _ => rfl
  | r :: rs, h => by
    rw [List.length_cons, List.replicate_succ, ← bools_all fun x hx => h x (List.mem_cons_of_mem _ hx), ← h r List.mem_cons_self]
end DL
set_option maxRecDepth 100000
set_option maxHeartbeats 400000
namespace DL
open PySem L2
variable [HW]
local macro_rules | `(tactic| walk_at "dl") => `(tactic| simp (config := { dsimp := false }) only [↓fnM_e, ↓sSeq_e, seqK_nx, seqK_rt, seqK_bk, seqK_ct, retK_rt, retK_nx, ↓sFrz_e, frK_some, ↓sAsg, ↓sRet, ↓sRetN, ↓sIf, ↓sExpr, ↓sSkip, ↓sNever, ↓sPar, ↓sFor, ↓sSub, ↓fVar, ↓fC, ↓fNil, ↓fCons, ↓fA, ↓f1, ↓f2, ↓fB, ↓fIf, ↓fNeg, ↓fNot, ↓fAnd, ↓fOr, ↓bNot, ↓bAnd, ↓bOr, ↓bYes, ↓obnd_x, ob_some, ↓sbnd_x, sb_some, ↓ite_x, iteK_t, iteK_f, gN, gT, gC, gE, ↓rng1I, ↓rng2I, ↓seqI, ↓enumA, ↓zipI, ↓strI, ↓fLc, ↓fDc, ↓fM, ↓fSl, ↓oNone, ↓oSome, ↓fRev, wipeE, ↓kwM, permM, permL, List.foldr, List.length_cons, List.length_nil, List.map_cons, List.map_nil, List.cons_append, List.nil_append, List.replicate, List.replicate_succ, List.replicate_zero, List.getElem?_cons_zero, List.getElem?_cons_succ, List.set_cons_zero, List.set_cons_succ, if_true, if_false, reduceIte, Nat.reduceAdd, Nat.reduceSub, Nat.reduceEqDiff, Nat.reduceLT, Nat.reduceLeDiff, Int.reduceLT, Int.reduceLE, Int.reduceNeg, Int.reduceMul, Int.reduceAdd, Int.reduceSub, Int.reduceToNat, Int.reducePow, Int.reduceEq, ok, bok, deref, mkL, lstW, tupW, dats, Option.map_some, appendW, insertW, setL, isL, listW, tupleW, lenW, absW, intC, maxW, minW, idxW, addW, subW_e, modW_e, divW_e, powW_e, mulW, intW, lt_e, gt_e, le_e, ge_e, ltW, allW_e, anyW_e, sumW_e, lW, setW, lstAt, cutW, backW, isW, isiW, iLT_none, iLT_bool, iLT_int, iLT_str, iLT_list, iLT_tup, iL_none, iL_bool, iL_int, iL_str, iL_list, iL_tup, iT_none, iT_bool, iT_int, iT_str, iT_list, iT_tup, iS_none, iS_bool, iS_int, iS_str, iS_list, iS_tup, iI_none, iI_bool, iI_int, iI_str, iI_list, iI_tup, iB_none, iB_bool, iB_int, iB_str, iB_list, iB_tup, Bool.false_eq_true, reduceCtorEq, Bool.not_true, Bool.not_false, decide_true, decide_false, List.zip_cons_cons, List.zip_nil_left, List.foldl_cons, List.foldl_nil, and_self, and_true, true_and, Bool.and_true, Bool.true_and, Bool.or_true, Bool.true_or, *])
def TxtOk (s : Str) : Prop := s.length ≤ 100 ∧ ∀ c ∈ s.cps.toList, c < 128
theorem TxtOk.ok {s : Str} (h : TxtOk s) : PyData.strOk s = true := by
  unfold PyData.strOk
  rw [Array.all_eq_true']
  intro c hc
  have := h.2 c (by simpa using hc)
  simp; omega
abbrev Txts (l : List Str) : Prop := ∀ s ∈ l, TxtOk s
theorem nm_ok {st sp a : Nat} : TxtOk (nm st sp a) := by
  refine ⟨?_, fun c hc => ?_⟩
  · unfold nm
    rw [len_app]
    have := sfx_le (a % 2 * (1 + st % 2))
    show 1 + _ ≤ _
    omega
  · rw [nm_cps] at hc
    rcases List.mem_cons.mp hc with rfl | hc
    · omega
    · generalize a % 2 * (1 + st % 2) = k at hc
      match k, hc with
      | 0, hc => rw [sfx_len.1] at hc; cases hc
      | 1, hc => rw [sfx_len.2.1] at hc; simp at hc; omega
      | _ + 2, hc => 
        have hc' : c ∈ (sfx 2).cps.toList := hc
        rw [sfx_len.2.2] at hc'; simp at hc'; omega
theorem Crew.txts {most : Nat} {rs : List Str} (h : Crew most rs) : Txts rs := fun s hs => by
  obtain ⟨st, sp, a, _, _, rfl⟩ := h.nam s hs
  exact nm_ok
theorem Txts.perm {l m : List Str} (h : Txts l) (p : m.Perm l) : Txts m := fun s hs => h s (p.mem_iff.mp hs)
def leS (a b : Str) : Bool := decide (a.cps.toList ≤ b.cps.toList)
theorem leS_trans (a b c : Str) (h1 : leS a b = true) (h2 : leS b c = true) : leS a c = true := by
  unfold leS at *
  simp only [decide_eq_true_eq] at *
  exact List.le_trans h1 h2
theorem leS_total (a b : Str) : (leS a b || leS b a) = true := by
  unfold leS
  simp only [Bool.or_eq_true, decide_eq_true_eq]
  exact List.le_total _ _
theorem leS_antisymm {a b : Str} (h1 : leS a b = true) (h2 : leS b a = true) : a = b := by
  unfold leS at *
  simp only [decide_eq_true_eq] at *
  exact str_ext (List.le_antisymm h1 h2)
def sortS (l : List Str) : List Str := l.mergeSort leS
theorem sortS_perm (l : List Str) : (sortS l).Perm l := List.mergeSort_perm _ _
theorem sortS_pw (l : List Str) : (sortS l).Pairwise fun a b => leS a b = true := List.pairwise_mergeSort leS_trans leS_total l
theorem sortD_strs (l : List Str) : sortD (l.map .str) = (sortS l).map .str := by
  unfold sortD sortS
  have e := PySem.W.dataLe_str (fun s : Str => s)
  rw [← PySem.W.sort_maps (r := leS) (s := PySem.W.dataLe false fun d : D => d) (fun s : Str => (.str s : D)) (l := l) fun a _ b _ => ?_]
  have := congrFun (congrFun e a) b
  unfold leS
  rw [← this]
  rfl
theorem alike_strs (l : List Str) : (l.map PyData.str).all (fun d => (l.map PyData.str).all fun e => PySem.W.alike d e) = true := by
  rw [List.all_eq_true]
  intro d hd
  rw [List.all_eq_true]
  intro e he
  obtain ⟨a, _, rfl⟩ := List.mem_map.mp hd
  obtain ⟨b, _, rfl⟩ := List.mem_map.mp he
  rfl
theorem shp_strs {l : List Str} (ht : Txts l) : (l.map PyData.str).all shp = true := by
  rw [List.all_eq_true]
  intro d hd
  obtain ⟨a, ha, rfl⟩ := List.mem_map.mp hd
  simp [shp, PyData.canLay0, PyData.depth, (ht a ha).ok]
theorem sortable_strs {l : List Str} (ht : Txts l) : sortable (l.map .str) = true := by
  unfold sortable
  rw [alike_strs, shp_strs ht]
  simp only [Bool.true_and, Bool.and_true, Bool.or_eq_true]
  right
  rw [List.all_eq_true]
  intro d hd
  obtain ⟨a, _, rfl⟩ := List.mem_map.mp hd
  rfl
abbrev IsSeq (x : D) (ds : List D) : Prop := x = .list ds ∨ x = .tuple ds
theorem sortW_strs {x : D} {l : List Str} {h : Hh} (hx : IsSeq x (l.map .str)) (ht : Txts l) : sortW false [.dat x] h = some (.dat (.list ((sortS l).map .str)), h) := by
  have e := sortD_strs l
  have e2 := sortable_strs ht
  clear ht
  rcases hx with rfl | rfl <;> (unfold sortW; walk_at "dl")
theorem depth_strs : ∀ l : List Str, PyData.depthAll (l.map .str) = 0
  | [] => rfl
  | s :: l => by rw [List.map_cons, PyData.depthAll, depth_strs l]; simp [PyData.depth]
end DL
set_option maxRecDepth 100000
set_option maxHeartbeats 400000
namespace DL
open PySem L2
variable [HW]
local macro_rules | `(tactic| walk_at "dl") => `(tactic| simp (config := { dsimp := false }) only [↓fnM_e, ↓sSeq_e, seqK_nx, seqK_rt, seqK_bk, seqK_ct, retK_rt, retK_nx, ↓sFrz_e, frK_some, ↓sAsg, ↓sRet, ↓sRetN, ↓sIf, ↓sExpr, ↓sSkip, ↓sNever, ↓sPar, ↓sFor, ↓sSub, ↓fVar, ↓fC, ↓fNil, ↓fCons, ↓fA, ↓f1, ↓f2, ↓fB, ↓fIf, ↓fNeg, ↓fNot, ↓fAnd, ↓fOr, ↓bNot, ↓bAnd, ↓bOr, ↓bYes, ↓obnd_x, ob_some, ↓sbnd_x, sb_some, ↓ite_x, iteK_t, iteK_f, gN, gT, gC, gE, ↓rng1I, ↓rng2I, ↓seqI, ↓enumA, ↓zipI, ↓strI, ↓fLc, ↓fDc, ↓fM, ↓fSl, ↓oNone, ↓oSome, ↓fRev, wipeE, ↓kwM, permM, permL, List.foldr, List.length_cons, List.length_nil, List.map_cons, List.map_nil, List.cons_append, List.nil_append, List.replicate, List.replicate_succ, List.replicate_zero, List.getElem?_cons_zero, List.getElem?_cons_succ, List.set_cons_zero, List.set_cons_succ, if_true, if_false, reduceIte, Nat.reduceAdd, Nat.reduceSub, Nat.reduceEqDiff, Nat.reduceLT, Nat.reduceLeDiff, Int.reduceLT, Int.reduceLE, Int.reduceNeg, Int.reduceMul, Int.reduceAdd, Int.reduceSub, Int.reduceToNat, Int.reducePow, Int.reduceEq, ok, bok, deref, mkL, lstW, tupW, dats, Option.map_some, appendW, insertW, setL, isL, listW, tupleW, lenW, absW, intC, maxW, minW, idxW, addW, subW_e, modW_e, divW_e, powW_e, mulW, intW, lt_e, gt_e, le_e, ge_e, ltW, allW_e, anyW_e, sumW_e, lW, setW, lstAt, cutW, backW, isW, isiW, iLT_none, iLT_bool, iLT_int, iLT_str, iLT_list, iLT_tup, iL_none, iL_bool, iL_int, iL_str, iL_list, iL_tup, iT_none, iT_bool, iT_int, iT_str, iT_list, iT_tup, iS_none, iS_bool, iS_int, iS_str, iS_list, iS_tup, iI_none, iI_bool, iI_int, iI_str, iI_list, iI_tup, iB_none, iB_bool, iB_int, iB_str, iB_list, iB_tup, Bool.false_eq_true, reduceCtorEq, Bool.not_true, Bool.not_false, decide_true, decide_false, List.zip_cons_cons, List.zip_nil_left, List.foldl_cons, List.foldl_nil, and_self, and_true, true_and, Bool.and_true, Bool.true_and, Bool.or_true, Bool.true_or, *])
end DL
set_option maxRecDepth 100000
set_option maxHeartbeats 400000
namespace DL
open PySem L2
variable [HW]
mutual
/-- texts, lists and tuples of such -/
def txD : D → Bool
  | .str s => decide (s.length ≤ 100) && s.cps.toList.all (· < 128)
  | .list ds => txDs ds
  | .tuple ds => txDs ds
  | .none => true
  | .bool _ => true
  | _ => false
def txDs : List D → Bool
  | [] => true
  | d :: ds => txD d && txDs ds
end
mutual
def costD : D → Nat
  | .str s => 10 * s.length + 2
  | .list ds => costDs ds + 3
  | .tuple ds => costDs ds + 3
  | _ => 5
def costDs : List D → Nat
  | [] => 0
  | d :: ds => costD d + 2 + costDs ds
end
theorem tx_str {s : Str} (h : TxtOk s) : txD (.str s) = true := by
  rw [txD]
  simp only [Bool.and_eq_true, decide_eq_true_eq, List.all_eq_true]
  exact ⟨h.1, fun c hc => h.2 c hc⟩
theorem str_tx {s : Str} (h : txD (.str s) = true) : TxtOk s := by
  rw [txD] at h
  simp only [Bool.and_eq_true, decide_eq_true_eq, List.all_eq_true] at h
  exact ⟨h.1, fun c hc => h.2 c hc⟩
theorem txDs_all : ∀ {ds : List D}, (∀ d ∈ ds, txD d = true) → txDs ds = true
  | [], _ => rfl
  | d :: ds, h => by rw [txDs, h d List.mem_cons_self, txDs_all fun e he => h e (List.mem_cons_of_mem _ he)]; rfl
theorem tx_strs {l : List Str} (h : Txts l) : txDs (l.map .str) = true := txDs_all fun d hd => by
  obtain ⟨s, hs, rfl⟩ := List.mem_map.mp hd
  exact tx_str (h s hs)
mutual
theorem tx_lay : ∀ {d : D}, txD d = true → d.canLay0 = true ∧ d.showable = true ∧ d.shown.length ≤ costD d
  | .none, _ => by refine ⟨by simp [PyData.canLay0], by simp [PyData.showable], ?_⟩; rw [PyData.shown, costD]; · decide +kernel
                   all_goals simp
  | .bool b, _ => by
    refine ⟨by simp [PyData.canLay0], by simp [PyData.showable], ?_⟩
    rw [PyData.shown, costD]
    · cases b <;> decide +kernel
    all_goals simp
  | .int _, h => by simp [txD] at h
  | .dict _, h => by simp [txD] at h
  | .str s, h => by
    have t := str_tx h
    refine ⟨by rw [PyData.canLay0]; exact t.ok, by simp [PyData.showable], ?_⟩
    rw [PyData.shown, costD]
    exact StrLaws.reprText_len s fun c hc => by have := t.2 c hc; omega
  | .list ds, h => by
    rw [txD] at h
    obtain ⟨h1, h2, h3⟩ := tx_lays h
    refine ⟨by rw [PyData.canLay0]; exact h1, by rw [PyData.showable]; exact h2, ?_⟩
    rw [PyData.shown, costD]
    exact Nat.le_trans (listText_len_le _) (by omega)
  | .tuple ds, h => by
    rw [txD] at h
    obtain ⟨h1, h2, h3⟩ := tx_lays h
    refine ⟨by rw [PyData.canLay0]; exact h1, by rw [PyData.showable]; exact h2, ?_⟩
    rw [PyData.shown, costD]
    exact Nat.le_trans (tupleText_len_le _) (by omega)
theorem tx_lays : ∀ {ds : List D}, txDs ds = true → PyData.canLayAll0 ds = true ∧ PyData.showableAll ds = true ∧ ((PyData.shownAll ds).map (·.length)).sum + 2 * (PyData.shownAll ds).length ≤ costDs ds
  | [], _ => ⟨rfl, rfl, Nat.le_refl _⟩
  | d :: ds, h => by
    rw [txDs, Bool.and_eq_true] at h
    obtain ⟨a1, a2, a3⟩ := tx_lay h.1
    obtain ⟨b1, b2, b3⟩ := tx_lays h.2
    refine ⟨by rw [PyData.canLayAll0, a1, b1]; rfl, by rw [PyData.showableAll, a2, b2]; rfl, ?_⟩
    rw [PyData.shownAll, costDs, List.map_cons, List.sum_cons, List.length_cons]
    omega
end
theorem repr_ok {d : D} {h : Hh} (hd : isDsp d = true) (ht : txD d = true) (hp : d.depth ≤ 64) (hc : costD d ≤ 16777216) : reprW [.dat d] h = some (.dat (.str d.shown), h) := by
  obtain ⟨h1, h2, h3⟩ := tx_lay ht
  have h4 : d.shown.length ≤ sizeLine := Nat.le_trans h3 hc
  have h5 : shp d = true := by unfold shp; rw [h1]; simpa using hp
  unfold reprW
  simp only [deref, hd, h5, h2, h4, Bool.and_self, decide_true, if_true]
  rfl
theorem cost_strs : ∀ {l : List Str}, Txts l → costDs (l.map .str) ≤ 1004 * l.length
  | [], _ => Nat.le_refl _
  | s :: l, h => by
    have h1 := (h s List.mem_cons_self).1
    have h2 := cost_strs fun t ht => h t (List.mem_cons_of_mem _ ht)
    rw [List.map_cons, costDs, costD, List.length_cons]
    omega
end DL
set_option maxRecDepth 100000
set_option maxHeartbeats 400000
namespace DL
open PySem L2
variable [HW]
local macro_rules | `(tactic| walk_at "dl") => `(tactic| simp (config := { dsimp := false }) only [↓fnM_e, ↓sSeq_e, seqK_nx, seqK_rt, seqK_bk, seqK_ct, retK_rt, retK_nx, ↓sFrz_e, frK_some, ↓sAsg, ↓sRet, ↓sRetN, ↓sIf, ↓sExpr, ↓sSkip, ↓sNever, ↓sPar, ↓sFor, ↓sSub, ↓fVar, ↓fC, ↓fNil, ↓fCons, ↓fA, ↓f1, ↓f2, ↓fB, ↓fIf, ↓fNeg, ↓fNot, ↓fAnd, ↓fOr, ↓bNot, ↓bAnd, ↓bOr, ↓bYes, ↓obnd_x, ob_some, ↓sbnd_x, sb_some, ↓ite_x, iteK_t, iteK_f, gN, gT, gC, gE, ↓rng1I, ↓rng2I, ↓seqI, ↓enumA, ↓zipI, ↓strI, ↓fLc, ↓fDc, ↓fM, ↓fSl, ↓oNone, ↓oSome, ↓fRev, wipeE, ↓kwM, permM, permL, List.foldr, List.length_cons, List.length_nil, List.map_cons, List.map_nil, List.cons_append, List.nil_append, List.replicate, List.replicate_succ, List.replicate_zero, List.getElem?_cons_zero, List.getElem?_cons_succ, List.set_cons_zero, List.set_cons_succ, if_true, if_false, reduceIte, Nat.reduceAdd, Nat.reduceSub, Nat.reduceEqDiff, Nat.reduceLT, Nat.reduceLeDiff, Int.reduceLT, Int.reduceLE, Int.reduceNeg, Int.reduceMul, Int.reduceAdd, Int.reduceSub, Int.reduceToNat, Int.reducePow, Int.reduceEq, ok, bok, deref, mkL, lstW, tupW, dats, Option.map_some, appendW, insertW, setL, isL, listW, tupleW, lenW, absW, intC, maxW, minW, idxW, addW, subW_e, modW_e, divW_e, powW_e, mulW, intW, lt_e, gt_e, le_e, ge_e, ltW, allW_e, anyW_e, sumW_e, lW, setW, lstAt, cutW, backW, isW, isiW, iLT_none, iLT_bool, iLT_int, iLT_str, iLT_list, iLT_tup, iL_none, iL_bool, iL_int, iL_str, iL_list, iL_tup, iT_none, iT_bool, iT_int, iT_str, iT_list, iT_tup, iS_none, iS_bool, iS_int, iS_str, iS_list, iS_tup, iI_none, iI_bool, iI_int, iI_str, iI_list, iI_tup, iB_none, iB_bool, iB_int, iB_str, iB_list, iB_tup, Bool.false_eq_true, reduceCtorEq, Bool.not_true, Bool.not_false, decide_true, decide_false, List.zip_cons_cons, List.zip_nil_left, List.foldl_cons, List.foldl_nil, and_self, and_true, true_and, Bool.and_true, Bool.true_and, Bool.or_true, Bool.true_or, *])
theorem zipD_map {α β : Type} (f : α → D) (g : β → D) : ∀ (l : List α) (m : List β), zipD (l.map f) (m.map g) = (l.zip m).map fun p => .tuple [f p.1, g p.2]
  | [], _ => by simp [zipD]
  | _ :: _, [] => by simp [zipD]
  | a :: l, b :: m => by simp [zipD, zipD_map f g l m]
theorem idx_of {r : List Str} (nd : r.Nodup) {i : Nat} (hi : i < r.length) : r.idxOf r[i] = i := nd.idxOf_getElem i hi
end DL
set_option maxRecDepth 100000
set_option maxHeartbeats 400000
namespace DL
open PySem L2
variable [HW]
local macro_rules | `(tactic| walk_at "dl") => `(tactic| simp (config := { dsimp := false }) only [↓fnM_e, ↓sSeq_e, seqK_nx, seqK_rt, seqK_bk, seqK_ct, retK_rt, retK_nx, ↓sFrz_e, frK_some, ↓sAsg, ↓sRet, ↓sRetN, ↓sIf, ↓sExpr, ↓sSkip, ↓sNever, ↓sPar, ↓sFor, ↓sSub, ↓fVar, ↓fC, ↓fNil, ↓fCons, ↓fA, ↓f1, ↓f2, ↓fB, ↓fIf, ↓fNeg, ↓fNot, ↓fAnd, ↓fOr, ↓bNot, ↓bAnd, ↓bOr, ↓bYes, ↓obnd_x, ob_some, ↓sbnd_x, sb_some, ↓ite_x, iteK_t, iteK_f, gN, gT, gC, gE, ↓rng1I, ↓rng2I, ↓seqI, ↓enumA, ↓zipI, ↓strI, ↓fLc, ↓fDc, ↓fM, ↓fSl, ↓oNone, ↓oSome, ↓fRev, wipeE, ↓kwM, permM, permL, List.foldr, List.length_cons, List.length_nil, List.map_cons, List.map_nil, List.cons_append, List.nil_append, List.replicate, List.replicate_succ, List.replicate_zero, List.getElem?_cons_zero, List.getElem?_cons_succ, List.set_cons_zero, List.set_cons_succ, if_true, if_false, reduceIte, Nat.reduceAdd, Nat.reduceSub, Nat.reduceEqDiff, Nat.reduceLT, Nat.reduceLeDiff, Int.reduceLT, Int.reduceLE, Int.reduceNeg, Int.reduceMul, Int.reduceAdd, Int.reduceSub, Int.reduceToNat, Int.reducePow, Int.reduceEq, ok, bok, deref, mkL, lstW, tupW, dats, Option.map_some, appendW, insertW, setL, isL, listW, tupleW, lenW, absW, intC, maxW, minW, idxW, addW, subW_e, modW_e, divW_e, powW_e, mulW, intW, lt_e, gt_e, le_e, ge_e, ltW, allW_e, anyW_e, sumW_e, lW, setW, lstAt, cutW, backW, isW, isiW, iLT_none, iLT_bool, iLT_int, iLT_str, iLT_list, iLT_tup, iL_none, iL_bool, iL_int, iL_str, iL_list, iL_tup, iT_none, iT_bool, iT_int, iT_str, iT_list, iT_tup, iS_none, iS_bool, iS_int, iS_str, iS_list, iS_tup, iI_none, iI_bool, iI_int, iI_str, iI_list, iI_tup, iB_none, iB_bool, iB_int, iB_str, iB_list, iB_tup, Bool.false_eq_true, reduceCtorEq, Bool.not_true, Bool.not_false, decide_true, decide_false, List.zip_cons_cons, List.zip_nil_left, List.foldl_cons, List.foldl_nil, and_self, and_true, true_and, Bool.and_true, Bool.true_and, Bool.or_true, Bool.true_or, *])
def Pre (h0 h : Hh) : Prop := ∀ i : Nat, i < h0.length → h[i]? = h0[i]?
theorem Pre.only {h0 h h' : Hh} {b : Nat} (p : Pre h0 h) (hb : h0.length ≤ b) (o : Only b h h') : Pre h0 h' := fun i hi => (o.off i (by omega)).trans (p i hi)
theorem Pre.app {h0 h l : Hh} (p : Pre h0 h) (hl : h0.length ≤ h.length) : Pre h0 (h ++ l) := fun i hi => by
  rw [List.getElem?_append_left (by omega)]; exact p i hi
theorem Pre.take {h0 h : Hh} (p : Pre h0 h) (hl : h0.length ≤ h.length) : h.take h0.length = h0 := by
  apply List.ext_getElem?
  intro i
  by_cases hi : i < h0.length
  · rw [List.getElem?_take_of_lt hi]; exact p i hi
  · rw [List.getElem?_eq_none (by rw [List.length_take]; omega), List.getElem?_eq_none (by omega)]
end DL
set_option maxRecDepth 100000
set_option maxHeartbeats 400000
namespace DL
open PySem L2
variable [HW]
local macro_rules | `(tactic| walk_at "dl") => `(tactic| simp (config := { dsimp := false }) only [↓fnM_e, ↓sSeq_e, seqK_nx, seqK_rt, seqK_bk, seqK_ct, retK_rt, retK_nx, ↓sFrz_e, frK_some, ↓sAsg, ↓sRet, ↓sRetN, ↓sIf, ↓sExpr, ↓sSkip, ↓sNever, ↓sPar, ↓sFor, ↓sSub, ↓fVar, ↓fC, ↓fNil, ↓fCons, ↓fA, ↓f1, ↓f2, ↓fB, ↓fIf, ↓fNeg, ↓fNot, ↓fAnd, ↓fOr, ↓bNot, ↓bAnd, ↓bOr, ↓bYes, ↓obnd_x, ob_some, ↓sbnd_x, sb_some, ↓ite_x, iteK_t, iteK_f, gN, gT, gC, gE, ↓rng1I, ↓rng2I, ↓seqI, ↓enumA, ↓zipI, ↓strI, ↓fLc, ↓fDc, ↓fM, ↓fSl, ↓oNone, ↓oSome, ↓fRev, wipeE, ↓kwM, permM, permL, List.foldr, List.length_cons, List.length_nil, List.map_cons, List.map_nil, List.cons_append, List.nil_append, List.replicate, List.replicate_succ, List.replicate_zero, List.getElem?_cons_zero, List.getElem?_cons_succ, List.set_cons_zero, List.set_cons_succ, if_true, if_false, reduceIte, Nat.reduceAdd, Nat.reduceSub, Nat.reduceEqDiff, Nat.reduceLT, Nat.reduceLeDiff, Int.reduceLT, Int.reduceLE, Int.reduceNeg, Int.reduceMul, Int.reduceAdd, Int.reduceSub, Int.reduceToNat, Int.reducePow, Int.reduceEq, ok, bok, deref, mkL, lstW, tupW, dats, Option.map_some, appendW, insertW, setL, isL, listW, tupleW, lenW, absW, intC, maxW, minW, idxW, addW, subW_e, modW_e, divW_e, powW_e, mulW, intW, lt_e, gt_e, le_e, ge_e, ltW, allW_e, anyW_e, sumW_e, lW, setW, lstAt, cutW, backW, isW, isiW, iLT_none, iLT_bool, iLT_int, iLT_str, iLT_list, iLT_tup, iL_none, iL_bool, iL_int, iL_str, iL_list, iL_tup, iT_none, iT_bool, iT_int, iT_str, iT_list, iT_tup, iS_none, iS_bool, iS_int, iS_str, iS_list, iS_tup, iI_none, iI_bool, iI_int, iI_str, iI_list, iI_tup, iB_none, iB_bool, iB_int, iB_str, iB_list, iB_tup, Bool.false_eq_true, reduceCtorEq, Bool.not_true, Bool.not_false, decide_true, decide_false, List.zip_cons_cons, List.zip_nil_left, List.foldl_cons, List.foldl_nil, and_self, and_true, true_and, Bool.and_true, Bool.true_and, Bool.or_true, Bool.true_or, *])
def prW (l : Bool) (p : Str × Str) : D := if l = true then .list [.str p.1, .str p.2] else .tuple [.str p.1, .str p.2]
abbrev prT (p : Str × Str) : D := .tuple [.str p.1, .str p.2]
def tld (ps : List (Str × Str)) : List (Str × D) := ps.map fun p => (p.1, .str p.2)
theorem tld_keys (ps : List (Str × Str)) : (tld ps).map (·.1) = ps.map (·.1) := by simp [tld]
def unP : D → Str × D
  | .tuple [.str a, d] => (a, d)
  | .list [.str a, d] => (a, d)
  | _ => ("", .none)
theorem unP_map (l : Bool) (ps : List (Str × Str)) : (ps.map (prW l)).map unP = tld ps := by
  rw [List.map_map]
  unfold tld
  apply List.map_congr_left
  intro p _
  cases l <;> rfl
theorem by_names_ok {x : D} {l : Bool} {ps : List (Str × Str)} {h : Hh} (hx : IsSeq x (ps.map (prW l))) (nd : (ps.map (·.1)).Nodup) (hl : ps.length ≤ 1000) : m_by_names [.dat x] h = some (.dat (.dict (sdic (tld ps))), h) := by
  have e := dcL_sdic (k := gT 2 (gC (gN 1) (gC (gN 2) gE))) (fk := fVar 1) (fv := fVar 2) (ρ := [some (.dat x), none, none]) (h := h) unP (ds := ps.map (prW l)) (l := []) (by rw [List.nil_append, unP_map, tld_keys]; exact nd)
    (by rw [List.nil_append, List.length_map, List.length_map]; exact Nat.le_trans hl (by decide)) (by
      intro d hd
      obtain ⟨p, _, rfl⟩ := List.mem_map.mp hd
      refine ⟨[some (.dat x), some (.dat (.str p.1)), some (.dat (.str p.2))], ?_, ?_, ?_⟩
      · clear hx hd
        cases l <;> (unfold prW; walk_at "dl")
      · cases l <;> rfl
      · cases l <;> rfl)
  rw [List.nil_append, unP_map] at e
  have e' : dcL (gT 2 (gC (gN 1) (gC (gN 2) gE))) bYes (fVar 1) (fVar 2) [some (.dat x), none, none] (ps.map (prW l)) [] h = some (sdic (tld ps), h) := e
  have lv := leave_same' (h := h) (d := .dict (sdic (tld ps)))
  unfold m_by_names
  clear nd hl e
  rcases hx with rfl | rfl <;> (walk_at "dl"; simp only [mkK, Bool.false_eq_true, if_false, obnd_some, retK_rt]; walk_at "dl")
theorem people_ok {x : D} {l : Bool} {ps : List (Str × Str)} {h : Hh} (hx : IsSeq x (ps.map (prW l))) (hl : ps.length ≤ 1000) : m_people [.dat x] h = some (.dat (.tuple ((ps.map (·.1)).map .str)), h) := by
  have e : lcL (gT 2 (gC (gN 1) (gC (gN 2) gE))) bYes (fVar 1) [some (.dat x), none, none] (ps.map (prW l)) h = some ((ps.map (·.1)).map .str, h) := by
    rw [lcL_all (fun d => .str (unP d).1)]
    · rw [List.map_map, List.map_map]
      congr 2
      apply List.map_congr_left
      intro p _
      cases l <;> rfl
    · intro d hd
      obtain ⟨p, _, rfl⟩ := List.mem_map.mp hd
      refine ⟨[some (.dat x), some (.dat (.str p.1)), some (.dat (.str p.2))], ?_, rfl, ?_⟩
      · clear hx hd
        cases l <;> (unfold prW; walk_at "dl")
      · cases l <;> rfl
  have l1 : ((ps.map (·.1)).map PyData.str).length ≤ sizeLine := by rw [List.length_map, List.length_map]; exact Nat.le_trans hl (by decide)
  have lv := leave_same' (h := h) (d := .tuple ((ps.map (·.1)).map .str))
  unfold m_people
  clear hl
  rcases hx with rfl | rfl <;> walk_at "dl"
end DL
set_option maxRecDepth 100000
set_option maxHeartbeats 400000
namespace DL
open PySem L2
variable [HW]
local macro_rules | `(tactic| walk_at "dl") => `(tactic| simp (config := { dsimp := false }) only [↓fnM_e, ↓sSeq_e, seqK_nx, seqK_rt, seqK_bk, seqK_ct, retK_rt, retK_nx, ↓sFrz_e, frK_some, ↓sAsg, ↓sRet, ↓sRetN, ↓sIf, ↓sExpr, ↓sSkip, ↓sNever, ↓sPar, ↓sFor, ↓sSub, ↓fVar, ↓fC, ↓fNil, ↓fCons, ↓fA, ↓f1, ↓f2, ↓fB, ↓fIf, ↓fNeg, ↓fNot, ↓fAnd, ↓fOr, ↓bNot, ↓bAnd, ↓bOr, ↓bYes, ↓obnd_x, ob_some, ↓sbnd_x, sb_some, ↓ite_x, iteK_t, iteK_f, gN, gT, gC, gE, ↓rng1I, ↓rng2I, ↓seqI, ↓enumA, ↓zipI, ↓strI, ↓fLc, ↓fDc, ↓fM, ↓fSl, ↓oNone, ↓oSome, ↓fRev, wipeE, ↓kwM, permM, permL, List.foldr, List.length_cons, List.length_nil, List.map_cons, List.map_nil, List.cons_append, List.nil_append, List.replicate, List.replicate_succ, List.replicate_zero, List.getElem?_cons_zero, List.getElem?_cons_succ, List.set_cons_zero, List.set_cons_succ, if_true, if_false, reduceIte, Nat.reduceAdd, Nat.reduceSub, Nat.reduceEqDiff, Nat.reduceLT, Nat.reduceLeDiff, Int.reduceLT, Int.reduceLE, Int.reduceNeg, Int.reduceMul, Int.reduceAdd, Int.reduceSub, Int.reduceToNat, Int.reducePow, Int.reduceEq, ok, bok, deref, mkL, lstW, tupW, dats, Option.map_some, appendW, insertW, setL, isL, listW, tupleW, lenW, absW, intC, maxW, minW, idxW, addW, subW_e, modW_e, divW_e, powW_e, mulW, intW, lt_e, gt_e, le_e, ge_e, ltW, allW_e, anyW_e, sumW_e, lW, setW, lstAt, cutW, backW, isW, isiW, iLT_none, iLT_bool, iLT_int, iLT_str, iLT_list, iLT_tup, iL_none, iL_bool, iL_int, iL_str, iL_list, iL_tup, iT_none, iT_bool, iT_int, iT_str, iT_list, iT_tup, iS_none, iS_bool, iS_int, iS_str, iS_list, iS_tup, iI_none, iI_bool, iI_int, iI_str, iI_list, iI_tup, iB_none, iB_bool, iB_int, iB_str, iB_list, iB_tup, Bool.false_eq_true, reduceCtorEq, Bool.not_true, Bool.not_false, decide_true, decide_false, List.zip_cons_cons, List.zip_nil_left, List.foldl_cons, List.foldl_nil, and_self, and_true, true_and, Bool.and_true, Bool.true_and, Bool.or_true, Bool.true_or, *])
def goal (ps : List (Str × Str)) (s : Str) : Str := (ps.lookup s).getD s
def keyN (r : List Str) (ps : List (Str × Str)) (s : Str) : Nat × Nat := (r.idxOf (goal ps s), r.idxOf s)
def leK (a b : Nat × Nat) : Bool := decide (a.1 < b.1 ∨ (a.1 = b.1 ∧ a.2 ≤ b.2))
def led (r : List Str) (ps : List (Str × Str)) : List Str := r.mergeSort fun a b => leK (keyN r ps a) (keyN r ps b)
structure CallOf (r : List Str) (ps : List (Str × Str)) : Prop where
  perm : (ps.map (·.1)).Perm r
  tgt : ∀ p ∈ ps, p.2 ∈ r
theorem CallOf.nodup {r : List Str} {ps : List (Str × Str)} (c : CallOf r ps) (nd : r.Nodup) : (ps.map (·.1)).Nodup := c.perm.nodup_iff.mpr nd
theorem CallOf.of_perm {r r' : List Str} {ps : List (Str × Str)} (c : CallOf r ps) (p : r.Perm r') : CallOf r' ps := ⟨c.perm.trans p, fun q hq => p.mem_iff.mp (c.tgt q hq)⟩
theorem look_tld : ∀ (ps : List (Str × Str)) (s : Str), (tld ps).lookup s = (ps.lookup s).map .str
  | [], s => rfl
  | (a, b) :: ps, s => by
    have ih := look_tld ps s
    unfold tld at ih ⊢
    rw [List.map_cons, List.lookup_cons, List.lookup_cons]
    cases s == a with
    | true => rfl
    | false => exact ih
theorem look_mem : ∀ {ps : List (Str × Str)} {s : Str}, s ∈ ps.map (·.1) → ∃ t, ps.lookup s = some t ∧ (s, t) ∈ ps
  | [], s, h => by cases h
  | (a, b) :: ps, s, h => by
    rw [List.lookup_cons]
    cases e : s == a with
    | true =>
      have : s = a := by simpa using e
      subst this
      exact ⟨b, rfl, List.mem_cons_self⟩
    | false =>
      have hne : s ≠ a := by simpa using e
      rw [List.map_cons] at h
      rcases List.mem_cons.mp h with z | h
      · exact absurd z hne
      · obtain ⟨t, h1, h2⟩ := look_mem h
        exact ⟨t, h1, List.mem_cons_of_mem _ h2⟩
theorem CallOf.goal_mem {r : List Str} {ps : List (Str × Str)} (c : CallOf r ps) {s : Str} (hs : s ∈ r) : ps.lookup s = some (goal ps s) ∧ goal ps s ∈ r := by
  obtain ⟨t, h1, h2⟩ := look_mem (c.perm.mem_iff.mpr hs)
  have e : goal ps s = t := by unfold goal; rw [h1]; rfl
  rw [e]
  exact ⟨h1, c.tgt _ h2⟩
end DL
set_option maxRecDepth 100000
set_option maxHeartbeats 400000
namespace DL
open PySem L2
variable [HW]
local macro_rules | `(tactic| walk_at "dl") => `(tactic| simp (config := { dsimp := false }) only [↓fnM_e, ↓sSeq_e, seqK_nx, seqK_rt, seqK_bk, seqK_ct, retK_rt, retK_nx, ↓sFrz_e, frK_some, ↓sAsg, ↓sRet, ↓sRetN, ↓sIf, ↓sExpr, ↓sSkip, ↓sNever, ↓sPar, ↓sFor, ↓sSub, ↓fVar, ↓fC, ↓fNil, ↓fCons, ↓fA, ↓f1, ↓f2, ↓fB, ↓fIf, ↓fNeg, ↓fNot, ↓fAnd, ↓fOr, ↓bNot, ↓bAnd, ↓bOr, ↓bYes, ↓obnd_x, ob_some, ↓sbnd_x, sb_some, ↓ite_x, iteK_t, iteK_f, gN, gT, gC, gE, ↓rng1I, ↓rng2I, ↓seqI, ↓enumA, ↓zipI, ↓strI, ↓fLc, ↓fDc, ↓fM, ↓fSl, ↓oNone, ↓oSome, ↓fRev, wipeE, ↓kwM, permM, permL, List.foldr, List.length_cons, List.length_nil, List.map_cons, List.map_nil, List.cons_append, List.nil_append, List.replicate, List.replicate_succ, List.replicate_zero, List.getElem?_cons_zero, List.getElem?_cons_succ, List.set_cons_zero, List.set_cons_succ, if_true, if_false, reduceIte, Nat.reduceAdd, Nat.reduceSub, Nat.reduceEqDiff, Nat.reduceLT, Nat.reduceLeDiff, Int.reduceLT, Int.reduceLE, Int.reduceNeg, Int.reduceMul, Int.reduceAdd, Int.reduceSub, Int.reduceToNat, Int.reducePow, Int.reduceEq, ok, bok, deref, mkL, lstW, tupW, dats, Option.map_some, appendW, insertW, setL, isL, listW, tupleW, lenW, absW, intC, maxW, minW, idxW, addW, subW_e, modW_e, divW_e, powW_e, mulW, intW, lt_e, gt_e, le_e, ge_e, ltW, allW_e, anyW_e, sumW_e, lW, setW, lstAt, cutW, backW, isW, isiW, iLT_none, iLT_bool, iLT_int, iLT_str, iLT_list, iLT_tup, iL_none, iL_bool, iL_int, iL_str, iL_list, iL_tup, iT_none, iT_bool, iT_int, iT_str, iT_list, iT_tup, iS_none, iS_bool, iS_int, iS_str, iS_list, iS_tup, iI_none, iI_bool, iI_int, iI_str, iI_list, iI_tup, iB_none, iB_bool, iB_int, iB_str, iB_list, iB_tup, Bool.false_eq_true, reduceCtorEq, Bool.not_true, Bool.not_false, decide_true, decide_false, List.zip_cons_cons, List.zip_nil_left, List.foldl_cons, List.foldl_nil, and_self, and_true, true_and, Bool.and_true, Bool.true_and, Bool.or_true, Bool.true_or, *])
theorem prW_false : prW false = prT := by funext p; rfl
theorem stay_ok {x : D} {l : List Str} {h : Hh} (hx : IsSeq x (l.map .str)) (ht : Txts l) (hl : l.length ≤ 1000) : m_stay [.dat x] h = some (.dat (.tuple (((sortS l).map fun s => (s, s)).map prT)), h) := by
  have e1 := sortW_strs (h := h) hx ht
  have hs : (sortS l).length = l.length := (sortS_perm l).length_eq
  have c2 : 2 ≤ sizeLine := by decide
  have e2 : lcL (gN 1) bYes (fA tupW (fCons (fVar 1) (fCons (fVar 1) fNil))) [some (.dat x), none] ((sortS l).map .str) h = some (((sortS l).map fun s => (s, s)).map prT, h) := by
    rw [lcL_all (fun d => .tuple [d, d])]
    · rw [List.map_map, List.map_map]; rfl
    · intro d hd
      obtain ⟨s, hs, rfl⟩ := List.mem_map.mp hd
      refine ⟨[some (.dat x), some (.dat (.str s))], rfl, rfl, ?_⟩
      clear hx hl hd
      walk_at "dl"
  have l1 : (((sortS l).map fun s => (s, s)).map prT).length ≤ sizeLine := by rw [List.length_map, List.length_map, hs]; exact Nat.le_trans hl (by decide)
  have lv := leave_same' (h := h) (d := .tuple (((sortS l).map fun s => (s, s)).map prT))
  unfold m_stay
  clear hx hl hs
  walk_at "dl"
theorem look_name_ok {x : D} {l : List Str} {s : Str} {h : Hh} (hx : IsSeq x (l.map .str)) (hs : s ∈ l) : m_look_name [.dat x, .dat (.str s)] h = some (.dat .none, h) := by
  have e1 : ((l.map PyData.str).all flatD) = true := by
    rw [List.all_eq_true]
    intro d hd
    obtain ⟨s, hs, rfl⟩ := List.mem_map.mp hd
    rfl
  have e2 : ((l.map PyData.str).any fun z => PyData.eqv z (.str s)) = true := by
    rw [List.any_eq_true]
    exact ⟨.str s, List.mem_map.mpr ⟨s, hs, rfl⟩, by simp [PyData.eqv]⟩
  have e3 : inW true (.dat (.str s)) (.dat x) h = some (.dat (.bool false), h) := by
    unfold inW
    rcases hx with rfl | rfl <;> (simp only [deref, flatD, e1, e2, Bool.and_self, if_true]; rfl)
  have lv := leave_same' (h := h) (d := .none)
  unfold m_look_name
  clear hx hs
  walk_at "dl"
theorem all_to_ok {x : D} {l : List Str} {s : Str} {h : Hh} (hx : IsSeq x (l.map .str)) (hs : s ∈ l) (ht : Txts l) (hl : l.length ≤ 1000) : m_all_to [.dat x, .dat (.str s)] h = some (.dat (.tuple (((sortS l).map fun t => (t, s)).map prT)), h) := by
  have e0 := look_name_ok (h := h) hx hs
  have e1 := sortW_strs (h := h) hx ht
  have hz : (sortS l).length = l.length := (sortS_perm l).length_eq
  have c2 : 2 ≤ sizeLine := by decide
  have e2 : lcL (gN 2) bYes (fA tupW (fCons (fVar 2) (fCons (fVar 1) fNil))) [some (.dat x), some (.dat (.str s)), none] ((sortS l).map .str) h = some (((sortS l).map fun t => (t, s)).map prT, h) := by
    rw [lcL_all (fun d => .tuple [d, .str s])]
    · rw [List.map_map, List.map_map]; rfl
    · intro d hd
      obtain ⟨t, _, rfl⟩ := List.mem_map.mp hd
      refine ⟨[some (.dat x), some (.dat (.str s)), some (.dat (.str t))], rfl, rfl, ?_⟩
      clear hx hl hd
      walk_at "dl"
  have l1 : (((sortS l).map fun t => (t, s)).map prT).length ≤ sizeLine := by rw [List.length_map, List.length_map, hz]; exact Nat.le_trans hl (by decide)
  have lv := leave_same' (h := h) (d := .tuple (((sortS l).map fun t => (t, s)).map prT))
  unfold m_all_to
  clear hx hl hz hs
  walk_at "dl"
theorem of_ok {x : D} {ds : List D} {h : Hh} {b c : Nat} (hx : IsSeq x ds) (hb : BoxAt h b c) (hc : c < 1000000000) (h0 : 0 < ds.length) (h1 : ds.length ≤ 1000) :
    ∃ d h', m__law_of [.ref b, .dat x] h = some (.dat d, h') ∧ d ∈ ds ∧ BoxAt h' b (c + 1) ∧ Only b h h' := by
  obtain ⟨r, h', e, r0, r1, b1, o1⟩ := take_ok (n := (ds.length : Int)) hb (by omega) (by omega) (by omega)
  have hr : r.toNat < ds.length := by omega
  have e2 : L2.atI ds r = some ds[r.toNat] := by
    have := atI_nat (xs := ds) (j := r.toNat) (List.getElem?_eq_getElem hr)
    rwa [show ((r.toNat : Nat) : Int) = r by omega] at this
  obtain ⟨d, hd, e3⟩ : ∃ d, d ∈ ds ∧ L2.atI ds r = some d := ⟨_, List.getElem_mem hr, e2⟩
  refine ⟨d, h', ?_, hd, b1, o1⟩
  have lv := leave_dat' (d := d) hb b1 o1
  unfold m__law_of
  clear e2 hd hb b1 o1 r0 r1 hr h0 h1 hc
  rcases hx with rfl | rfl <;> walk_at "dl"
end DL
set_option maxRecDepth 100000
set_option maxHeartbeats 400000
namespace DL
open PySem L2
variable [HW]
local macro_rules | `(tactic| walk_at "dl") => `(tactic| simp (config := { dsimp := false }) only [↓fnM_e, ↓sSeq_e, seqK_nx, seqK_rt, seqK_bk, seqK_ct, retK_rt, retK_nx, ↓sFrz_e, frK_some, ↓sAsg, ↓sRet, ↓sRetN, ↓sIf, ↓sExpr, ↓sSkip, ↓sNever, ↓sPar, ↓sFor, ↓sSub, ↓fVar, ↓fC, ↓fNil, ↓fCons, ↓fA, ↓f1, ↓f2, ↓fB, ↓fIf, ↓fNeg, ↓fNot, ↓fAnd, ↓fOr, ↓bNot, ↓bAnd, ↓bOr, ↓bYes, ↓obnd_x, ob_some, ↓sbnd_x, sb_some, ↓ite_x, iteK_t, iteK_f, gN, gT, gC, gE, ↓rng1I, ↓rng2I, ↓seqI, ↓enumA, ↓zipI, ↓strI, ↓fLc, ↓fDc, ↓fM, ↓fSl, ↓oNone, ↓oSome, ↓fRev, wipeE, ↓kwM, permM, permL, List.foldr, List.length_cons, List.length_nil, List.map_cons, List.map_nil, List.cons_append, List.nil_append, List.replicate, List.replicate_succ, List.replicate_zero, List.getElem?_cons_zero, List.getElem?_cons_succ, List.set_cons_zero, List.set_cons_succ, if_true, if_false, reduceIte, Nat.reduceAdd, Nat.reduceSub, Nat.reduceEqDiff, Nat.reduceLT, Nat.reduceLeDiff, Int.reduceLT, Int.reduceLE, Int.reduceNeg, Int.reduceMul, Int.reduceAdd, Int.reduceSub, Int.reduceToNat, Int.reducePow, Int.reduceEq, ok, bok, deref, mkL, lstW, tupW, dats, Option.map_some, appendW, insertW, setL, isL, listW, tupleW, lenW, absW, intC, maxW, minW, idxW, addW, subW_e, modW_e, divW_e, powW_e, mulW, intW, lt_e, gt_e, le_e, ge_e, ltW, allW_e, anyW_e, sumW_e, lW, setW, lstAt, cutW, backW, isW, isiW, iLT_none, iLT_bool, iLT_int, iLT_str, iLT_list, iLT_tup, iL_none, iL_bool, iL_int, iL_str, iL_list, iL_tup, iT_none, iT_bool, iT_int, iT_str, iT_list, iT_tup, iS_none, iS_bool, iS_int, iS_str, iS_list, iS_tup, iI_none, iI_bool, iI_int, iI_str, iI_list, iI_tup, iB_none, iB_bool, iB_int, iB_str, iB_list, iB_tup, Bool.false_eq_true, reduceCtorEq, Bool.not_true, Bool.not_false, decide_true, decide_false, List.zip_cons_cons, List.zip_nil_left, List.foldl_cons, List.foldl_nil, and_self, and_true, true_and, Bool.and_true, Bool.true_and, Bool.or_true, Bool.true_or, *])
noncomputable def askBody : SM := sSeq (sPar (fCons (fA (m__law_of) (fCons (fVar 0) (fCons (fVar 3) (fNil)))) (fCons (fA (m__law_of) (fCons (fVar 0) (fCons (fVar 5) (fNil)))) (fNil))) [10, 11])
    (sSeq (sAsg (fIf (fB (f2 (eqW false) (fA (m__law_take) (fCons (fVar 0) (fCons (fC (.int 4)) (fNil)))) (fC (.int 0)))) (fVar 10) (fVar 8)) (gN 9))
    (sExpr (fM isL appendW (fVar 2) (fCons (fA tupW (fCons (fVar 8) (fCons (f2 idxW (fA (lstW false) (fCons (fVar 10) (fCons (fVar 10) (fCons (fVar 11) (fCons (fVar 9) (fCons (f2 idxW (fVar 6) (fVar 7)) (fCons (fVar 11) (fNil)))))))) (fVar 4)) (fNil)))) (fNil)))))
theorem eqW_ints {neg : Bool} {i j : Int} {h : Hh} : eqW neg (.dat (.int i)) (.dat (.int j)) h = bok (if neg = true then !decide (i = j) else decide (i = j)) h := by
  rfl
theorem ask_turn {b p : Nat} {x : W} {folk some_ swap fs : List D} {so j r : Int} {a n m w t : Str} {v9 v10 v11 : Option W} {g g1 g2 g3 : Hh} (e1 : m__law_of [.ref b, .dat (.list folk)] g = some (.dat (.str a), g1)) (e2 : m__law_of [.ref b, .dat (.list some_)] g1 = some (.dat (.str n), g2))
    (e3 : m__law_take [.ref b, .dat (.int 4)] g2 = some (.dat (.int r), g3)) (e5 : L2.atI swap j = some (.str w)) (e6 : L2.atI [PyData.str a, .str a, .str n, (if decide (r = 0) = true then .str a else .str m), .str w, .str n] so = some (.str t)) (hg : g3[p]? = some (some (.lst fs))) (hl : fs.length < sizeLine) :
    ∃ v9' : Option W, askBody [some (.ref b), some x, some (.ref p), some (.dat (.list folk)), some (.dat (.int so)), some (.dat (.list some_)), some (.dat (.list swap)), some (.dat (.int j)), some (.dat (.str m)), v9, v10, v11] g =
      some (.nx [some (.ref b), some x, some (.ref p), some (.dat (.list folk)), some (.dat (.int so)), some (.dat (.list some_)), some (.dat (.list swap)), some (.dat (.int j)), some (.dat (.str m)), v9', some (.dat (.str a)), some (.dat (.str n))], g3.set p (some (.lst (fs ++ [.tuple [.str m, .str t]])))) ∧ ∀ k, isR k v9' = false := by
  have e4 := eqW_ints (neg := false) (i := r) (j := 0) (h := g3)
  have c2 : 2 ≤ sizeLine := by decide
  have c6 : 6 ≤ sizeLine := by decide
  unfold askBody
  cases hz : decide (r = 0) with
  | true =>
    rw [hz] at e4 e6
    refine ⟨some (.dat (.str a)), ?_, fun _ => rfl⟩
    clear hz
    simp only [if_true] at e6
    walk_at "dl"
  | false =>
    rw [hz] at e4 e6
    refine ⟨some (.dat (.str m)), ?_, fun _ => rfl⟩
    clear hz
    simp only [Bool.false_eq_true, if_false] at e6
    walk_at "dl"
theorem cut_to {α : Type} (xs : List α) {k : Nat} : cutG xs none (some (k : Int)) = xs.take k := by
  have e : HT.sIx xs.length xs.length (some (k : Int)) = min k xs.length := HT.sIx_nat _ _ _
  have e0 : HT.sIx xs.length 0 none = 0 := rfl
  unfold cutG
  rw [e, e0]
  simp only [List.drop_zero, Nat.sub_zero]
  rw [List.take_eq_take_iff]
  omega
end DL
set_option maxRecDepth 100000
set_option maxHeartbeats 400000
namespace DL
open PySem L2
variable [HW]
local macro_rules | `(tactic| walk_at "dl") => `(tactic| simp (config := { dsimp := false }) only [↓fnM_e, ↓sSeq_e, seqK_nx, seqK_rt, seqK_bk, seqK_ct, retK_rt, retK_nx, ↓sFrz_e, frK_some, ↓sAsg, ↓sRet, ↓sRetN, ↓sIf, ↓sExpr, ↓sSkip, ↓sNever, ↓sPar, ↓sFor, ↓sSub, ↓fVar, ↓fC, ↓fNil, ↓fCons, ↓fA, ↓f1, ↓f2, ↓fB, ↓fIf, ↓fNeg, ↓fNot, ↓fAnd, ↓fOr, ↓bNot, ↓bAnd, ↓bOr, ↓bYes, ↓obnd_x, ob_some, ↓sbnd_x, sb_some, ↓ite_x, iteK_t, iteK_f, gN, gT, gC, gE, ↓rng1I, ↓rng2I, ↓seqI, ↓enumA, ↓zipI, ↓strI, ↓fLc, ↓fDc, ↓fM, ↓fSl, ↓oNone, ↓oSome, ↓fRev, wipeE, ↓kwM, permM, permL, List.foldr, List.length_cons, List.length_nil, List.map_cons, List.map_nil, List.cons_append, List.nil_append, List.replicate, List.replicate_succ, List.replicate_zero, List.getElem?_cons_zero, List.getElem?_cons_succ, List.set_cons_zero, List.set_cons_succ, if_true, if_false, reduceIte, Nat.reduceAdd, Nat.reduceSub, Nat.reduceEqDiff, Nat.reduceLT, Nat.reduceLeDiff, Int.reduceLT, Int.reduceLE, Int.reduceNeg, Int.reduceMul, Int.reduceAdd, Int.reduceSub, Int.reduceToNat, Int.reducePow, Int.reduceEq, ok, bok, deref, mkL, lstW, tupW, dats, Option.map_some, appendW, insertW, setL, isL, listW, tupleW, lenW, absW, intC, maxW, minW, idxW, addW, subW_e, modW_e, divW_e, powW_e, mulW, intW, lt_e, gt_e, le_e, ge_e, ltW, allW_e, anyW_e, sumW_e, lW, setW, lstAt, cutW, backW, isW, isiW, iLT_none, iLT_bool, iLT_int, iLT_str, iLT_list, iLT_tup, iL_none, iL_bool, iL_int, iL_str, iL_list, iL_tup, iT_none, iT_bool, iT_int, iT_str, iT_list, iT_tup, iS_none, iS_bool, iS_int, iS_str, iS_list, iS_tup, iI_none, iI_bool, iI_int, iI_str, iI_list, iI_tup, iB_none, iB_bool, iB_int, iB_str, iB_list, iB_tup, Bool.false_eq_true, reduceCtorEq, Bool.not_true, Bool.not_false, decide_true, decide_false, List.zip_cons_cons, List.zip_nil_left, List.foldl_cons, List.foldl_nil, and_self, and_true, true_and, Bool.and_true, Bool.true_and, Bool.or_true, Bool.true_or, *])
theorem ask_run {h g1 g2 g3 g4 g5 : Hh} {b p : Nat} {x : D} {folk st sw ps : List D} {r6 r3 : Int} {k3 : Nat} {v7 v8 v9 v10 v11 : Option W} (e0 : sortW false [.dat x] h = some (.dat (.list folk), h)) (e1 : m__law_take [.ref b, .dat (.int 6)] h = some (.dat (.int r6), g1))
    (e2 : m__law_strewn [.ref b, .dat (.list folk)] g1 = some (.dat (.list st), g2)) (e3 : m__law_take [.ref b, .dat (.int 3)] g2 = some (.dat (.int r3), g3)) (hk : 1 + r3 = (k3 : Int)) (e4 : m__law_strewn [.ref b, .dat (.list folk)] g3 = some (.dat (.list sw), g4)) (hp : p = g4.length)
    (key : forL (gT 2 (gC (gN 7) (gC (gN 8) (gE)))) askBody (enumD 0 folk) [some (.ref b), some (.dat x), some (.ref p), some (.dat (.list folk)), some (.dat (.int r6)), some (.dat (.list (st.take k3))), some (.dat (.list sw)), none, none, none, none, none] (g4 ++ [some (.lst [])]) =
      some (.nx [some (.ref b), some (.dat x), some (.ref p), some (.dat (.list folk)), some (.dat (.int r6)), some (.dat (.list (st.take k3))), some (.dat (.list sw)), v7, v8, v9, v10, v11], g5))
    (h7 : ∀ n, isR n v7 = false) (h8 : ∀ n, isR n v8 = false) (h9 : ∀ n, isR n v9 = false) (h10 : ∀ n, isR n v10 = false) (h11 : ∀ n, isR n v11 = false) (hg : g5[p]? = some (some (.lst ps))) (hbp : (b = p) = False) :
    m__law_ask [.ref b, .dat x] h = leave false h (.dat (.tuple ps)) (g5.set p none) := by
  have c8 : 0 ≤ sizeLine := Nat.zero_le _
  have ct := cut_to st (k := k3)
  have hf : frz 2 [some (.ref b), some (.dat x), some (.ref p), some (.dat (.list folk)), some (.dat (.int r6)), some (.dat (.list (st.take k3))), some (.dat (.list sw)), v7, v8, v9, v10, v11] g5 =
      some ([some (.ref b), some (.dat x), some (.dat (.list ps)), some (.dat (.list folk)), some (.dat (.int r6)), some (.dat (.list (st.take k3))), some (.dat (.list sw)), v7, v8, v9, v10, v11], g5.set p none) := by
    unfold frz
    simp only [List.getElem?_cons_zero, List.getElem?_cons_succ, hg, List.set_cons_zero, List.set_cons_succ, List.any_cons, List.any_nil, h7, h8, h9, h10, h11, isR_ref, isR_dat, isR_none, hbp, decide_false, Bool.or_false, isTab, Bool.false_eq_true, if_false, moD]
  unfold askBody at key
  subst hp
  unfold m__law_ask
  clear h7 h8 h9 h10 h11 hg hbp
  walk_at "dl"
theorem enum_get {r : List Str} {j : Nat} {d : D} (e : (enumD 0 (r.map .str))[j]? = some d) : ∃ hj : j < r.length, d = .tuple [.int (j : Int), .str r[j]] := by
  obtain ⟨s, hs, rfl⟩ := enumD_get e
  rw [List.getElem?_map] at hs
  cases q : r[j]? with
  | none => rw [q] at hs; cases hs
  | some t =>
    rw [q] at hs
    obtain ⟨hj, rfl⟩ := List.getElem?_eq_some_iff.mp q
    cases hs
    exact ⟨hj, by rw [Nat.zero_add]⟩
theorem atI_strs {l : List Str} {j : Nat} (hj : j < l.length) : L2.atI (l.map PyData.str) (j : Int) = some (.str l[j]) :=
  atI_nat (xs := l.map PyData.str) (j := j) (by rw [List.getElem?_map, List.getElem?_eq_getElem hj]; rfl)
theorem app_take {g : Hh} {o : Option MO} {n : Nat} (e : g.length = n) : (g ++ [o]).take n = g := by
  rw [← e, List.take_append_of_le_length (Nat.le_refl _), List.take_length]
theorem app_get {g : Hh} {o : Option MO} {n : Nat} (e : g.length = n) : (g ++ [o])[n]? = some o := by
  rw [List.getElem?_append_right (by omega), e]; simp
theorem app_set {g : Hh} {o o' : Option MO} {n : Nat} (e : g.length = n) : (g ++ [o]).set n o' = g ++ [o'] := by
  rw [List.set_append_right _ _ (by omega), show n - g.length = 0 by omega]; rfl
theorem ask_ok {x : D} {l : List Str} {h : Hh} {b c : Nat} (hx : IsSeq x (l.map .str)) (ht : Txts l) (hb : BoxAt h b c) (hc : c < 1000000) (h0 : 0 < l.length) (h1 : l.length ≤ 1000) :
    ∃ (ps : List (Str × Str)) (h' : Hh), m__law_ask [.ref b, .dat x] h = some (.dat (.tuple (ps.map prT)), h') ∧ ps.map (·.1) = sortS l ∧ (∀ p ∈ ps, p.2 ∈ l) ∧ BoxAt h' b (c + 2 + 5 * l.length) ∧ Only b h h' := by
  have hz : sizeLine = 16777216 := by rfl
  have e0 := sortW_strs (h := h) hx ht
  have sp := sortS_perm l
  have sl := sp.length_eq
  obtain ⟨r6, g1, e1, p1, q1, b1, o1⟩ := take_ok (n := 6) hb (by omega) (by omega) (by omega)
  obtain ⟨st', g2, e2, pm2, b2, o2⟩ := strewn_ok (x := .list ((sortS l).map .str)) (.inl rfl) b1 (by rw [List.length_map]; omega) (by rw [List.length_map]; omega)
  obtain ⟨st, rfl, ps2⟩ := perm_strs pm2
  obtain ⟨r3, g3, e3, p3, q3, b3, o3⟩ := take_ok (n := 3) b2 (by rw [List.length_map]; omega) (by omega) (by omega)
  obtain ⟨sw', g4, e4, pm4, b4, o4⟩ := strewn_ok (x := .list ((sortS l).map .str)) (.inl rfl) b3 (by rw [List.length_map]; omega) (by rw [List.length_map]; omega)
  obtain ⟨sw, rfl, ps4⟩ := perm_strs pm4
  obtain ⟨k3, hk, hk1⟩ : ∃ k3 : Nat, 1 + r3 = (k3 : Int) ∧ 0 < k3 := ⟨(1 + r3).toNat, by omega, by omega⟩
  have b4' : BoxAt g4 b (c + 2 + 2 * l.length) := b4.mono (by rw [List.length_map]; omega)
  have on4 := o1.trans (o2.trans (o3.trans o4))
  have lb := b4.lt
  have swl := ps4.length_eq
  have stl := ps2.length_eq
  have st3 : (st.map PyData.str).take k3 = (st.take k3).map .str := List.map_take.symm
  have st3l : 0 < (st.take k3).length := by rw [List.length_take]; omega
  have st3m : (st.take k3).length ≤ 1000 := by rw [List.length_take]; omega
  have key := forL_inv (k := gT 2 (gC (gN 7) (gC (gN 8) (gE)))) (body := askBody)
    (fun n ρ g => ∃ (v7 v8 v9 v10 v11 : Option W) (ps : List (Str × Str)) (g' : Hh), (∀ n, isR n v7 = false) ∧ (∀ n, isR n v8 = false) ∧ (∀ n, isR n v9 = false) ∧ (∀ n, isR n v10 = false) ∧ (∀ n, isR n v11 = false) ∧
      ρ = [some (.ref b), some (.dat x), some (.ref g4.length), some (.dat (.list ((sortS l).map .str))), some (.dat (.int r6)), some (.dat (.list ((st.take k3).map .str))), some (.dat (.list (sw.map .str))), v7, v8, v9, v10, v11] ∧ g = g' ++ [some (.lst (ps.map prT))] ∧
      ps.map (·.1) = (sortS l).take n ∧ (∀ p ∈ ps, p.2 ∈ l) ∧ BoxAt g' b (c + 2 + 2 * l.length + 3 * n) ∧ Only b g4 g') (ds := enumD 0 ((sortS l).map .str)) (n := 0)
    (ρ := [some (.ref b), some (.dat x), some (.ref g4.length), some (.dat (.list ((sortS l).map .str))), some (.dat (.int r6)), some (.dat (.list ((st.take k3).map .str))), some (.dat (.list (sw.map .str))), none, none, none, none, none]) (h := g4 ++ [some (.lst [])])
    ⟨none, none, none, none, none, [], g4, fun _ => rfl, fun _ => rfl, fun _ => rfl, fun _ => rfl, fun _ => rfl, rfl, rfl, rfl, by simp, b4', .refl _ _⟩ (by
      intro j d ej ρ g hi
      obtain ⟨v7, v8, v9, v10, v11, ps, g', i7, i8, i9, i10, i11, rfl, rfl, pf, pt, bx, on⟩ := hi
      obtain ⟨hj, rfl⟩ := enum_get ej
      rw [Nat.zero_add] at pf bx ⊢
      obtain ⟨d1, k1, f1, m1, bx1, on1⟩ := of_ok (x := .list ((sortS l).map .str)) (.inl rfl) (box_app (l := [some (.lst (ps.map prT))]) bx) (by omega) (by rw [List.length_map]; omega) (by rw [List.length_map]; omega)
      obtain ⟨a, ha, rfl⟩ := List.mem_map.mp m1
      obtain ⟨d2, k2, f2, m2, bx2, on2⟩ := of_ok (x := .list ((st.take k3).map .str)) (.inl rfl) bx1 (by omega) (by rw [List.length_map]; omega) (by rw [List.length_map]; omega)
      obtain ⟨n, hn, rfl⟩ := List.mem_map.mp m2
      obtain ⟨r4, g3', f3, p4, q4, bx3, on3⟩ := take_ok (n := 4) bx2 (by omega) (by omega) (by omega)
      obtain ⟨onA, gA, rfl, gAl⟩ := only_app bx.lt (on1.trans (on2.trans on3))
      have gl := on.len
      have hla : a ∈ l := sp.mem_iff.mp ha
      have hln : n ∈ l := sp.mem_iff.mp (ps2.mem_iff.mp (List.mem_of_mem_take hn))
      have hlm : (sortS l)[j] ∈ l := sp.mem_iff.mp (List.getElem_mem hj)
      have hlw : sw[j]'(by omega) ∈ l := sp.mem_iff.mp (ps4.mem_iff.mp (List.getElem_mem _))
      obtain ⟨t, htl, e6⟩ : ∃ t, t ∈ l ∧ L2.atI [PyData.str a, .str a, .str n, (if decide (r4 = 0) = true then .str a else .str (sortS l)[j]), .str (sw[j]'(by omega)), .str n] r6 = some (.str t) := by
        have : r6 = 0 ∨ r6 = 1 ∨ r6 = 2 ∨ r6 = 3 ∨ r6 = 4 ∨ r6 = 5 := by omega
        rcases this with rfl | rfl | rfl | rfl | rfl | rfl
        · exact ⟨_, hla, rfl⟩
        · exact ⟨_, hla, rfl⟩
        · exact ⟨_, hln, rfl⟩
        · cases decide (r4 = 0)
          · exact ⟨_, hlm, rfl⟩
          · exact ⟨_, hla, rfl⟩
        · exact ⟨_, hlw, rfl⟩
        · exact ⟨_, hln, rfl⟩
      have pl : ps.length = j := by
        have := congrArg List.length pf
        rw [List.length_map, List.length_take] at this
        omega
      obtain ⟨v9', et, h9'⟩ := ask_turn (p := g4.length) (x := .dat x) (v9 := v9) (v10 := v10) (v11 := v11) f1 f2 f3 (atI_strs (l := sw) (j := j) (by omega)) e6 (app_get (by omega)) (by rw [List.length_map]; omega)
      rw [app_set (by omega)] at et
      refine ⟨_, _, _, ?_, et, _, _, v9', _, _, ps ++ [((sortS l)[j], t)], gA, fun _ => rfl, fun _ => rfl, h9', fun _ => rfl, fun _ => rfl, rfl, ?_, ?_, ?_, ?_, ?_⟩
      · clear hz e0 e1 e2 e3 e4 f1 f2 f3 et e6 ej pl
        walk_at "dl"
      · simp
      · rw [List.map_append, pf, take_snoc (List.getElem?_eq_getElem hj)]; rfl
      · intro p hp
        rcases List.mem_append.mp hp with hp | hp
        · exact pt p hp
        · rw [List.mem_singleton] at hp; subst hp; exact htl
      · have := box_take bx3 (n := gA.length) (by rw [gAl]; exact bx.lt)
        rw [app_take rfl] at this
        exact this.mono (by omega)
      · rw [app_take gAl] at onA
        exact on.trans onA)
  obtain ⟨ρ', g5, ek, v7, v8, v9, v10, v11, ps, g', i7, i8, i9, i10, i11, rfl, rfl, pf, pt, bx, on⟩ := key
  rw [Nat.zero_add, enumD_len, List.length_map] at pf bx
  rw [List.take_length] at pf
  refine ⟨ps, g', ?_, pf, pt, bx.mono (by omega), on4.trans on⟩
  have gl := on.len
  rw [ask_run (st := st.map .str) (sw := sw.map .str) (k3 := k3) e0 e1 e2 e3 hk e4 rfl (by rw [st3]; exact ek) i7 i8 i9 i10 i11 (app_get (by omega)) (eq_false (by omega)), app_set (by omega)]
  exact leave_two hb bx (on4.trans on)
end DL
set_option maxRecDepth 100000
set_option maxHeartbeats 400000
namespace DL
open PySem L2
variable [HW]
local macro_rules | `(tactic| walk_at "dl") => `(tactic| simp (config := { dsimp := false }) only [↓fnM_e, ↓sSeq_e, seqK_nx, seqK_rt, seqK_bk, seqK_ct, retK_rt, retK_nx, ↓sFrz_e, frK_some, ↓sAsg, ↓sRet, ↓sRetN, ↓sIf, ↓sExpr, ↓sSkip, ↓sNever, ↓sPar, ↓sFor, ↓sSub, ↓fVar, ↓fC, ↓fNil, ↓fCons, ↓fA, ↓f1, ↓f2, ↓fB, ↓fIf, ↓fNeg, ↓fNot, ↓fAnd, ↓fOr, ↓bNot, ↓bAnd, ↓bOr, ↓bYes, ↓obnd_x, ob_some, ↓sbnd_x, sb_some, ↓ite_x, iteK_t, iteK_f, gN, gT, gC, gE, ↓rng1I, ↓rng2I, ↓seqI, ↓enumA, ↓zipI, ↓strI, ↓fLc, ↓fDc, ↓fM, ↓fSl, ↓oNone, ↓oSome, ↓fRev, wipeE, ↓kwM, permM, permL, List.foldr, List.length_cons, List.length_nil, List.map_cons, List.map_nil, List.cons_append, List.nil_append, List.replicate, List.replicate_succ, List.replicate_zero, List.getElem?_cons_zero, List.getElem?_cons_succ, List.set_cons_zero, List.set_cons_succ, if_true, if_false, reduceIte, Nat.reduceAdd, Nat.reduceSub, Nat.reduceEqDiff, Nat.reduceLT, Nat.reduceLeDiff, Int.reduceLT, Int.reduceLE, Int.reduceNeg, Int.reduceMul, Int.reduceAdd, Int.reduceSub, Int.reduceToNat, Int.reducePow, Int.reduceEq, ok, bok, deref, mkL, lstW, tupW, dats, Option.map_some, appendW, insertW, setL, isL, listW, tupleW, lenW, absW, intC, maxW, minW, idxW, addW, subW_e, modW_e, divW_e, powW_e, mulW, intW, lt_e, gt_e, le_e, ge_e, ltW, allW_e, anyW_e, sumW_e, lW, setW, lstAt, cutW, backW, isW, isiW, iLT_none, iLT_bool, iLT_int, iLT_str, iLT_list, iLT_tup, iL_none, iL_bool, iL_int, iL_str, iL_list, iL_tup, iT_none, iT_bool, iT_int, iT_str, iT_list, iT_tup, iS_none, iS_bool, iS_int, iS_str, iS_list, iS_tup, iI_none, iI_bool, iI_int, iI_str, iI_list, iI_tup, iB_none, iB_bool, iB_int, iB_str, iB_list, iB_tup, Bool.false_eq_true, reduceCtorEq, Bool.not_true, Bool.not_false, decide_true, decide_false, List.zip_cons_cons, List.zip_nil_left, List.foldl_cons, List.foldl_nil, and_self, and_true, true_and, Bool.and_true, Bool.true_and, Bool.or_true, Bool.true_or, *])
def NameOk (s : Str) : Prop := 1 ≤ s.length ∧ s.length ≤ 6 ∧ ∀ c ∈ s.cps.toList, 97 ≤ c ∧ c ≤ 122
theorem nm_name {st sp a : Nat} : NameOk (nm st sp a) := by
  refine ⟨?_, ?_, fun c hc => ?_⟩
  · unfold nm
    rw [len_app]
    show 1 ≤ 1 + _
    omega
  · unfold nm
    rw [len_app]
    have := sfx_le (a % 2 * (1 + st % 2))
    show 1 + _ ≤ _
    omega
  · rw [nm_cps] at hc
    rcases List.mem_cons.mp hc with rfl | hc
    · omega
    · generalize a % 2 * (1 + st % 2) = k at hc
      match k, hc with
      | 0, hc => rw [sfx_len.1] at hc; cases hc
      | 1, hc => rw [sfx_len.2.1] at hc; simp at hc; omega
      | _ + 2, hc =>
        have hc' : c ∈ (sfx 2).cps.toList := hc
        rw [sfx_len.2.2] at hc'; simp at hc'; omega
theorem Crew.names {most : Nat} {rs : List Str} (h : Crew most rs) : ∀ s ∈ rs, NameOk s := fun s hs => by
  obtain ⟨st, sp, a, _, _, rfl⟩ := h.nam s hs
  exact nm_name
theorem letters_mem {c : Nat} (h0 : 97 ≤ c) (h1 : c ≤ 122) : c ∈ letters.cps.toList := by
  have : ∀ i : Fin 26, 97 + i.1 ∈ letters.cps.toList := by decide +kernel
  have := this ⟨c - 97, by omega⟩
  rwa [show 97 + (c - 97) = c by omega] at this
theorem in_letters {c : Nat} {L : Str} {h : Hh} (hm : c ∈ L.cps.toList) : inW false (.dat (.str ⟨#[c]⟩)) (.dat (.str L)) h = some (.dat (.bool true), h) := by
  show bok (decide (c ∈ L.cps.toList)) h = _
  simp only [hm, decide_true]
  rfl
theorem fChain_e (s1 s2 : W → W → Hh → Option (W × Hh)) {f g k : EM} {ρ : Env} {h h1 h2 h3 h4 : Hh} {a b d : W} (e1 : f ρ h = some (a, h1)) (e2 : g ρ h1 = some (b, h2)) (e3 : s1 a b h2 = some (.dat (.bool true), h3)) (e4 : k ρ h3 = some (d, h4)) : fChain s1 s2 f g k ρ h = s2 b d h4 := by
  unfold fChain
  simp only [e1, e2, e3, e4, obnd]
theorem is_name_run {s L : Str} {h : Hh} (hL : L = letters) (h0 : (1 : Int) ≤ (s.length : Int)) (h1 : (s.length : Int) ≤ 6) (hz : s.length ≤ sizeLine) (el : lcL (gN 1) bYes (f2 (inW false) (fVar 1) (fC (.str L))) [some (.dat (.str s)), none] (signs s) h = some (List.replicate (signs s).length (.bool true), h)) (hl : (signs s).length ≤ sizeLine) :
    m_is_name [.dat (.str s)] h = some (.dat (.bool true), h) := by
  have e4 := bools_true (signs s).length
  have e5 := all_true (signs s).length
  have e6 : (List.replicate (signs s).length (PyData.bool true)).length ≤ sizeLine := by simpa using hl
  have lv := leave_same' (h := h) (d := .bool true)
  have ech : fChain le_W le_W (fC (.int 1)) (fA lenW (fCons (fVar 0) (fNil))) (fC (.int 6)) [some (.dat (.str s)), none] h = some (.dat (.bool true), h) := by
    rw [fChain_e le_W le_W (a := .dat (.int 1)) (b := .dat (.int (s.length : Int))) (d := .dat (.int 6)) (h1 := h) (h2 := h) (h3 := h) (h4 := h) rfl]
    · walk_at "dl"
    · walk_at "dl"
    · walk_at "dl"
    · rfl
  subst hL
  unfold m_is_name
  walk_at "dl"
theorem is_name_ok {s : Str} {h : Hh} (hs : NameOk s) : m_is_name [.dat (.str s)] h = some (.dat (.bool true), h) := by
  obtain ⟨h0, h1, h2⟩ := hs
  have hz : sizeLine = 16777216 := rfl
  have hl : (signs s).length = s.length := by simp [signs, Str.length]
  refine is_name_run (L := letters) rfl (by omega) (by omega) (by omega) ?_ (by omega)
  rw [lcL_all (fun _ => .bool true)]
  · congr 2
    apply List.eq_replicate_iff.mpr
    exact ⟨by simp, fun b hb => by obtain ⟨d, hd, rfl⟩ := List.mem_map.mp hb; rfl⟩
  · intro d hd
    unfold signs at hd
    obtain ⟨c, hc, rfl⟩ := List.mem_map.mp hd
    have e := in_letters (h := h) (letters_mem (h2 c hc).1 (h2 c hc).2)
    refine ⟨[some (.dat (.str s)), some (.dat (.str ⟨#[c]⟩))], rfl, rfl, ?_⟩
    generalize letters = L at e
    clear hz hl h0 h1 hd
    walk_at "dl"
mutual
def lsts : D → D
  | .list ds => .list (lstsA ds)
  | .tuple ds => .list (lstsA ds)
  | d => d
def lstsA : List D → List D
  | [] => []
  | d :: ds => lsts d :: lstsA ds
end
theorem lstsA_map : ∀ ds : List D, lstsA ds = ds.map lsts
  | [] => rfl
  | d :: ds => by rw [lstsA, lstsA_map ds, List.map_cons]
theorem lists_seq {n : Nat} {x : D} {ds : List D} {h : Hh} (ih : ∀ d ∈ ds, m__law_lists n [.dat d] h = some (.dat (lsts d), h)) :
    lcL (gN 1) bYes (fA (m__law_lists n) (fCons (fVar 1) (fNil))) [some (.dat x), none] ds h = some (lstsA ds, h) := by
  rw [lstsA_map]
  apply lcL_all
  intro d hd
  have e := ih d hd
  refine ⟨[some (.dat x), some (.dat d)], rfl, rfl, ?_⟩
  walk_at "dl"
theorem lstsA_len (ds : List D) : (lstsA ds).length = ds.length := by rw [lstsA_map, List.length_map]
theorem lists_ok : ∀ (n : Nat) (d : D) (h : Hh), plainD d = true → d.depth < n → m__law_lists n [.dat d] h = some (.dat (lsts d), h)
  | 0, _, _, _, hd => by omega
  | n + 1, d, h, hp, hd => by
    have tk := fun d : D => leave_same' (h := h) (d := d)
    cases d with
    | none => unfold m__law_lists; rw [show lsts .none = .none from rfl]; walk_at "dl"
    | bool b => unfold m__law_lists; rw [show lsts (.bool b) = .bool b from rfl]; walk_at "dl"
    | int i => unfold m__law_lists; rw [show lsts (.int i) = .int i from rfl]; walk_at "dl"
    | str s => unfold m__law_lists; rw [show lsts (.str s) = .str s from rfl]; walk_at "dl"
    | list ds =>
      simp only [plainD, Bool.and_eq_true, decide_eq_true_eq] at hp
      simp only [PyData.depth] at hd
      have e3 := lists_seq (n := n) (x := .list ds) (ds := ds) (h := h) (fun d hd' => lists_ok n d h (plainDs_mem hp.1 hd') (by have := depthAll_mem hd'; omega))
      have el : (lstsA ds).length ≤ sizeLine := by rw [lstsA_len]; exact hp.2
      rw [show lsts (.list ds) = .list (lstsA ds) from rfl]
      unfold m__law_lists
      clear hd hp
      walk_at "dl"
    | tuple ds =>
      simp only [plainD, Bool.and_eq_true, decide_eq_true_eq] at hp
      simp only [PyData.depth] at hd
      have e3 := lists_seq (n := n) (x := .tuple ds) (ds := ds) (h := h) (fun d hd' => lists_ok n d h (plainDs_mem hp.1 hd') (by have := depthAll_mem hd'; omega))
      have el : (lstsA ds).length ≤ sizeLine := by rw [lstsA_len]; exact hp.2
      rw [show lsts (.tuple ds) = .list (lstsA ds) from rfl]
      unfold m__law_lists
      clear hd hp
      walk_at "dl"
    | dict es => simp [plainD] at hp
theorem lsts_call (ps : List (Str × Str)) : lstsA (ps.map prT) = ps.map (prW true) := by
  rw [lstsA_map, List.map_map]; rfl
end DL
set_option maxRecDepth 100000
set_option maxHeartbeats 400000
namespace DL
open PySem L2
variable [HW]
theorem plain_strs : ∀ l : List Str, plainDs (l.map PyData.str) = true
  | [] => rfl
  | a :: l => by rw [List.map_cons, plainDs, plain_strs l]; rfl
theorem plain_pairs : ∀ ps : List (Str × Str), plainDs (ps.map prT) = true
  | [] => rfl
  | a :: l => by rw [List.map_cons, plainDs, plain_pairs l]; rfl
theorem depth_pairs : ∀ ps : List (Str × Str), PyData.depthAll (ps.map prT) ≤ 1
  | [] => Nat.zero_le _
  | a :: l => by
    rw [List.map_cons, PyData.depthAll]
    have := depth_pairs l
    have e : PyData.depth (prT a) = 1 := rfl
    omega
theorem plain_row {l : List Str} (hl : l.length ≤ 1000) : plainD (.tuple (l.map .str)) = true := by
  rw [plainD, plain_strs, Bool.true_and, decide_eq_true_eq, List.length_map]
  exact Nat.le_trans hl (by decide)
theorem plain_call {ps : List (Str × Str)} (hl : ps.length ≤ 1000) : plainD (.tuple (ps.map prT)) = true := by
  rw [plainD, plain_pairs, Bool.true_and, decide_eq_true_eq, List.length_map]
  exact Nat.le_trans hl (by decide)
theorem depth_row (l : List Str) : PyData.depth (.tuple (l.map .str)) = 1 := by rw [PyData.depth, depth_strs]
theorem depth_call (ps : List (Str × Str)) : PyData.depth (.tuple (ps.map prT)) ≤ 2 := by
  rw [PyData.depth]
  have := depth_pairs ps
  omega
abbrev TxtP (ps : List (Str × Str)) : Prop := ∀ p ∈ ps, TxtOk p.1 ∧ TxtOk p.2
theorem CallOf.txts {r : List Str} {ps : List (Str × Str)} (c : CallOf r ps) (ht : Txts r) : TxtP ps := fun p hp =>
  ⟨ht _ (c.perm.mem_iff.mp (List.mem_map.mpr ⟨p, hp, rfl⟩)), ht _ (c.tgt p hp)⟩
theorem tx_pairs : ∀ {ps : List (Str × Str)}, TxtP ps → txDs (ps.map prT) = true
  | [], _ => rfl
  | p :: ps, h => by
    obtain ⟨h1, h2⟩ := h p List.mem_cons_self
    rw [List.map_cons, txDs, tx_pairs fun q hq => h q (List.mem_cons_of_mem _ hq)]
    simp only [prT, txD, txDs, tx_str h1, tx_str h2, Bool.and_true]
    have a := tx_str h1
    have b := tx_str h2
    rw [txD] at a b
    rw [a, b]; rfl
theorem cost_pairs : ∀ {ps : List (Str × Str)}, TxtP ps → costDs (ps.map prT) ≤ 2013 * ps.length
  | [], _ => Nat.le_refl _
  | p :: ps, h => by
    obtain ⟨h1, h2⟩ := h p List.mem_cons_self
    have ih := cost_pairs fun q hq => h q (List.mem_cons_of_mem _ hq)
    have a := h1.1
    have b := h2.1
    rw [List.map_cons, costDs, List.length_cons]
    have e : costD (prT p) = (10 * p.1.length + 2) + 2 + ((10 * p.2.length + 2) + 2 + 0) + 3 := by simp [prT, costD, costDs]
    omega
theorem tx_call {ps : List (Str × Str)} (ht : TxtP ps) : txD (.tuple (ps.map prT)) = true := by rw [txD]; exact tx_pairs ht
theorem cost_call {ps : List (Str × Str)} (ht : TxtP ps) (hl : ps.length ≤ 1000) : costD (.tuple (ps.map prT)) ≤ 2013003 := by
  rw [costD]
  have := cost_pairs ht
  omega
theorem prTx_pairs : ∀ ps : List (Str × Str), prTx (ps.map prT) = some ps
  | [] => rfl
  | p :: ps => by
    rw [List.map_cons]
    show (prTx (ps.map prT)).map ((p.1, p.2) :: ·) = _
    rw [prTx_pairs ps]; rfl
theorem callD_pairs {ps : List (Str × Str)} (h0 : 0 < ps.length) (nd : (ps.map (·.1)).Nodup) : callD (ps.map prT) = true := by
  suffices e : pairD (ps.map prT) = true by
    unfold callD
    first | rw [e, Bool.true_or] | rw [e]
  unfold pairD
  rw [prTx_pairs]
  cases ps with
  | nil => simp at h0
  | cons p ps => simp only [List.isEmpty_cons, Bool.not_false, Bool.true_and, decide_eq_true_eq]; exact nd
theorem prs_tld (ps : List (Str × Str)) : ps.map prT = prs (tld ps) := by
  unfold prs tld
  rw [List.map_map]; rfl
theorem dict_call {ps : List (Str × Str)} {h : Hh} (h0 : 0 < ps.length) (nd : (ps.map (·.1)).Nodup) : dictA false [.dat (.tuple (ps.map prT))] h = some (.dat (.dict (sdic (tld ps))), h) := by
  have e := pairsK_prs (tld ps)
  have e2 := merge_sdic (tld ps) [] (by rw [List.nil_append, tld_keys]; exact nd)
  have e3 : mergeD [] ((tld ps).map fun p => (Sum.inr p.1, p.2)) = sdic (tld ps) := e2
  have ec := callD_pairs h0 nd
  unfold dictA
  simp only [deref, ec, if_true]
  rw [prs_tld, e]
  simp only [e3, mkK, Bool.false_eq_true, if_false]
end DL
set_option maxRecDepth 100000
set_option maxHeartbeats 400000
namespace DL
open PySem L2
variable [HW]
local macro_rules | `(tactic| walk_at "dl") => `(tactic| simp (config := { dsimp := false }) only [↓fnM_e, ↓sSeq_e, seqK_nx, seqK_rt, seqK_bk, seqK_ct, retK_rt, retK_nx, ↓sFrz_e, frK_some, ↓sAsg, ↓sRet, ↓sRetN, ↓sIf, ↓sExpr, ↓sSkip, ↓sNever, ↓sPar, ↓sFor, ↓sSub, ↓fVar, ↓fC, ↓fNil, ↓fCons, ↓fA, ↓f1, ↓f2, ↓fB, ↓fIf, ↓fNeg, ↓fNot, ↓fAnd, ↓fOr, ↓bNot, ↓bAnd, ↓bOr, ↓bYes, ↓obnd_x, ob_some, ↓sbnd_x, sb_some, ↓ite_x, iteK_t, iteK_f, gN, gT, gC, gE, ↓rng1I, ↓rng2I, ↓seqI, ↓enumA, ↓zipI, ↓strI, ↓fLc, ↓fDc, ↓fM, ↓fSl, ↓oNone, ↓oSome, ↓fRev, wipeE, ↓kwM, permM, permL, List.foldr, List.length_cons, List.length_nil, List.map_cons, List.map_nil, List.cons_append, List.nil_append, List.replicate, List.replicate_succ, List.replicate_zero, List.getElem?_cons_zero, List.getElem?_cons_succ, List.set_cons_zero, List.set_cons_succ, if_true, if_false, reduceIte, Nat.reduceAdd, Nat.reduceSub, Nat.reduceEqDiff, Nat.reduceLT, Nat.reduceLeDiff, Int.reduceLT, Int.reduceLE, Int.reduceNeg, Int.reduceMul, Int.reduceAdd, Int.reduceSub, Int.reduceToNat, Int.reducePow, Int.reduceEq, ok, bok, deref, mkL, lstW, tupW, dats, Option.map_some, appendW, insertW, setL, isL, listW, tupleW, lenW, absW, intC, maxW, minW, idxW, addW, subW_e, modW_e, divW_e, powW_e, mulW, intW, lt_e, gt_e, le_e, ge_e, ltW, allW_e, anyW_e, sumW_e, lW, setW, lstAt, cutW, backW, isW, isiW, iLT_none, iLT_bool, iLT_int, iLT_str, iLT_list, iLT_tup, iL_none, iL_bool, iL_int, iL_str, iL_list, iL_tup, iT_none, iT_bool, iT_int, iT_str, iT_list, iT_tup, iS_none, iS_bool, iS_int, iS_str, iS_list, iS_tup, iI_none, iI_bool, iI_int, iI_str, iI_list, iI_tup, iB_none, iB_bool, iB_int, iB_str, iB_list, iB_tup, Bool.false_eq_true, reduceCtorEq, Bool.not_true, Bool.not_false, decide_true, decide_false, List.zip_cons_cons, List.zip_nil_left, List.foldl_cons, List.foldl_nil, and_self, and_true, true_and, Bool.and_true, Bool.true_and, Bool.or_true, Bool.true_or, *])
end DL
set_option maxRecDepth 100000
set_option maxHeartbeats 400000
namespace DL
open PySem L2
variable [HW]
local macro_rules | `(tactic| walk_at "dl") => `(tactic| simp (config := { dsimp := false }) only [↓fnM_e, ↓sSeq_e, seqK_nx, seqK_rt, seqK_bk, seqK_ct, retK_rt, retK_nx, ↓sFrz_e, frK_some, ↓sAsg, ↓sRet, ↓sRetN, ↓sIf, ↓sExpr, ↓sSkip, ↓sNever, ↓sPar, ↓sFor, ↓sSub, ↓fVar, ↓fC, ↓fNil, ↓fCons, ↓fA, ↓f1, ↓f2, ↓fB, ↓fIf, ↓fNeg, ↓fNot, ↓fAnd, ↓fOr, ↓bNot, ↓bAnd, ↓bOr, ↓bYes, ↓obnd_x, ob_some, ↓sbnd_x, sb_some, ↓ite_x, iteK_t, iteK_f, gN, gT, gC, gE, ↓rng1I, ↓rng2I, ↓seqI, ↓enumA, ↓zipI, ↓strI, ↓fLc, ↓fDc, ↓fM, ↓fSl, ↓oNone, ↓oSome, ↓fRev, wipeE, ↓kwM, permM, permL, List.foldr, List.length_cons, List.length_nil, List.map_cons, List.map_nil, List.cons_append, List.nil_append, List.replicate, List.replicate_succ, List.replicate_zero, List.getElem?_cons_zero, List.getElem?_cons_succ, List.set_cons_zero, List.set_cons_succ, if_true, if_false, reduceIte, Nat.reduceAdd, Nat.reduceSub, Nat.reduceEqDiff, Nat.reduceLT, Nat.reduceLeDiff, Int.reduceLT, Int.reduceLE, Int.reduceNeg, Int.reduceMul, Int.reduceAdd, Int.reduceSub, Int.reduceToNat, Int.reducePow, Int.reduceEq, ok, bok, deref, mkL, lstW, tupW, dats, Option.map_some, appendW, insertW, setL, isL, listW, tupleW, lenW, absW, intC, maxW, minW, idxW, addW, subW_e, modW_e, divW_e, powW_e, mulW, intW, lt_e, gt_e, le_e, ge_e, ltW, allW_e, anyW_e, sumW_e, lW, setW, lstAt, cutW, backW, isW, isiW, iLT_none, iLT_bool, iLT_int, iLT_str, iLT_list, iLT_tup, iL_none, iL_bool, iL_int, iL_str, iL_list, iL_tup, iT_none, iT_bool, iT_int, iT_str, iT_list, iT_tup, iS_none, iS_bool, iS_int, iS_str, iS_list, iS_tup, iI_none, iI_bool, iI_int, iI_str, iI_list, iI_tup, iB_none, iB_bool, iB_int, iB_str, iB_list, iB_tup, Bool.false_eq_true, reduceCtorEq, Bool.not_true, Bool.not_false, decide_true, decide_false, List.zip_cons_cons, List.zip_nil_left, List.foldl_cons, List.foldl_nil, and_self, and_true, true_and, Bool.and_true, Bool.true_and, Bool.or_true, Bool.true_or, *])
structure Folk (most : Nat) (rs : List Str) : Prop where
  nd : rs.Nodup
  pos : 0 < rs.length
  le : rs.length ≤ most
  nam : ∀ s ∈ rs, NameOk s
theorem NameOk.txt {s : Str} (h : NameOk s) : TxtOk s := ⟨by have := h.2.1; omega, fun c hc => by have := h.2.2 c hc; omega⟩
theorem Folk.txts {n : Nat} {rs : List Str} (h : Folk n rs) : Txts rs := fun s hs => (h.nam s hs).txt
theorem Crew.folk {n : Nat} {rs : List Str} (h : Crew n rs) : Folk n rs := ⟨h.nd, h.pos, h.le, h.names⟩
theorem Folk.perm {n : Nat} {rs ms : List Str} (h : Folk n rs) (p : ms.Perm rs) : Folk n ms := ⟨p.nodup_iff.mpr h.nd, by rw [p.length_eq]; exact h.pos, by rw [p.length_eq]; exact h.le, fun s hs => h.nam s (p.mem_iff.mp hs)⟩
abbrev qqq : Str := "qqq"
theorem qqq_cps : qqq.cps.toList = [113, 113, 113] := by decide +kernel
theorem qqq_nm {st sp a : Nat} : nm st sp a ≠ qqq := fun e => by
  have e' := congrArg (fun s : Str => s.cps.toList) e
  simp only [nm_cps, qqq_cps] at e'
  injection e' with _ e2
  generalize a % 2 * (1 + st % 2) = k at e2
  match k, e2 with
  | 0, e2 => rw [sfx_len.1] at e2; cases e2
  | 1, e2 => rw [sfx_len.2.1] at e2; simp at e2
  | _ + 2, e2 =>
    have e3 : (sfx 2).cps.toList = [113, 113] := e2
    rw [sfx_len.2.2] at e3; simp at e3
theorem qqq_len : qqq.length = 3 := by decide +kernel
theorem Crew.more {n : Nat} {rs : List Str} (h : Crew n rs) : Folk (n + 1) (rs ++ [qqq]) ∧ 2 ≤ (rs ++ [qqq]).length := by
  refine ⟨⟨?_, by simp, by simp; exact h.le, fun s hs => ?_⟩, by simp; exact h.pos⟩
  · rw [List.nodup_append]
    refine ⟨h.nd, by simp, fun a ha b hb e => ?_⟩
    rw [List.mem_singleton] at hb
    subst hb e
    obtain ⟨st, sp, x, _, _, e⟩ := h.nam _ ha
    exact qqq_nm e.symm
  · rcases List.mem_append.mp hs with hs | hs
    · exact h.names s hs
    · rw [List.mem_singleton] at hs
      subst hs
      refine ⟨by rw [qqq_len]; omega, by rw [qqq_len]; omega, fun c hc => ?_⟩
      rw [qqq_cps] at hc
      simp at hc
      omega
abbrev cT (ps : List (Str × Str)) : D := .tuple (ps.map prT)
abbrev Words (r : List Str) (ws : List (List (Str × Str))) : Prop := ∀ ps ∈ ws, CallOf r ps
theorem Words.perm {r r' : List Str} {ws : List (List (Str × Str))} (h : Words r ws) (p : r.Perm r') : Words r' ws := fun ps hp => (h ps hp).of_perm p
end DL
set_option maxRecDepth 100000
set_option maxHeartbeats 400000
namespace DL
open PySem L2
variable [HW]
local macro_rules | `(tactic| walk_at "dl") => `(tactic| simp (config := { dsimp := false }) only [↓fnM_e, ↓sSeq_e, seqK_nx, seqK_rt, seqK_bk, seqK_ct, retK_rt, retK_nx, ↓sFrz_e, frK_some, ↓sAsg, ↓sRet, ↓sRetN, ↓sIf, ↓sExpr, ↓sSkip, ↓sNever, ↓sPar, ↓sFor, ↓sSub, ↓fVar, ↓fC, ↓fNil, ↓fCons, ↓fA, ↓f1, ↓f2, ↓fB, ↓fIf, ↓fNeg, ↓fNot, ↓fAnd, ↓fOr, ↓bNot, ↓bAnd, ↓bOr, ↓bYes, ↓obnd_x, ob_some, ↓sbnd_x, sb_some, ↓ite_x, iteK_t, iteK_f, gN, gT, gC, gE, ↓rng1I, ↓rng2I, ↓seqI, ↓enumA, ↓zipI, ↓strI, ↓fLc, ↓fDc, ↓fM, ↓fSl, ↓oNone, ↓oSome, ↓fRev, wipeE, ↓kwM, permM, permL, List.foldr, List.length_cons, List.length_nil, List.map_cons, List.map_nil, List.cons_append, List.nil_append, List.replicate, List.replicate_succ, List.replicate_zero, List.getElem?_cons_zero, List.getElem?_cons_succ, List.set_cons_zero, List.set_cons_succ, if_true, if_false, reduceIte, Nat.reduceAdd, Nat.reduceSub, Nat.reduceEqDiff, Nat.reduceLT, Nat.reduceLeDiff, Int.reduceLT, Int.reduceLE, Int.reduceNeg, Int.reduceMul, Int.reduceAdd, Int.reduceSub, Int.reduceToNat, Int.reducePow, Int.reduceEq, ok, bok, deref, mkL, lstW, tupW, dats, Option.map_some, appendW, insertW, setL, isL, listW, tupleW, lenW, absW, intC, maxW, minW, idxW, addW, subW_e, modW_e, divW_e, powW_e, mulW, intW, lt_e, gt_e, le_e, ge_e, ltW, allW_e, anyW_e, sumW_e, lW, setW, lstAt, cutW, backW, isW, isiW, iLT_none, iLT_bool, iLT_int, iLT_str, iLT_list, iLT_tup, iL_none, iL_bool, iL_int, iL_str, iL_list, iL_tup, iT_none, iT_bool, iT_int, iT_str, iT_list, iT_tup, iS_none, iS_bool, iS_int, iS_str, iS_list, iS_tup, iI_none, iI_bool, iI_int, iI_str, iI_list, iI_tup, iB_none, iB_bool, iB_int, iB_str, iB_list, iB_tup, Bool.false_eq_true, reduceCtorEq, Bool.not_true, Bool.not_false, decide_true, decide_false, List.zip_cons_cons, List.zip_nil_left, List.foldl_cons, List.foldl_nil, and_self, and_true, true_and, Bool.and_true, Bool.true_and, Bool.or_true, Bool.true_or, *])
abbrev dW (ps : List (Str × Str)) : D := .dict (sdic (tld ps))
theorem eqW_strs {neg : Bool} {i j : Str} {h : Hh} : eqW neg (.dat (.str i)) (.dat (.str j)) h = bok (if neg = true then !decide (i = j) else decide (i = j)) h := by
  unfold eqW
  simp only [deref, eqS]
def cD (l : Bool) (ps : List (Str × Str)) : D := if l = true then .list (ps.map (prW true)) else .tuple (ps.map prT)
end DL
set_option maxRecDepth 100000
set_option maxHeartbeats 400000
namespace DL
open PySem L2
variable [HW]
local macro_rules | `(tactic| walk_at "dl") => `(tactic| simp (config := { dsimp := false }) only [↓fnM_e, ↓sSeq_e, seqK_nx, seqK_rt, seqK_bk, seqK_ct, retK_rt, retK_nx, ↓sFrz_e, frK_some, ↓sAsg, ↓sRet, ↓sRetN, ↓sIf, ↓sExpr, ↓sSkip, ↓sNever, ↓sPar, ↓sFor, ↓sSub, ↓fVar, ↓fC, ↓fNil, ↓fCons, ↓fA, ↓f1, ↓f2, ↓fB, ↓fIf, ↓fNeg, ↓fNot, ↓fAnd, ↓fOr, ↓bNot, ↓bAnd, ↓bOr, ↓bYes, ↓obnd_x, ob_some, ↓sbnd_x, sb_some, ↓ite_x, iteK_t, iteK_f, gN, gT, gC, gE, ↓rng1I, ↓rng2I, ↓seqI, ↓enumA, ↓zipI, ↓strI, ↓fLc, ↓fDc, ↓fM, ↓fSl, ↓oNone, ↓oSome, ↓fRev, wipeE, ↓kwM, permM, permL, List.foldr, List.length_cons, List.length_nil, List.map_cons, List.map_nil, List.cons_append, List.nil_append, List.replicate, List.replicate_succ, List.replicate_zero, List.getElem?_cons_zero, List.getElem?_cons_succ, List.set_cons_zero, List.set_cons_succ, if_true, if_false, reduceIte, Nat.reduceAdd, Nat.reduceSub, Nat.reduceEqDiff, Nat.reduceLT, Nat.reduceLeDiff, Int.reduceLT, Int.reduceLE, Int.reduceNeg, Int.reduceMul, Int.reduceAdd, Int.reduceSub, Int.reduceToNat, Int.reducePow, Int.reduceEq, ok, bok, deref, mkL, lstW, tupW, dats, Option.map_some, appendW, insertW, setL, isL, listW, tupleW, lenW, absW, intC, maxW, minW, idxW, addW, subW_e, modW_e, divW_e, powW_e, mulW, intW, lt_e, gt_e, le_e, ge_e, ltW, allW_e, anyW_e, sumW_e, lW, setW, lstAt, cutW, backW, isW, isiW, iLT_none, iLT_bool, iLT_int, iLT_str, iLT_list, iLT_tup, iL_none, iL_bool, iL_int, iL_str, iL_list, iL_tup, iT_none, iT_bool, iT_int, iT_str, iT_list, iT_tup, iS_none, iS_bool, iS_int, iS_str, iS_list, iS_tup, iI_none, iI_bool, iI_int, iI_str, iI_list, iI_tup, iB_none, iB_bool, iB_int, iB_str, iB_list, iB_tup, Bool.false_eq_true, reduceCtorEq, Bool.not_true, Bool.not_false, decide_true, decide_false, List.zip_cons_cons, List.zip_nil_left, List.foldl_cons, List.foldl_nil, and_self, and_true, true_and, Bool.and_true, Bool.true_and, Bool.or_true, Bool.true_or, *])
end DL
set_option maxRecDepth 100000
set_option maxHeartbeats 400000
namespace DL
open PySem L2
variable [HW]
local macro_rules | `(tactic| walk_at "dl") => `(tactic| simp (config := { dsimp := false }) only [↓fnM_e, ↓sSeq_e, seqK_nx, seqK_rt, seqK_bk, seqK_ct, retK_rt, retK_nx, ↓sFrz_e, frK_some, ↓sAsg, ↓sRet, ↓sRetN, ↓sIf, ↓sExpr, ↓sSkip, ↓sNever, ↓sPar, ↓sFor, ↓sSub, ↓fVar, ↓fC, ↓fNil, ↓fCons, ↓fA, ↓f1, ↓f2, ↓fB, ↓fIf, ↓fNeg, ↓fNot, ↓fAnd, ↓fOr, ↓bNot, ↓bAnd, ↓bOr, ↓bYes, ↓obnd_x, ob_some, ↓sbnd_x, sb_some, ↓ite_x, iteK_t, iteK_f, gN, gT, gC, gE, ↓rng1I, ↓rng2I, ↓seqI, ↓enumA, ↓zipI, ↓strI, ↓fLc, ↓fDc, ↓fM, ↓fSl, ↓oNone, ↓oSome, ↓fRev, wipeE, ↓kwM, permM, permL, List.foldr, List.length_cons, List.length_nil, List.map_cons, List.map_nil, List.cons_append, List.nil_append, List.replicate, List.replicate_succ, List.replicate_zero, List.getElem?_cons_zero, List.getElem?_cons_succ, List.set_cons_zero, List.set_cons_succ, if_true, if_false, reduceIte, Nat.reduceAdd, Nat.reduceSub, Nat.reduceEqDiff, Nat.reduceLT, Nat.reduceLeDiff, Int.reduceLT, Int.reduceLE, Int.reduceNeg, Int.reduceMul, Int.reduceAdd, Int.reduceSub, Int.reduceToNat, Int.reducePow, Int.reduceEq, ok, bok, deref, mkL, lstW, tupW, dats, Option.map_some, appendW, insertW, setL, isL, listW, tupleW, lenW, absW, intC, maxW, minW, idxW, addW, subW_e, modW_e, divW_e, powW_e, mulW, intW, lt_e, gt_e, le_e, ge_e, ltW, allW_e, anyW_e, sumW_e, lW, setW, lstAt, cutW, backW, isW, isiW, iLT_none, iLT_bool, iLT_int, iLT_str, iLT_list, iLT_tup, iL_none, iL_bool, iL_int, iL_str, iL_list, iL_tup, iT_none, iT_bool, iT_int, iT_str, iT_list, iT_tup, iS_none, iS_bool, iS_int, iS_str, iS_list, iS_tup, iI_none, iI_bool, iI_int, iI_str, iI_list, iI_tup, iB_none, iB_bool, iB_int, iB_str, iB_list, iB_tup, Bool.false_eq_true, reduceCtorEq, Bool.not_true, Bool.not_false, decide_true, decide_false, List.zip_cons_cons, List.zip_nil_left, List.foldl_cons, List.foldl_nil, and_self, and_true, true_and, Bool.and_true, Bool.true_and, Bool.or_true, Bool.true_or, *])
end DL
set_option maxRecDepth 100000
set_option maxHeartbeats 400000
namespace DL
open PySem L2
variable [HW]
local macro_rules | `(tactic| walk_at "dl") => `(tactic| simp (config := { dsimp := false }) only [↓fnM_e, ↓sSeq_e, seqK_nx, seqK_rt, seqK_bk, seqK_ct, retK_rt, retK_nx, ↓sFrz_e, frK_some, ↓sAsg, ↓sRet, ↓sRetN, ↓sIf, ↓sExpr, ↓sSkip, ↓sNever, ↓sPar, ↓sFor, ↓sSub, ↓fVar, ↓fC, ↓fNil, ↓fCons, ↓fA, ↓f1, ↓f2, ↓fB, ↓fIf, ↓fNeg, ↓fNot, ↓fAnd, ↓fOr, ↓bNot, ↓bAnd, ↓bOr, ↓bYes, ↓obnd_x, ob_some, ↓sbnd_x, sb_some, ↓ite_x, iteK_t, iteK_f, gN, gT, gC, gE, ↓rng1I, ↓rng2I, ↓seqI, ↓enumA, ↓zipI, ↓strI, ↓fLc, ↓fDc, ↓fM, ↓fSl, ↓oNone, ↓oSome, ↓fRev, wipeE, ↓kwM, permM, permL, List.foldr, List.length_cons, List.length_nil, List.map_cons, List.map_nil, List.cons_append, List.nil_append, List.replicate, List.replicate_succ, List.replicate_zero, List.getElem?_cons_zero, List.getElem?_cons_succ, List.set_cons_zero, List.set_cons_succ, if_true, if_false, reduceIte, Nat.reduceAdd, Nat.reduceSub, Nat.reduceEqDiff, Nat.reduceLT, Nat.reduceLeDiff, Int.reduceLT, Int.reduceLE, Int.reduceNeg, Int.reduceMul, Int.reduceAdd, Int.reduceSub, Int.reduceToNat, Int.reducePow, Int.reduceEq, ok, bok, deref, mkL, lstW, tupW, dats, Option.map_some, appendW, insertW, setL, isL, listW, tupleW, lenW, absW, intC, maxW, minW, idxW, addW, subW_e, modW_e, divW_e, powW_e, mulW, intW, lt_e, gt_e, le_e, ge_e, ltW, allW_e, anyW_e, sumW_e, lW, setW, lstAt, cutW, backW, isW, isiW, iLT_none, iLT_bool, iLT_int, iLT_str, iLT_list, iLT_tup, iL_none, iL_bool, iL_int, iL_str, iL_list, iL_tup, iT_none, iT_bool, iT_int, iT_str, iT_list, iT_tup, iS_none, iS_bool, iS_int, iS_str, iS_list, iS_tup, iI_none, iI_bool, iI_int, iI_str, iI_list, iI_tup, iB_none, iB_bool, iB_int, iB_str, iB_list, iB_tup, Bool.false_eq_true, reduceCtorEq, Bool.not_true, Bool.not_false, decide_true, decide_false, List.zip_cons_cons, List.zip_nil_left, List.foldl_cons, List.foldl_nil, and_self, and_true, true_and, Bool.and_true, Bool.true_and, Bool.or_true, Bool.true_or, *])
end DL
set_option maxRecDepth 100000
set_option maxHeartbeats 400000
namespace DL
open PySem L2
variable [HW]
local macro_rules | `(tactic| walk_at "dl") => `(tactic| simp (config := { dsimp := false }) only [↓fnM_e, ↓sSeq_e, seqK_nx, seqK_rt, seqK_bk, seqK_ct, retK_rt, retK_nx, ↓sFrz_e, frK_some, ↓sAsg, ↓sRet, ↓sRetN, ↓sIf, ↓sExpr, ↓sSkip, ↓sNever, ↓sPar, ↓sFor, ↓sSub, ↓fVar, ↓fC, ↓fNil, ↓fCons, ↓fA, ↓f1, ↓f2, ↓fB, ↓fIf, ↓fNeg, ↓fNot, ↓fAnd, ↓fOr, ↓bNot, ↓bAnd, ↓bOr, ↓bYes, ↓obnd_x, ob_some, ↓sbnd_x, sb_some, ↓ite_x, iteK_t, iteK_f, gN, gT, gC, gE, ↓rng1I, ↓rng2I, ↓seqI, ↓enumA, ↓zipI, ↓strI, ↓fLc, ↓fDc, ↓fM, ↓fSl, ↓oNone, ↓oSome, ↓fRev, wipeE, ↓kwM, permM, permL, List.foldr, List.length_cons, List.length_nil, List.map_cons, List.map_nil, List.cons_append, List.nil_append, List.replicate, List.replicate_succ, List.replicate_zero, List.getElem?_cons_zero, List.getElem?_cons_succ, List.set_cons_zero, List.set_cons_succ, if_true, if_false, reduceIte, Nat.reduceAdd, Nat.reduceSub, Nat.reduceEqDiff, Nat.reduceLT, Nat.reduceLeDiff, Int.reduceLT, Int.reduceLE, Int.reduceNeg, Int.reduceMul, Int.reduceAdd, Int.reduceSub, Int.reduceToNat, Int.reducePow, Int.reduceEq, ok, bok, deref, mkL, lstW, tupW, dats, Option.map_some, appendW, insertW, setL, isL, listW, tupleW, lenW, absW, intC, maxW, minW, idxW, addW, subW_e, modW_e, divW_e, powW_e, mulW, intW, lt_e, gt_e, le_e, ge_e, ltW, allW_e, anyW_e, sumW_e, lW, setW, lstAt, cutW, backW, isW, isiW, iLT_none, iLT_bool, iLT_int, iLT_str, iLT_list, iLT_tup, iL_none, iL_bool, iL_int, iL_str, iL_list, iL_tup, iT_none, iT_bool, iT_int, iT_str, iT_list, iT_tup, iS_none, iS_bool, iS_int, iS_str, iS_list, iS_tup, iI_none, iI_bool, iI_int, iI_str, iI_list, iI_tup, iB_none, iB_bool, iB_int, iB_str, iB_list, iB_tup, Bool.false_eq_true, reduceCtorEq, Bool.not_true, Bool.not_false, decide_true, decide_false, List.zip_cons_cons, List.zip_nil_left, List.foldl_cons, List.foldl_nil, and_self, and_true, true_and, Bool.and_true, Bool.true_and, Bool.or_true, Bool.true_or, *])
end DL
set_option maxRecDepth 100000
set_option maxHeartbeats 400000
namespace DL
open PySem L2
variable [HW]
structure OnlyP (b : Nat) (h g : Hh) : Prop where
  len : h.length ≤ g.length
  off : ∀ i : Nat, i < h.length → i ≠ b → g[i]? = h[i]?
theorem Only.p {b : Nat} {h g : Hh} (o : Only b h g) : OnlyP b h g := ⟨Nat.le_of_eq o.len.symm, fun i _ n => o.off i n⟩
theorem OnlyP.only {b : Nat} {h g g' : Hh} (o : OnlyP b h g) (o' : Only b g g') : OnlyP b h g' := ⟨by rw [o'.len]; exact o.len, fun i hi n => (o'.off i n).trans (o.off i hi n)⟩
theorem OnlyP.app {b : Nat} {h g l : Hh} (o : OnlyP b h g) : OnlyP b h (g ++ l) := ⟨by rw [List.length_append]; have := o.len; omega, fun i hi n => by
  rw [List.getElem?_append_left (by have := o.len; omega)]; exact o.off i hi n⟩
theorem leave_P {b c c' : Nat} {h g : Hh} {d : D} (x : BoxAt h b c) (y : BoxAt g b c') (o : OnlyP b h g) : ∃ h', leave false h (.dat d) g = some (.dat d, h') ∧ BoxAt h' b c' ∧ Only b h h' := by
  have lb := x.lt
  have y' := box_take y lb
  have on : Only b h (g.take h.length) := ⟨by rw [List.length_take]; have := o.len; omega, fun i n => by
    by_cases hi : i < h.length
    · rw [List.getElem?_take_of_lt hi]; exact o.off i hi n
    · rw [List.getElem?_eq_none (by rw [List.length_take]; omega), List.getElem?_eq_none (by omega)]⟩
  exact ⟨_, leave_dat (live_only x y' on), y', on⟩
theorem Folk.mono {n m : Nat} {rs : List Str} (h : Folk n rs) (k : n ≤ m) : Folk m rs := ⟨h.nd, h.pos, Nat.le_trans h.le k, h.nam⟩
end DL
set_option maxRecDepth 100000
set_option maxHeartbeats 400000
namespace DL
open PySem L2
variable [HW]
local macro_rules | `(tactic| walk_at "dl") => `(tactic| simp (config := { dsimp := false }) only [↓fnM_e, ↓sSeq_e, seqK_nx, seqK_rt, seqK_bk, seqK_ct, retK_rt, retK_nx, ↓sFrz_e, frK_some, ↓sAsg, ↓sRet, ↓sRetN, ↓sIf, ↓sExpr, ↓sSkip, ↓sNever, ↓sPar, ↓sFor, ↓sSub, ↓fVar, ↓fC, ↓fNil, ↓fCons, ↓fA, ↓f1, ↓f2, ↓fB, ↓fIf, ↓fNeg, ↓fNot, ↓fAnd, ↓fOr, ↓bNot, ↓bAnd, ↓bOr, ↓bYes, ↓obnd_x, ob_some, ↓sbnd_x, sb_some, ↓ite_x, iteK_t, iteK_f, gN, gT, gC, gE, ↓rng1I, ↓rng2I, ↓seqI, ↓enumA, ↓zipI, ↓strI, ↓fLc, ↓fDc, ↓fM, ↓fSl, ↓oNone, ↓oSome, ↓fRev, wipeE, ↓kwM, permM, permL, List.foldr, List.length_cons, List.length_nil, List.map_cons, List.map_nil, List.cons_append, List.nil_append, List.replicate, List.replicate_succ, List.replicate_zero, List.getElem?_cons_zero, List.getElem?_cons_succ, List.set_cons_zero, List.set_cons_succ, if_true, if_false, reduceIte, Nat.reduceAdd, Nat.reduceSub, Nat.reduceEqDiff, Nat.reduceLT, Nat.reduceLeDiff, Int.reduceLT, Int.reduceLE, Int.reduceNeg, Int.reduceMul, Int.reduceAdd, Int.reduceSub, Int.reduceToNat, Int.reducePow, Int.reduceEq, ok, bok, deref, mkL, lstW, tupW, dats, Option.map_some, appendW, insertW, setL, isL, listW, tupleW, lenW, absW, intC, maxW, minW, idxW, addW, subW_e, modW_e, divW_e, powW_e, mulW, intW, lt_e, gt_e, le_e, ge_e, ltW, allW_e, anyW_e, sumW_e, lW, setW, lstAt, cutW, backW, isW, isiW, iLT_none, iLT_bool, iLT_int, iLT_str, iLT_list, iLT_tup, iL_none, iL_bool, iL_int, iL_str, iL_list, iL_tup, iT_none, iT_bool, iT_int, iT_str, iT_list, iT_tup, iS_none, iS_bool, iS_int, iS_str, iS_list, iS_tup, iI_none, iI_bool, iI_int, iI_str, iI_list, iI_tup, iB_none, iB_bool, iB_int, iB_str, iB_list, iB_tup, Bool.false_eq_true, reduceCtorEq, Bool.not_true, Bool.not_false, decide_true, decide_false, List.zip_cons_cons, List.zip_nil_left, List.foldl_cons, List.foldl_nil, and_self, and_true, true_and, Bool.and_true, Bool.true_and, Bool.or_true, Bool.true_or, *])
theorem look_name_dict {ps : List (Str × Str)} {s t : Str} {h : Hh} (k : ps.lookup s = some t) : m_look_name [.dat (dW ps), .dat (.str s)] h = some (.dat .none, h) := by
  have e2 : getD (sdic (tld ps)) (.str s) = some (some (.str t)) := by rw [getD_sdic, look_tld, k]; rfl
  have e3 : inW true (.dat (.str s)) (.dat (dW ps)) h = some (.dat (.bool false), h) := by
    unfold inW
    simp only [deref, e2]
    rfl
  have lv := leave_same' (h := h) (d := .none)
  unfold m_look_name
  walk_at "dl"
theorem whom_ok {y : D} {l : Bool} {r : List Str} {ps : List (Str × Str)} {s : Str} {h : Hh} (hy : IsSeq y (ps.map (prW l))) (c : CallOf r ps) (nd : r.Nodup) (hr : r.length ≤ 1000) (hs : s ∈ r) : m_whom [.dat y, .dat (.str s)] h = some (.dat (.str (goal ps s)), h) := by
  obtain ⟨k, _⟩ := c.goal_mem hs
  have hl : ps.length = r.length := by have := c.perm.length_eq; rw [List.length_map] at this; exact this
  have e1 := by_names_ok (h := h) hy (c.nodup nd) (by omega)
  have e2 := look_name_dict (h := h) k
  have e3 : getD (sdic (tld ps)) (.str s) = some (some (.str (goal ps s))) := by rw [getD_sdic, look_tld, k]; rfl
  have lv := leave_same' (h := h) (d := .str (goal ps s))
  unfold m_whom
  clear hy c nd hr hs k hl
  walk_at "dl"
def grp (ps : List (Str × Str)) (t : Str) : List Str := (ps.filter fun p => decide (p.2 = t)).map (·.1)
def grpD (ps : List (Str × Str)) (t : Str) : D := .list ((grp ps t).map .str)
def gDic (hs : List Str) (ps : List (Str × Str)) : List (D × D) := sdic (hs.map fun t => (t, grpD ps t))
theorem look_map {F : Str → D} : ∀ (hs : List Str) (s : Str), (hs.map fun t => (t, F t)).lookup s = if s ∈ hs then some (F s) else none
  | [], s => rfl
  | t :: hs, s => by
    rw [List.map_cons, List.lookup_cons]
    by_cases h : s = t
    · subst h; simp
    · have h1 : (s == t) = false := by simpa using h
      rw [h1, look_map hs s]
      simp only [List.mem_cons, h, false_or]
theorem grp_snoc (ps : List (Str × Str)) (p : Str × Str) (t : Str) : grp (ps ++ [p]) t = if p.2 = t then grp ps t ++ [p.1] else grp ps t := by
  unfold grp
  rw [List.filter_append, List.map_append]
  by_cases h : p.2 = t
  · simp [h]
  · simp [h]
theorem grp_none {ps : List (Str × Str)} {t : Str} (h : ¬ ∃ p ∈ ps, p.2 = t) : grp ps t = [] := by
  unfold grp
  rw [List.map_eq_nil_iff, List.filter_eq_nil_iff]
  intro p hp z
  exact h ⟨p, hp, by simpa using z⟩
theorem put_old {hs : List Str} {ps : List (Str × Str)} {p : Str × Str} (hm : p.2 ∈ hs) : putK' (gDic hs ps) (.inr p.2) (.list ((grp ps p.2 ++ [p.1]).map .str)) = gDic hs (ps ++ [p]) := by
  unfold putK' gDic
  rw [getK_sdic, look_map, if_pos hm]
  unfold sdic
  simp only [Option.isSome_some, if_true]
  rw [List.map_map, List.map_map, List.map_map]
  apply List.map_congr_left
  intro t _
  show (if dKey (.str t) = some (Sum.inr p.2) then (PyData.str t, _) else (PyData.str t, grpD ps t)) = (PyData.str t, grpD (ps ++ [p]) t)
  unfold grpD
  rw [grp_snoc, dKey_str]
  by_cases h : t = p.2
  · subst h; simp
  · have h2 : ¬ p.2 = t := fun z => h z.symm
    have h1 : ¬ (some (Sum.inr t : Key) = some (Sum.inr p.2)) := fun z => h (by cases z; rfl)
    rw [if_neg h1, if_neg h2]
theorem put_new {hs : List Str} {ps : List (Str × Str)} {p : Str × Str} (hm : p.2 ∉ hs) (hg : grp ps p.2 = []) : putK' (gDic hs ps) (.inr p.2) (.list ((grp ps p.2 ++ [p.1]).map .str)) = gDic (hs ++ [p.2]) (ps ++ [p]) := by
  have e : (hs.map fun t => (t, grpD ps t)) = hs.map fun t => (t, grpD (ps ++ [p]) t) := by
    apply List.map_congr_left
    intro t ht
    have h2 : ¬ p.2 = t := fun z => hm (z ▸ ht)
    unfold grpD
    rw [grp_snoc, if_neg h2]
  have e3 : PyData.list ((grp ps p.2 ++ [p.1]).map .str) = grpD (ps ++ [p]) p.2 := by
    unfold grpD
    rw [grp_snoc, if_pos rfl]
  unfold gDic
  rw [e3, putK_sdic _ (by rw [look_map, if_neg hm]), e, List.map_append]
  rfl
theorem keyS_dic (F : Str → D) : ∀ hs : List Str, keyS (sdic (hs.map fun t => (t, F t))) = some hs
  | [] => rfl
  | t :: hs => by
    show (keyS (sdic (hs.map fun t => (t, F t)))).map (t :: ·) = _
    rw [keyS_dic F hs]; rfl
noncomputable def groupsIn : SM := sPut (f2 (addW false) (fGet (fVar 1) (fVar 3) (fA (lstW false) (fNil))) (fA (lstW false) (fCons (fVar 2) (fNil)))) (fVar 1) (fVar 3)
theorem groups_turn {x : W} {n : Nat} {a t : Str} {es es' : List (D × D)} {old : List D} {g : Hh} (hg : g[n]? = some (some (.dic es))) (e1 : (getD es (.str t)).map (fun o => o.getD (.list [])) = some (.list old)) (e2 : putK' es (.inr t) (.list (old ++ [.str a])) = es') (hl : es.length < sizeLine) (hl2 : old.length + 1 ≤ sizeLine) :
    groupsIn [some x, some (.ref n), some (.dat (.str a)), some (.dat (.str t))] g = some (.nx [some x, some (.ref n), some (.dat (.str a)), some (.dat (.str t))], g.set n (some (.dic es'))) := by
  have f1 : isDc (.ref n) g = true := by
    unfold isDc
    simp only [deref, hg]
  have f2 : getW (.ref n) (.dat (.str t)) (.dat (.list [])) g = some (.dat (.list old), g) := by
    unfold getW
    cases q : getD es (.str t) with
    | none => rw [q] at e1; cases e1
    | some o =>
      rw [q] at e1
      have e1' : o.getD (.list []) = .list old := by simpa using e1
      simp only [deref, hg, q, e1']
      rfl
  have f3 : putW (.ref n) (.dat (.str t)) (.dat (.list (old ++ [.str a]))) g = some (g.set n (some (.dic es'))) := by
    unfold putW dicAt
    simp only [hg, dKey_str, hl, if_true, e2]
  have c0 : 0 ≤ sizeLine := Nat.zero_le _
  have c1 : 1 ≤ sizeLine := by decide
  unfold groupsIn sPut fGet
  clear e1 e2 hl hg
  walk_at "dl"
end DL
set_option maxRecDepth 100000
set_option maxHeartbeats 400000
namespace DL
open PySem L2
variable [HW]
def told (r : List Str) (ps : List (Str × Str)) (t : Str) : List Str := r.filter fun s => decide (goal ps s = t)
theorem goal_of : ∀ {ps : List (Str × Str)}, (ps.map (·.1)).Nodup → ∀ p ∈ ps, goal ps p.1 = p.2
  | [], _, p, h => by cases h
  | (a, b) :: ps, nd, p, h => by
    rw [List.map_cons, List.nodup_cons] at nd
    unfold goal
    rw [List.lookup_cons]
    rcases List.mem_cons.mp h with rfl | h
    · simp
    · have ne : p.1 ≠ a := fun z => nd.1 (List.mem_map.mpr ⟨p, h, z⟩)
      rw [show (p.1 == a) = false by simpa using ne]
      exact goal_of nd.2 p h
end DL
set_option maxRecDepth 100000
set_option maxHeartbeats 400000
namespace DL
open PySem L2
variable [HW]
local macro_rules | `(tactic| walk_at "dl") => `(tactic| simp (config := { dsimp := false }) only [↓fnM_e, ↓sSeq_e, seqK_nx, seqK_rt, seqK_bk, seqK_ct, retK_rt, retK_nx, ↓sFrz_e, frK_some, ↓sAsg, ↓sRet, ↓sRetN, ↓sIf, ↓sExpr, ↓sSkip, ↓sNever, ↓sPar, ↓sFor, ↓sSub, ↓fVar, ↓fC, ↓fNil, ↓fCons, ↓fA, ↓f1, ↓f2, ↓fB, ↓fIf, ↓fNeg, ↓fNot, ↓fAnd, ↓fOr, ↓bNot, ↓bAnd, ↓bOr, ↓bYes, ↓obnd_x, ob_some, ↓sbnd_x, sb_some, ↓ite_x, iteK_t, iteK_f, gN, gT, gC, gE, ↓rng1I, ↓rng2I, ↓seqI, ↓enumA, ↓zipI, ↓strI, ↓fLc, ↓fDc, ↓fM, ↓fSl, ↓oNone, ↓oSome, ↓fRev, wipeE, ↓kwM, permM, permL, List.foldr, List.length_cons, List.length_nil, List.map_cons, List.map_nil, List.cons_append, List.nil_append, List.replicate, List.replicate_succ, List.replicate_zero, List.getElem?_cons_zero, List.getElem?_cons_succ, List.set_cons_zero, List.set_cons_succ, if_true, if_false, reduceIte, Nat.reduceAdd, Nat.reduceSub, Nat.reduceEqDiff, Nat.reduceLT, Nat.reduceLeDiff, Int.reduceLT, Int.reduceLE, Int.reduceNeg, Int.reduceMul, Int.reduceAdd, Int.reduceSub, Int.reduceToNat, Int.reducePow, Int.reduceEq, ok, bok, deref, mkL, lstW, tupW, dats, Option.map_some, appendW, insertW, setL, isL, listW, tupleW, lenW, absW, intC, maxW, minW, idxW, addW, subW_e, modW_e, divW_e, powW_e, mulW, intW, lt_e, gt_e, le_e, ge_e, ltW, allW_e, anyW_e, sumW_e, lW, setW, lstAt, cutW, backW, isW, isiW, iLT_none, iLT_bool, iLT_int, iLT_str, iLT_list, iLT_tup, iL_none, iL_bool, iL_int, iL_str, iL_list, iL_tup, iT_none, iT_bool, iT_int, iT_str, iT_list, iT_tup, iS_none, iS_bool, iS_int, iS_str, iS_list, iS_tup, iI_none, iI_bool, iI_int, iI_str, iI_list, iI_tup, iB_none, iB_bool, iB_int, iB_str, iB_list, iB_tup, Bool.false_eq_true, reduceCtorEq, Bool.not_true, Bool.not_false, decide_true, decide_false, List.zip_cons_cons, List.zip_nil_left, List.foldl_cons, List.foldl_nil, and_self, and_true, true_and, Bool.and_true, Bool.true_and, Bool.or_true, Bool.true_or, *])
abbrev six : Str := "abkmxz"
end DL
set_option maxRecDepth 100000
set_option maxHeartbeats 400000
namespace DL
open PySem L2
variable [HW]
local macro_rules | `(tactic| walk_at "dl") => `(tactic| simp (config := { dsimp := false }) only [↓fnM_e, ↓sSeq_e, seqK_nx, seqK_rt, seqK_bk, seqK_ct, retK_rt, retK_nx, ↓sFrz_e, frK_some, ↓sAsg, ↓sRet, ↓sRetN, ↓sIf, ↓sExpr, ↓sSkip, ↓sNever, ↓sPar, ↓sFor, ↓sSub, ↓fVar, ↓fC, ↓fNil, ↓fCons, ↓fA, ↓f1, ↓f2, ↓fB, ↓fIf, ↓fNeg, ↓fNot, ↓fAnd, ↓fOr, ↓bNot, ↓bAnd, ↓bOr, ↓bYes, ↓obnd_x, ob_some, ↓sbnd_x, sb_some, ↓ite_x, iteK_t, iteK_f, gN, gT, gC, gE, ↓rng1I, ↓rng2I, ↓seqI, ↓enumA, ↓zipI, ↓strI, ↓fLc, ↓fDc, ↓fM, ↓fSl, ↓oNone, ↓oSome, ↓fRev, wipeE, ↓kwM, permM, permL, List.foldr, List.length_cons, List.length_nil, List.map_cons, List.map_nil, List.cons_append, List.nil_append, List.replicate, List.replicate_succ, List.replicate_zero, List.getElem?_cons_zero, List.getElem?_cons_succ, List.set_cons_zero, List.set_cons_succ, if_true, if_false, reduceIte, Nat.reduceAdd, Nat.reduceSub, Nat.reduceEqDiff, Nat.reduceLT, Nat.reduceLeDiff, Int.reduceLT, Int.reduceLE, Int.reduceNeg, Int.reduceMul, Int.reduceAdd, Int.reduceSub, Int.reduceToNat, Int.reducePow, Int.reduceEq, ok, bok, deref, mkL, lstW, tupW, dats, Option.map_some, appendW, insertW, setL, isL, listW, tupleW, lenW, absW, intC, maxW, minW, idxW, addW, subW_e, modW_e, divW_e, powW_e, mulW, intW, lt_e, gt_e, le_e, ge_e, ltW, allW_e, anyW_e, sumW_e, lW, setW, lstAt, cutW, backW, isW, isiW, iLT_none, iLT_bool, iLT_int, iLT_str, iLT_list, iLT_tup, iL_none, iL_bool, iL_int, iL_str, iL_list, iL_tup, iT_none, iT_bool, iT_int, iT_str, iT_list, iT_tup, iS_none, iS_bool, iS_int, iS_str, iS_list, iS_tup, iI_none, iI_bool, iI_int, iI_str, iI_list, iI_tup, iB_none, iB_bool, iB_int, iB_str, iB_list, iB_tup, Bool.false_eq_true, reduceCtorEq, Bool.not_true, Bool.not_false, decide_true, decide_false, List.zip_cons_cons, List.zip_nil_left, List.foldl_cons, List.foldl_nil, and_self, and_true, true_and, Bool.and_true, Bool.true_and, Bool.or_true, Bool.true_or, *])
end DL
set_option maxRecDepth 100000
set_option maxHeartbeats 400000
namespace DL
open PySem L2
variable [HW]
local macro_rules | `(tactic| walk_at "dl") => `(tactic| simp (config := { dsimp := false }) only [↓fnM_e, ↓sSeq_e, seqK_nx, seqK_rt, seqK_bk, seqK_ct, retK_rt, retK_nx, ↓sFrz_e, frK_some, ↓sAsg, ↓sRet, ↓sRetN, ↓sIf, ↓sExpr, ↓sSkip, ↓sNever, ↓sPar, ↓sFor, ↓sSub, ↓fVar, ↓fC, ↓fNil, ↓fCons, ↓fA, ↓f1, ↓f2, ↓fB, ↓fIf, ↓fNeg, ↓fNot, ↓fAnd, ↓fOr, ↓bNot, ↓bAnd, ↓bOr, ↓bYes, ↓obnd_x, ob_some, ↓sbnd_x, sb_some, ↓ite_x, iteK_t, iteK_f, gN, gT, gC, gE, ↓rng1I, ↓rng2I, ↓seqI, ↓enumA, ↓zipI, ↓strI, ↓fLc, ↓fDc, ↓fM, ↓fSl, ↓oNone, ↓oSome, ↓fRev, wipeE, ↓kwM, permM, permL, List.foldr, List.length_cons, List.length_nil, List.map_cons, List.map_nil, List.cons_append, List.nil_append, List.replicate, List.replicate_succ, List.replicate_zero, List.getElem?_cons_zero, List.getElem?_cons_succ, List.set_cons_zero, List.set_cons_succ, if_true, if_false, reduceIte, Nat.reduceAdd, Nat.reduceSub, Nat.reduceEqDiff, Nat.reduceLT, Nat.reduceLeDiff, Int.reduceLT, Int.reduceLE, Int.reduceNeg, Int.reduceMul, Int.reduceAdd, Int.reduceSub, Int.reduceToNat, Int.reducePow, Int.reduceEq, ok, bok, deref, mkL, lstW, tupW, dats, Option.map_some, appendW, insertW, setL, isL, listW, tupleW, lenW, absW, intC, maxW, minW, idxW, addW, subW_e, modW_e, divW_e, powW_e, mulW, intW, lt_e, gt_e, le_e, ge_e, ltW, allW_e, anyW_e, sumW_e, lW, setW, lstAt, cutW, backW, isW, isiW, iLT_none, iLT_bool, iLT_int, iLT_str, iLT_list, iLT_tup, iL_none, iL_bool, iL_int, iL_str, iL_list, iL_tup, iT_none, iT_bool, iT_int, iT_str, iT_list, iT_tup, iS_none, iS_bool, iS_int, iS_str, iS_list, iS_tup, iI_none, iI_bool, iI_int, iI_str, iI_list, iI_tup, iB_none, iB_bool, iB_int, iB_str, iB_list, iB_tup, Bool.false_eq_true, reduceCtorEq, Bool.not_true, Bool.not_false, decide_true, decide_false, List.zip_cons_cons, List.zip_nil_left, List.foldl_cons, List.foldl_nil, and_self, and_true, true_and, Bool.and_true, Bool.true_and, Bool.or_true, Bool.true_or, *])
end DL
set_option maxRecDepth 100000
set_option maxHeartbeats 400000
namespace DL
open PySem L2
variable [HW]
local macro_rules | `(tactic| walk_at "dl") => `(tactic| simp (config := { dsimp := false }) only [↓fnM_e, ↓sSeq_e, seqK_nx, seqK_rt, seqK_bk, seqK_ct, retK_rt, retK_nx, ↓sFrz_e, frK_some, ↓sAsg, ↓sRet, ↓sRetN, ↓sIf, ↓sExpr, ↓sSkip, ↓sNever, ↓sPar, ↓sFor, ↓sSub, ↓fVar, ↓fC, ↓fNil, ↓fCons, ↓fA, ↓f1, ↓f2, ↓fB, ↓fIf, ↓fNeg, ↓fNot, ↓fAnd, ↓fOr, ↓bNot, ↓bAnd, ↓bOr, ↓bYes, ↓obnd_x, ob_some, ↓sbnd_x, sb_some, ↓ite_x, iteK_t, iteK_f, gN, gT, gC, gE, ↓rng1I, ↓rng2I, ↓seqI, ↓enumA, ↓zipI, ↓strI, ↓fLc, ↓fDc, ↓fM, ↓fSl, ↓oNone, ↓oSome, ↓fRev, wipeE, ↓kwM, permM, permL, List.foldr, List.length_cons, List.length_nil, List.map_cons, List.map_nil, List.cons_append, List.nil_append, List.replicate, List.replicate_succ, List.replicate_zero, List.getElem?_cons_zero, List.getElem?_cons_succ, List.set_cons_zero, List.set_cons_succ, if_true, if_false, reduceIte, Nat.reduceAdd, Nat.reduceSub, Nat.reduceEqDiff, Nat.reduceLT, Nat.reduceLeDiff, Int.reduceLT, Int.reduceLE, Int.reduceNeg, Int.reduceMul, Int.reduceAdd, Int.reduceSub, Int.reduceToNat, Int.reducePow, Int.reduceEq, ok, bok, deref, mkL, lstW, tupW, dats, Option.map_some, appendW, insertW, setL, isL, listW, tupleW, lenW, absW, intC, maxW, minW, idxW, addW, subW_e, modW_e, divW_e, powW_e, mulW, intW, lt_e, gt_e, le_e, ge_e, ltW, allW_e, anyW_e, sumW_e, lW, setW, lstAt, cutW, backW, isW, isiW, iLT_none, iLT_bool, iLT_int, iLT_str, iLT_list, iLT_tup, iL_none, iL_bool, iL_int, iL_str, iL_list, iL_tup, iT_none, iT_bool, iT_int, iT_str, iT_list, iT_tup, iS_none, iS_bool, iS_int, iS_str, iS_list, iS_tup, iI_none, iI_bool, iI_int, iI_str, iI_list, iI_tup, iB_none, iB_bool, iB_int, iB_str, iB_list, iB_tup, Bool.false_eq_true, reduceCtorEq, Bool.not_true, Bool.not_false, decide_true, decide_false, List.zip_cons_cons, List.zip_nil_left, List.foldl_cons, List.foldl_nil, and_self, and_true, true_and, Bool.and_true, Bool.true_and, Bool.or_true, Bool.true_or, *])
end DL
set_option maxRecDepth 100000
set_option maxHeartbeats 400000
namespace DL
open PySem L2
variable [HW]
local macro_rules | `(tactic| walk_at "dl") => `(tactic| simp (config := { dsimp := false }) only [↓fnM_e, ↓sSeq_e, seqK_nx, seqK_rt, seqK_bk, seqK_ct, retK_rt, retK_nx, ↓sFrz_e, frK_some, ↓sAsg, ↓sRet, ↓sRetN, ↓sIf, ↓sExpr, ↓sSkip, ↓sNever, ↓sPar, ↓sFor, ↓sSub, ↓fVar, ↓fC, ↓fNil, ↓fCons, ↓fA, ↓f1, ↓f2, ↓fB, ↓fIf, ↓fNeg, ↓fNot, ↓fAnd, ↓fOr, ↓bNot, ↓bAnd, ↓bOr, ↓bYes, ↓obnd_x, ob_some, ↓sbnd_x, sb_some, ↓ite_x, iteK_t, iteK_f, gN, gT, gC, gE, ↓rng1I, ↓rng2I, ↓seqI, ↓enumA, ↓zipI, ↓strI, ↓fLc, ↓fDc, ↓fM, ↓fSl, ↓oNone, ↓oSome, ↓fRev, wipeE, ↓kwM, permM, permL, List.foldr, List.length_cons, List.length_nil, List.map_cons, List.map_nil, List.cons_append, List.nil_append, List.replicate, List.replicate_succ, List.replicate_zero, List.getElem?_cons_zero, List.getElem?_cons_succ, List.set_cons_zero, List.set_cons_succ, if_true, if_false, reduceIte, Nat.reduceAdd, Nat.reduceSub, Nat.reduceEqDiff, Nat.reduceLT, Nat.reduceLeDiff, Int.reduceLT, Int.reduceLE, Int.reduceNeg, Int.reduceMul, Int.reduceAdd, Int.reduceSub, Int.reduceToNat, Int.reducePow, Int.reduceEq, ok, bok, deref, mkL, lstW, tupW, dats, Option.map_some, appendW, insertW, setL, isL, listW, tupleW, lenW, absW, intC, maxW, minW, idxW, addW, subW_e, modW_e, divW_e, powW_e, mulW, intW, lt_e, gt_e, le_e, ge_e, ltW, allW_e, anyW_e, sumW_e, lW, setW, lstAt, cutW, backW, isW, isiW, iLT_none, iLT_bool, iLT_int, iLT_str, iLT_list, iLT_tup, iL_none, iL_bool, iL_int, iL_str, iL_list, iL_tup, iT_none, iT_bool, iT_int, iT_str, iT_list, iT_tup, iS_none, iS_bool, iS_int, iS_str, iS_list, iS_tup, iI_none, iI_bool, iI_int, iI_str, iI_list, iI_tup, iB_none, iB_bool, iB_int, iB_str, iB_list, iB_tup, Bool.false_eq_true, reduceCtorEq, Bool.not_true, Bool.not_false, decide_true, decide_false, List.zip_cons_cons, List.zip_nil_left, List.foldl_cons, List.foldl_nil, and_self, and_true, true_and, Bool.and_true, Bool.true_and, Bool.or_true, Bool.true_or, *])
theorem perm_nodup : ∀ {l m : List Str}, l.Nodup → m.Nodup → (∀ k, k ∈ l ↔ k ∈ m) → l.Perm m
  | [], m, _, _, h => by
    have : m = [] := List.eq_nil_iff_forall_not_mem.mpr fun k hk => by have := (h k).mpr hk; cases this
    rw [this]
  | a :: l, m, n1, n2, h => by
    have ha : a ∈ m := (h a).mp List.mem_cons_self
    have pe := List.perm_cons_erase ha
    have n2' : (a :: m.erase a).Nodup := pe.nodup_iff.mp n2
    obtain ⟨a1, a2⟩ := List.nodup_cons.mp n1
    obtain ⟨b1, b2⟩ := List.nodup_cons.mp n2'
    refine (List.Perm.cons a (perm_nodup a2 b2 fun k => ?_)).trans pe.symm
    constructor
    · intro hk
      have ne : k ≠ a := fun z => by subst z; exact a1 hk
      exact (List.mem_erase_of_ne ne).mpr ((h k).mp (List.mem_cons_of_mem _ hk))
    · intro hk
      have ne : k ≠ a := fun z => by subst z; exact b1 hk
      rcases List.mem_cons.mp ((h k).mpr ((List.mem_erase_of_ne ne).mp hk)) with z | z
      · exact absurd z ne
      · exact z
end DL
set_option maxRecDepth 100000
set_option maxHeartbeats 400000
namespace DL
open PySem L2
variable [HW]
local macro_rules | `(tactic| walk_at "dl") => `(tactic| simp (config := { dsimp := false }) only [↓fnM_e, ↓sSeq_e, seqK_nx, seqK_rt, seqK_bk, seqK_ct, retK_rt, retK_nx, ↓sFrz_e, frK_some, ↓sAsg, ↓sRet, ↓sRetN, ↓sIf, ↓sExpr, ↓sSkip, ↓sNever, ↓sPar, ↓sFor, ↓sSub, ↓fVar, ↓fC, ↓fNil, ↓fCons, ↓fA, ↓f1, ↓f2, ↓fB, ↓fIf, ↓fNeg, ↓fNot, ↓fAnd, ↓fOr, ↓bNot, ↓bAnd, ↓bOr, ↓bYes, ↓obnd_x, ob_some, ↓sbnd_x, sb_some, ↓ite_x, iteK_t, iteK_f, gN, gT, gC, gE, ↓rng1I, ↓rng2I, ↓seqI, ↓enumA, ↓zipI, ↓strI, ↓fLc, ↓fDc, ↓fM, ↓fSl, ↓oNone, ↓oSome, ↓fRev, wipeE, ↓kwM, permM, permL, List.foldr, List.length_cons, List.length_nil, List.map_cons, List.map_nil, List.cons_append, List.nil_append, List.replicate, List.replicate_succ, List.replicate_zero, List.getElem?_cons_zero, List.getElem?_cons_succ, List.set_cons_zero, List.set_cons_succ, if_true, if_false, reduceIte, Nat.reduceAdd, Nat.reduceSub, Nat.reduceEqDiff, Nat.reduceLT, Nat.reduceLeDiff, Int.reduceLT, Int.reduceLE, Int.reduceNeg, Int.reduceMul, Int.reduceAdd, Int.reduceSub, Int.reduceToNat, Int.reducePow, Int.reduceEq, ok, bok, deref, mkL, lstW, tupW, dats, Option.map_some, appendW, insertW, setL, isL, listW, tupleW, lenW, absW, intC, maxW, minW, idxW, addW, subW_e, modW_e, divW_e, powW_e, mulW, intW, lt_e, gt_e, le_e, ge_e, ltW, allW_e, anyW_e, sumW_e, lW, setW, lstAt, cutW, backW, isW, isiW, iLT_none, iLT_bool, iLT_int, iLT_str, iLT_list, iLT_tup, iL_none, iL_bool, iL_int, iL_str, iL_list, iL_tup, iT_none, iT_bool, iT_int, iT_str, iT_list, iT_tup, iS_none, iS_bool, iS_int, iS_str, iS_list, iS_tup, iI_none, iI_bool, iI_int, iI_str, iI_list, iI_tup, iB_none, iB_bool, iB_int, iB_str, iB_list, iB_tup, Bool.false_eq_true, reduceCtorEq, Bool.not_true, Bool.not_false, decide_true, decide_false, List.zip_cons_cons, List.zip_nil_left, List.foldl_cons, List.foldl_nil, and_self, and_true, true_and, Bool.and_true, Bool.true_and, Bool.or_true, Bool.true_or, *])
end DL
set_option maxRecDepth 100000
set_option maxHeartbeats 400000
namespace DL
open PySem L2
variable [HW]
local macro_rules | `(tactic| walk_at "dl") => `(tactic| simp (config := { dsimp := false }) only [↓fnM_e, ↓sSeq_e, seqK_nx, seqK_rt, seqK_bk, seqK_ct, retK_rt, retK_nx, ↓sFrz_e, frK_some, ↓sAsg, ↓sRet, ↓sRetN, ↓sIf, ↓sExpr, ↓sSkip, ↓sNever, ↓sPar, ↓sFor, ↓sSub, ↓fVar, ↓fC, ↓fNil, ↓fCons, ↓fA, ↓f1, ↓f2, ↓fB, ↓fIf, ↓fNeg, ↓fNot, ↓fAnd, ↓fOr, ↓bNot, ↓bAnd, ↓bOr, ↓bYes, ↓obnd_x, ob_some, ↓sbnd_x, sb_some, ↓ite_x, iteK_t, iteK_f, gN, gT, gC, gE, ↓rng1I, ↓rng2I, ↓seqI, ↓enumA, ↓zipI, ↓strI, ↓fLc, ↓fDc, ↓fM, ↓fSl, ↓oNone, ↓oSome, ↓fRev, wipeE, ↓kwM, permM, permL, List.foldr, List.length_cons, List.length_nil, List.map_cons, List.map_nil, List.cons_append, List.nil_append, List.replicate, List.replicate_succ, List.replicate_zero, List.getElem?_cons_zero, List.getElem?_cons_succ, List.set_cons_zero, List.set_cons_succ, if_true, if_false, reduceIte, Nat.reduceAdd, Nat.reduceSub, Nat.reduceEqDiff, Nat.reduceLT, Nat.reduceLeDiff, Int.reduceLT, Int.reduceLE, Int.reduceNeg, Int.reduceMul, Int.reduceAdd, Int.reduceSub, Int.reduceToNat, Int.reducePow, Int.reduceEq, ok, bok, deref, mkL, lstW, tupW, dats, Option.map_some, appendW, insertW, setL, isL, listW, tupleW, lenW, absW, intC, maxW, minW, idxW, addW, subW_e, modW_e, divW_e, powW_e, mulW, intW, lt_e, gt_e, le_e, ge_e, ltW, allW_e, anyW_e, sumW_e, lW, setW, lstAt, cutW, backW, isW, isiW, iLT_none, iLT_bool, iLT_int, iLT_str, iLT_list, iLT_tup, iL_none, iL_bool, iL_int, iL_str, iL_list, iL_tup, iT_none, iT_bool, iT_int, iT_str, iT_list, iT_tup, iS_none, iS_bool, iS_int, iS_str, iS_list, iS_tup, iI_none, iI_bool, iI_int, iI_str, iI_list, iI_tup, iB_none, iB_bool, iB_int, iB_str, iB_list, iB_tup, Bool.false_eq_true, reduceCtorEq, Bool.not_true, Bool.not_false, decide_true, decide_false, List.zip_cons_cons, List.zip_nil_left, List.foldl_cons, List.foldl_nil, and_self, and_true, true_and, Bool.and_true, Bool.true_and, Bool.or_true, Bool.true_or, *])
end DL
set_option maxRecDepth 100000
set_option maxHeartbeats 400000
namespace DL
open PySem L2
variable [HW]
local macro_rules | `(tactic| walk_at "dl") => `(tactic| simp (config := { dsimp := false }) only [↓fnM_e, ↓sSeq_e, seqK_nx, seqK_rt, seqK_bk, seqK_ct, retK_rt, retK_nx, ↓sFrz_e, frK_some, ↓sAsg, ↓sRet, ↓sRetN, ↓sIf, ↓sExpr, ↓sSkip, ↓sNever, ↓sPar, ↓sFor, ↓sSub, ↓fVar, ↓fC, ↓fNil, ↓fCons, ↓fA, ↓f1, ↓f2, ↓fB, ↓fIf, ↓fNeg, ↓fNot, ↓fAnd, ↓fOr, ↓bNot, ↓bAnd, ↓bOr, ↓bYes, ↓obnd_x, ob_some, ↓sbnd_x, sb_some, ↓ite_x, iteK_t, iteK_f, gN, gT, gC, gE, ↓rng1I, ↓rng2I, ↓seqI, ↓enumA, ↓zipI, ↓strI, ↓fLc, ↓fDc, ↓fM, ↓fSl, ↓oNone, ↓oSome, ↓fRev, wipeE, ↓kwM, permM, permL, List.foldr, List.length_cons, List.length_nil, List.map_cons, List.map_nil, List.cons_append, List.nil_append, List.replicate, List.replicate_succ, List.replicate_zero, List.getElem?_cons_zero, List.getElem?_cons_succ, List.set_cons_zero, List.set_cons_succ, if_true, if_false, reduceIte, Nat.reduceAdd, Nat.reduceSub, Nat.reduceEqDiff, Nat.reduceLT, Nat.reduceLeDiff, Int.reduceLT, Int.reduceLE, Int.reduceNeg, Int.reduceMul, Int.reduceAdd, Int.reduceSub, Int.reduceToNat, Int.reducePow, Int.reduceEq, ok, bok, deref, mkL, lstW, tupW, dats, Option.map_some, appendW, insertW, setL, isL, listW, tupleW, lenW, absW, intC, maxW, minW, idxW, addW, subW_e, modW_e, divW_e, powW_e, mulW, intW, lt_e, gt_e, le_e, ge_e, ltW, allW_e, anyW_e, sumW_e, lW, setW, lstAt, cutW, backW, isW, isiW, iLT_none, iLT_bool, iLT_int, iLT_str, iLT_list, iLT_tup, iL_none, iL_bool, iL_int, iL_str, iL_list, iL_tup, iT_none, iT_bool, iT_int, iT_str, iT_list, iT_tup, iS_none, iS_bool, iS_int, iS_str, iS_list, iS_tup, iI_none, iI_bool, iI_int, iI_str, iI_list, iI_tup, iB_none, iB_bool, iB_int, iB_str, iB_list, iB_tup, Bool.false_eq_true, reduceCtorEq, Bool.not_true, Bool.not_false, decide_true, decide_false, List.zip_cons_cons, List.zip_nil_left, List.foldl_cons, List.foldl_nil, and_self, and_true, true_and, Bool.and_true, Bool.true_and, Bool.or_true, Bool.true_or, *])
end DL
set_option maxRecDepth 100000
set_option maxHeartbeats 400000
namespace DL
open PySem L2
variable [HW]
local macro_rules | `(tactic| walk_at "dl") => `(tactic| simp (config := { dsimp := false }) only [↓fnM_e, ↓sSeq_e, seqK_nx, seqK_rt, seqK_bk, seqK_ct, retK_rt, retK_nx, ↓sFrz_e, frK_some, ↓sAsg, ↓sRet, ↓sRetN, ↓sIf, ↓sExpr, ↓sSkip, ↓sNever, ↓sPar, ↓sFor, ↓sSub, ↓fVar, ↓fC, ↓fNil, ↓fCons, ↓fA, ↓f1, ↓f2, ↓fB, ↓fIf, ↓fNeg, ↓fNot, ↓fAnd, ↓fOr, ↓bNot, ↓bAnd, ↓bOr, ↓bYes, ↓obnd_x, ob_some, ↓sbnd_x, sb_some, ↓ite_x, iteK_t, iteK_f, gN, gT, gC, gE, ↓rng1I, ↓rng2I, ↓seqI, ↓enumA, ↓zipI, ↓strI, ↓fLc, ↓fDc, ↓fM, ↓fSl, ↓oNone, ↓oSome, ↓fRev, wipeE, ↓kwM, permM, permL, List.foldr, List.length_cons, List.length_nil, List.map_cons, List.map_nil, List.cons_append, List.nil_append, List.replicate, List.replicate_succ, List.replicate_zero, List.getElem?_cons_zero, List.getElem?_cons_succ, List.set_cons_zero, List.set_cons_succ, if_true, if_false, reduceIte, Nat.reduceAdd, Nat.reduceSub, Nat.reduceEqDiff, Nat.reduceLT, Nat.reduceLeDiff, Int.reduceLT, Int.reduceLE, Int.reduceNeg, Int.reduceMul, Int.reduceAdd, Int.reduceSub, Int.reduceToNat, Int.reducePow, Int.reduceEq, ok, bok, deref, mkL, lstW, tupW, dats, Option.map_some, appendW, insertW, setL, isL, listW, tupleW, lenW, absW, intC, maxW, minW, idxW, addW, subW_e, modW_e, divW_e, powW_e, mulW, intW, lt_e, gt_e, le_e, ge_e, ltW, allW_e, anyW_e, sumW_e, lW, setW, lstAt, cutW, backW, isW, isiW, iLT_none, iLT_bool, iLT_int, iLT_str, iLT_list, iLT_tup, iL_none, iL_bool, iL_int, iL_str, iL_list, iL_tup, iT_none, iT_bool, iT_int, iT_str, iT_list, iT_tup, iS_none, iS_bool, iS_int, iS_str, iS_list, iS_tup, iI_none, iI_bool, iI_int, iI_str, iI_list, iI_tup, iB_none, iB_bool, iB_int, iB_str, iB_list, iB_tup, Bool.false_eq_true, reduceCtorEq, Bool.not_true, Bool.not_false, decide_true, decide_false, List.zip_cons_cons, List.zip_nil_left, List.foldl_cons, List.foldl_nil, and_self, and_true, true_and, Bool.and_true, Bool.true_and, Bool.or_true, Bool.true_or, *])
theorem keyS_tld : ∀ tl : List (Str × Str), keyS (sdic (tld tl)) = some (tl.map (·.1))
  | [] => rfl
  | p :: tl => by
    show (keyS (sdic (tld tl))).map (p.1 :: ·) = _
    rw [keyS_tld tl]; rfl
theorem valS_tld : ∀ tl : List (Str × Str), valS (sdic (tld tl)) = some (tl.map (·.2))
  | [] => rfl
  | p :: tl => by
    show (valS (sdic (tld tl))).map (p.2 :: ·) = _
    rw [valS_tld tl]; rfl
def ofL (l : List Str) (tl : List (Str × Str)) : List (Str × Str) := l.map fun s => (s, goal tl s)
theorem looks_ok {x : D} {l : List Str} {v1 v2 v3 : Option W} {h : Hh} (hx : IsSeq x (l.map .str)) : ∀ (ns : List Str), (∀ s ∈ ns, s ∈ l) → ∃ w2 : Option W, forL (gN 2) (sExpr (fA (m_look_name) (fCons (fVar 0) (fCons (fVar 2) (fNil))))) (ns.map .str) [some (.dat x), v1, v2, v3] h = some (.nx [some (.dat x), v1, w2, v3], h) := fun ns hn => by
  obtain ⟨ρ', h', e, rfl, w2, rfl⟩ := forL_end (k := gN 2) (body := sExpr (fA (m_look_name) (fCons (fVar 0) (fCons (fVar 2) (fNil))))) (fun _ ρ g => g = h ∧ ∃ w2 : Option W, ρ = [some (.dat x), v1, w2, v3]) (ds := ns.map .str) (ρ := [some (.dat x), v1, v2, v3]) (h := h) ⟨rfl, v2, rfl⟩ (by
    intro j d ej ρ g hi
    obtain ⟨rfl, w2, rfl⟩ := hi
    rw [List.getElem?_map] at ej
    obtain ⟨s, es, rfl⟩ := Option.map_eq_some_iff.mp ej
    have e := look_name_ok (h := g) hx (hn s (List.mem_of_getElem? es))
    refine ⟨_, [some (.dat x), v1, some (.dat (.str s)), v3], g, rfl, ?_, rfl, _, rfl⟩
    clear hx hn ej es
    walk_at "dl")
  exact ⟨w2, e⟩
theorem call_of_ok {x : D} {l : List Str} {tl : List (Str × Str)} {h : Hh} (hx : IsSeq x (l.map .str)) (ht : Txts l) (hl : l.length ≤ 1000) (h1 : ∀ p ∈ tl, p.1 ∈ l ∧ p.2 ∈ l) (h2 : tl.length < 64) : m_call_of [.dat x, .dat (dW tl)] h = some (.dat (cT (ofL (sortS l) tl)), h) := by
  have hz : sizeLine = 16777216 := rfl
  have e1 : sortDW false [.dat (dW tl)] h = some (.dat (.list (((tl.map (·.1)).mergeSort leT).map .str)), h) := by
    have l1 : (tl.map (·.1)).length < 64 := by rw [List.length_map]; exact h2
    unfold sortDW
    simp only [deref, isT_sdic, Bool.false_eq_true, if_false, keyS_tld, l1, if_true]
    rfl
  have e2 : sortVW false (.dat (dW tl)) h = some (.dat (.list (((tl.map (·.2)).mergeSort leT).map .str)), h) := by
    unfold sortVW
    simp only [deref, isT_sdic, Bool.false_eq_true, if_false, valS_tld]
    rfl
  obtain ⟨w2, e3⟩ := looks_ok (v1 := some (.dat (dW tl))) (v2 := none) (v3 := none) (h := h) hx ((tl.map (·.1)).mergeSort leT) fun s hs => by
    obtain ⟨p, hp, rfl⟩ := List.mem_map.mp ((List.mergeSort_perm _ _).mem_iff.mp hs)
    exact (h1 p hp).1
  obtain ⟨w2', e4⟩ := looks_ok (v1 := some (.dat (dW tl))) (v2 := w2) (v3 := none) (h := h) hx ((tl.map (·.2)).mergeSort leT) fun s hs => by
    obtain ⟨p, hp, rfl⟩ := List.mem_map.mp ((List.mergeSort_perm _ _).mem_iff.mp hs)
    exact (h1 p hp).2
  have e5 := sortW_strs (h := h) hx ht
  have sl : (sortS l).length = l.length := (sortS_perm l).length_eq
  have e6 : lcL (gN 3) bYes (fA tupW (fCons (fVar 3) (fCons (fGet (fVar 1) (fVar 3) (fVar 3)) (fNil)))) [some (.dat x), some (.dat (dW tl)), w2', none] ((sortS l).map .str) h = some ((ofL (sortS l) tl).map prT, h) := by
    rw [lcL_all (fun d => prT (unS d, goal tl (unS d)))]
    · unfold ofL
      rw [List.map_map, List.map_map]; rfl
    · intro d hd
      obtain ⟨s, hs, rfl⟩ := List.mem_map.mp hd
      have f1 : isDc (.dat (dW tl)) h = true := rfl
      have f2 : getW (.dat (dW tl)) (.dat (.str s)) (.dat (.str s)) h = some (.dat (.str (goal tl s)), h) := by
        have q : getD (sdic (tld tl)) (.str s) = some ((tl.lookup s).map .str) := by rw [getD_sdic, look_tld]
        unfold getW
        simp only [deref, q]
        unfold goal
        cases tl.lookup s with
        | none => rfl
        | some t => rfl
      have c2 : 2 ≤ sizeLine := by omega
      refine ⟨[some (.dat x), some (.dat (dW tl)), w2', some (.dat (.str s))], rfl, rfl, ?_⟩
      unfold fGet
      clear hx ht hl h1 h2 hz e1 e2 e3 e4 e5 sl hd hs
      walk_at "dl"
      rfl
  have l1 : ((ofL (sortS l) tl).map prT).length ≤ sizeLine := by unfold ofL; rw [List.length_map, List.length_map]; omega
  have lv := leave_same' (h := h) (d := cT (ofL (sortS l) tl))
  have e2' : ∀ ρ : Env, fVar 1 ρ h = some (.dat (dW tl), h) → fSortV false (fVar 1) ρ h = some (.dat (.list (((tl.map (·.2)).mergeSort leT).map .str)), h) := fun ρ q => by
    unfold fSortV
    rw [q]
    exact e2
  have e7 := e2' [some (.dat x), some (.dat (dW tl)), w2, none] rfl
  unfold m_call_of
  clear hx ht hl h1 h2 hz sl e2 e2'
  walk_at "dl"
theorem going_ok {x : D} {l : List Str} {a t : Str} {h : Hh} (hx : IsSeq x (l.map .str)) (ht : Txts l) (hl : l.length ≤ 1000) (ha : a ∈ l) (hb : t ∈ l) : m_going [.dat x, .dat (.str a), .dat (.str t)] h = some (.dat (cT (ofL (sortS l) [(a, t)])), h) := by
  have e1 := look_name_ok (h := h) hx ha
  have e2 := call_of_ok (h := h) (tl := [(a, t)]) hx ht hl (fun p hp => by rw [List.mem_singleton] at hp; subst hp; exact ⟨ha, hb⟩) (by simp)
  have e3 : fDv false [(1, 2)] [some (.dat x), some (.dat (.str a)), some (.dat (.str t))] h = some (.dat (dW [(a, t)]), h) := rfl
  have lv := leave_same' (h := h) (d := cT (ofL (sortS l) [(a, t)]))
  unfold m_going
  clear hx ht hl ha hb
  walk_at "dl"
end DL
set_option maxRecDepth 100000
set_option maxHeartbeats 400000
namespace DL
open PySem L2
variable [HW]
theorem goal_one (a t s : Str) : goal [(a, t)] s = if s = a then t else s := by
  unfold goal
  rw [List.lookup_cons]
  by_cases z : s = a
  · subst z; simp
  · rw [show (s == a) = false by simpa using z, if_neg z]
    rfl
end DL
set_option maxRecDepth 100000
set_option maxHeartbeats 400000
namespace DL
open PySem L2
variable [HW]
end DL
set_option maxRecDepth 100000
set_option maxHeartbeats 400000
namespace DL
open PySem L2
variable [HW]
theorem hs_eq {hs ks : List Str} (n1 : hs.Nodup) (p1 : hs.Pairwise fun a b => leT a b = true) (n2 : ks.Nodup) (p2 : ks.Pairwise fun a b => leT a b = true) (h : ∀ t, t ∈ hs ↔ t ∈ ks) : hs = ks :=
  List.Perm.eq_of_pairwise (fun x y _ _ h1 h2 => leT_anti h1 h2) p1 p2 (perm_nodup n1 n2 h)
end DL
set_option maxRecDepth 100000
set_option maxHeartbeats 400000
namespace DL
open PySem L2
variable [HW]
local macro_rules | `(tactic| walk_at "dl") => `(tactic| simp (config := { dsimp := false }) only [↓fnM_e, ↓sSeq_e, seqK_nx, seqK_rt, seqK_bk, seqK_ct, retK_rt, retK_nx, ↓sFrz_e, frK_some, ↓sAsg, ↓sRet, ↓sRetN, ↓sIf, ↓sExpr, ↓sSkip, ↓sNever, ↓sPar, ↓sFor, ↓sSub, ↓fVar, ↓fC, ↓fNil, ↓fCons, ↓fA, ↓f1, ↓f2, ↓fB, ↓fIf, ↓fNeg, ↓fNot, ↓fAnd, ↓fOr, ↓bNot, ↓bAnd, ↓bOr, ↓bYes, ↓obnd_x, ob_some, ↓sbnd_x, sb_some, ↓ite_x, iteK_t, iteK_f, gN, gT, gC, gE, ↓rng1I, ↓rng2I, ↓seqI, ↓enumA, ↓zipI, ↓strI, ↓fLc, ↓fDc, ↓fM, ↓fSl, ↓oNone, ↓oSome, ↓fRev, wipeE, ↓kwM, permM, permL, List.foldr, List.length_cons, List.length_nil, List.map_cons, List.map_nil, List.cons_append, List.nil_append, List.replicate, List.replicate_succ, List.replicate_zero, List.getElem?_cons_zero, List.getElem?_cons_succ, List.set_cons_zero, List.set_cons_succ, if_true, if_false, reduceIte, Nat.reduceAdd, Nat.reduceSub, Nat.reduceEqDiff, Nat.reduceLT, Nat.reduceLeDiff, Int.reduceLT, Int.reduceLE, Int.reduceNeg, Int.reduceMul, Int.reduceAdd, Int.reduceSub, Int.reduceToNat, Int.reducePow, Int.reduceEq, ok, bok, deref, mkL, lstW, tupW, dats, Option.map_some, appendW, insertW, setL, isL, listW, tupleW, lenW, absW, intC, maxW, minW, idxW, addW, subW_e, modW_e, divW_e, powW_e, mulW, intW, lt_e, gt_e, le_e, ge_e, ltW, allW_e, anyW_e, sumW_e, lW, setW, lstAt, cutW, backW, isW, isiW, iLT_none, iLT_bool, iLT_int, iLT_str, iLT_list, iLT_tup, iL_none, iL_bool, iL_int, iL_str, iL_list, iL_tup, iT_none, iT_bool, iT_int, iT_str, iT_list, iT_tup, iS_none, iS_bool, iS_int, iS_str, iS_list, iS_tup, iI_none, iI_bool, iI_int, iI_str, iI_list, iI_tup, iB_none, iB_bool, iB_int, iB_str, iB_list, iB_tup, Bool.false_eq_true, reduceCtorEq, Bool.not_true, Bool.not_false, decide_true, decide_false, List.zip_cons_cons, List.zip_nil_left, List.foldl_cons, List.foldl_nil, and_self, and_true, true_and, Bool.and_true, Bool.true_and, Bool.or_true, Bool.true_or, *])
def insR (acc : List Str) (y : Str) : List Str := if y ∈ acc then acc else acc ++ [y]
def uR (l : List Str) : List Str := l.foldl insR []
end DL
set_option maxRecDepth 100000
set_option maxHeartbeats 400000
namespace DL
open PySem L2
variable [HW]
theorem lcL_list {α : Type} {k : TM} {f : EM} {ρ : Env} {h : Hh} (em : α → D) (g : α → D) : ∀ {xs : List α}, (∀ x ∈ xs, ∃ ρ1, k (.dat (em x)) ρ h = some ρ1 ∧ f ρ1 h = some (.dat (g x), h)) → lcL k bYes f ρ (xs.map em) h = some (xs.map g, h)
  | [], _ => rfl
  | x :: xs, H => by
    obtain ⟨ρ1, e1, e2⟩ := H x List.mem_cons_self
    rw [List.map_cons, List.map_cons, lcL]
    simp only [e1, bYes, obnd, if_true, e2]
    rw [lcL_list em g fun y hy => H y (List.mem_cons_of_mem _ hy)]
end DL
set_option maxRecDepth 100000
set_option maxHeartbeats 400000
namespace DL
open PySem L2
variable [HW]
local macro_rules | `(tactic| walk_at "dl") => `(tactic| simp (config := { dsimp := false }) only [↓fnM_e, ↓sSeq_e, seqK_nx, seqK_rt, seqK_bk, seqK_ct, retK_rt, retK_nx, ↓sFrz_e, frK_some, ↓sAsg, ↓sRet, ↓sRetN, ↓sIf, ↓sExpr, ↓sSkip, ↓sNever, ↓sPar, ↓sFor, ↓sSub, ↓fVar, ↓fC, ↓fNil, ↓fCons, ↓fA, ↓f1, ↓f2, ↓fB, ↓fIf, ↓fNeg, ↓fNot, ↓fAnd, ↓fOr, ↓bNot, ↓bAnd, ↓bOr, ↓bYes, ↓obnd_x, ob_some, ↓sbnd_x, sb_some, ↓ite_x, iteK_t, iteK_f, gN, gT, gC, gE, ↓rng1I, ↓rng2I, ↓seqI, ↓enumA, ↓zipI, ↓strI, ↓fLc, ↓fDc, ↓fM, ↓fSl, ↓oNone, ↓oSome, ↓fRev, wipeE, ↓kwM, permM, permL, List.foldr, List.length_cons, List.length_nil, List.map_cons, List.map_nil, List.cons_append, List.nil_append, List.replicate, List.replicate_succ, List.replicate_zero, List.getElem?_cons_zero, List.getElem?_cons_succ, List.set_cons_zero, List.set_cons_succ, if_true, if_false, reduceIte, Nat.reduceAdd, Nat.reduceSub, Nat.reduceEqDiff, Nat.reduceLT, Nat.reduceLeDiff, Int.reduceLT, Int.reduceLE, Int.reduceNeg, Int.reduceMul, Int.reduceAdd, Int.reduceSub, Int.reduceToNat, Int.reducePow, Int.reduceEq, ok, bok, deref, mkL, lstW, tupW, dats, Option.map_some, appendW, insertW, setL, isL, listW, tupleW, lenW, absW, intC, maxW, minW, idxW, addW, subW_e, modW_e, divW_e, powW_e, mulW, intW, lt_e, gt_e, le_e, ge_e, ltW, allW_e, anyW_e, sumW_e, lW, setW, lstAt, cutW, backW, isW, isiW, iLT_none, iLT_bool, iLT_int, iLT_str, iLT_list, iLT_tup, iL_none, iL_bool, iL_int, iL_str, iL_list, iL_tup, iT_none, iT_bool, iT_int, iT_str, iT_list, iT_tup, iS_none, iS_bool, iS_int, iS_str, iS_list, iS_tup, iI_none, iI_bool, iI_int, iI_str, iI_list, iI_tup, iB_none, iB_bool, iB_int, iB_str, iB_list, iB_tup, Bool.false_eq_true, reduceCtorEq, Bool.not_true, Bool.not_false, decide_true, decide_false, List.zip_cons_cons, List.zip_nil_left, List.foldl_cons, List.foldl_nil, and_self, and_true, true_and, Bool.and_true, Bool.true_and, Bool.or_true, Bool.true_or, *])
def OkA (h : Hh) : Prop := h.all okM = true
theorem OkA.nil : OkA [] := rfl
theorem OkA.app {h : Hh} {o : Option MO} (x : OkA h) (y : okM o = true) : OkA (h ++ [o]) := by
  unfold OkA at *
  rw [List.all_append, x]
  simp [y]
theorem okM_ints (a b c : Int) : okM (some (.lst [.int a, .int b, .int c])) = true := by simp [okM, noLs, noL]
theorem OkA.only {h h' : Hh} {b c : Nat} (x : OkA h) (o : Only b h h') (bx : BoxAt h' b c) : OkA h' := by
  unfold OkA at *
  rw [List.all_eq_true] at *
  intro z hz
  obtain ⟨i, hi, e⟩ := List.getElem_of_mem hz
  have e' : h'[i]? = some z := by rw [List.getElem?_eq_getElem hi, e]
  by_cases hb : i = b
  · subst hb
    obtain ⟨d, s, k, q, _⟩ := bx
    rw [q] at e'
    cases e'
    exact okM_ints _ _ _
  · rw [o.off i hb] at e'
    exact x z (List.mem_of_getElem? e')
theorem OkA.take {h : Hh} (n : Nat) (x : OkA h) : OkA (h.take n) := by
  unfold OkA at *
  rw [List.all_eq_true] at *
  exact fun z hz => x z (List.mem_of_mem_take hz)
theorem noLs_app : ∀ {l m : List D}, noLs l = true → noLs m = true → noLs (l ++ m) = true
  | [], _, _, h => h
  | a :: l, m, h, k => by
    rw [List.cons_append, noLs]
    rw [noLs, Bool.and_eq_true] at h
    rw [h.1, noLs_app h.2 k]; rfl
theorem law_turnJ {T : Int} {t : Nat} {h0 : Hh} {J : Hh → Prop} (hT : T.toNat = t) (T0 : -1000000000 ≤ T) (T1 : T ≤ 1000000000) (T2 : t ≤ sizeLine) (Jp : ∀ h, J h → Pre h0 h ∧ h0.length ≤ h.length) (Ja : ∀ h a b, J h → J (h ++ [some (.lst [.int a, .int b, .int 0])])) {right : FM} {cost : Nat} (hr : ∀ (h : Hh) (b c : Nat), J h → h0.length ≤ b → BoxAt h b c → c ≤ t * cost → ∃ h', right [.ref b] h = some (.dat (.bool true), h') ∧ BoxAt h' b (c + cost) ∧ J h') {ns : List Int} {k : Int} (k0 : 0 ≤ k) (k1 : k < 100) (v2 v3 : Option W) (h : Hh) (hp : J h) :
    ∃ ρ' h', (sSeq (sAsg (fA (m__law_box) (fCons (fVar 0) (fCons (fVar 1) (fNil)))) (gN 2))
    (sIf (bNot (fB (fA allW (fCons (fLc false (rng1I (fCons (fC (.int T)) (fNil))) (gN 3) (bYes) (fA right (fCons (fVar 2) (fNil))) [3]) (fNil))))) (sRet (fC (.bool false))) (sSkip))) [some (.scr ns), some (.dat (.int k)), v2, v3] h = some (.nx ρ', h') ∧ (∃ w2, ρ' = [some (.scr ns), some (.dat (.int k)), w2, v3]) ∧ J h' := by
  obtain ⟨d, s, e, hd, hs, hs2⟩ := box_new (ns := ns) (h := h) k0 k1
  have hb : BoxAt (h ++ [some (.lst [.int d, .int s, .int 0])]) h.length 0 := ⟨d, s, 0, by simp, hd, hs, hs2, by omega, by omega⟩
  have hl0 := (Jp h hp).2
  obtain ⟨rs, h', e2, hl, hall, _, hp'⟩ := lcL_inv (k := gN 3) (f := fA right (fCons (fVar 2) (fNil))) (ρ := [some (.scr ns), some (.dat (.int k)), some (.ref h.length), none])
    (fun n g => BoxAt g h.length (n * cost) ∧ J g) (fun _ d => d = .bool true) (ds := rngD 0 T.toNat) (n := 0) (h := h ++ [some (.lst [.int d, .int s, .int 0])]) (by rw [Nat.zero_mul]; exact ⟨hb, Ja h d s hp⟩) (by
      intro j d' ej g hi
      obtain ⟨hi, hp1⟩ := hi
      rw [Nat.zero_add] at hi ⊢
      have hj := (rng_get ej).1
      obtain ⟨g', e3, b3, o3⟩ := hr g h.length _ hp1 hl0 hi (Nat.mul_le_mul_right _ (by omega))
      refine ⟨[some (.scr ns), some (.dat (.int k)), some (.ref h.length), some (.dat d')], .bool true, g', rfl, ?_, rfl, by rw [Nat.succ_mul]; exact b3, o3⟩
      clear hp hp1 hl0 Jp Ja
      walk_at "dl")
  have er : rs = List.replicate rs.length (.bool true) := bools_all fun r hr => by
    obtain ⟨j, hj, rfl⟩ := List.getElem_of_mem hr
    exact hall j _ (List.getElem?_eq_getElem hj)
  have hl' : rs.length = t := by rw [hl, rng_len, hT]
  rw [hl'] at er
  subst er
  have e4 := bools_true t
  have e5 := all_true t
  have e6 : (List.replicate t (PyData.bool true)).length ≤ sizeLine := by rw [List.length_replicate]; exact T2
  refine ⟨[some (.scr ns), some (.dat (.int k)), some (.ref h.length), v3], h', ?_, ⟨_, rfl⟩, hp'⟩
  clear hall hl hl' hb hr hp hp' hl0 Jp Ja
  rw [hT] at e2
  walk_at "dl"
theorem law_okJ {T : Int} {t : Nat} {h0 : Hh} {J : Hh → Prop} (hT : T.toNat = t) (T0 : -1000000000 ≤ T) (T1 : T ≤ 1000000000) (T2 : t ≤ sizeLine) (J0 : J h0) (Jp : ∀ h, J h → Pre h0 h ∧ h0.length ≤ h.length) (Ja : ∀ h a b, J h → J (h ++ [some (.lst [.int a, .int b, .int 0])])) {right : FM} {cost : Nat} (hr : ∀ (h : Hh) (b c : Nat), J h → h0.length ≤ b → BoxAt h b c → c ≤ t * cost → ∃ h', right [.ref b] h = some (.dat (.bool true), h') ∧ BoxAt h' b (c + cost) ∧ J h') (ns : List Int) (hn : ns.length ≤ 63) :
    ∃ h', lawM T right [.scr ns] h0 = some (.dat (.bool true), h') := by
  obtain ⟨m, hm, m0, m1⟩ : ∃ m : Int, (if (if (ns.length : Int) < 3 then (ns.length : Int) else 3) > 1 then (if (ns.length : Int) < 3 then (ns.length : Int) else 3) else 1) = m ∧ 0 ≤ m ∧ m ≤ 3 := ⟨_, rfl, by split <;> split <;> omega, by split <;> split <;> omega⟩
  obtain ⟨ρ', h', e, ⟨w1, w2, w3, rfl⟩, hp⟩ := forL_end (k := gN 1) (body := (sSeq (sAsg (fA (m__law_box) (fCons (fVar 0) (fCons (fVar 1) (fNil)))) (gN 2))
    (sIf (bNot (fB (fA allW (fCons (fLc false (rng1I (fCons (fC (.int T)) (fNil))) (gN 3) (bYes) (fA right (fCons (fVar 2) (fNil))) [3]) (fNil))))) (sRet (fC (.bool false))) (sSkip)))) (fun _ ρ g => (∃ w1 w2 w3, ρ = [some (.scr ns), w1, w2, w3]) ∧ J g) (ds := rngD 0 m.toNat) (ρ := [some (.scr ns), none, none, none]) (h := h0) ⟨⟨none, none, none, rfl⟩, J0⟩ (by
      intro j d ej ρ h hi
      obtain ⟨⟨w1, w2, w3, rfl⟩, hp⟩ := hi
      obtain ⟨hj, rfl⟩ := rng_get ej
      obtain ⟨ρ', h', e, ⟨w2', rfl⟩, hp'⟩ := law_turnJ hT T0 T1 T2 Jp Ja hr (ns := ns) (k := j) (by omega) (by omega) w2 w3 h hp
      exact ⟨_, _, h', rfl, e, ⟨_, _, _, rfl⟩, hp'⟩)
  refine ⟨h0, ?_⟩
  have b0 : -1000000000 ≤ m := by omega
  have b1 : m ≤ 1000000000 := by omega
  have lv : leave false h0 (.dat (.bool true)) h' = some (.dat (.bool true), h0) := by
    have e := (Jp h' hp).1.take (Jp h' hp).2
    rw [leave_dat (by rw [e]), e]
  unfold lawM
  clear hr m0 m1 T0 T1 T2 hp J0 Jp Ja
  walk_at "dl"
end DL
set_option maxRecDepth 100000
set_option maxHeartbeats 400000
namespace DL
open PySem L2
variable [HW]
def Srt (r : List Str) (key : Str → Nat) (m : List Str) : Prop := m.Perm r ∧ m.Pairwise fun a b => key a < key b ∨ (key a = key b ∧ r.idxOf a < r.idxOf b)
theorem Srt.eq {r m m' : List Str} {key : Str → Nat} (h : Srt r key m) (h' : Srt r key m') : m = m' := by
  refine List.Perm.eq_of_pairwise (fun a b ha hb h1 h2 => ?_) h.2 h'.2 (h.1.trans h'.1.symm)
  omega
theorem Srt.congr {r m : List Str} {key key' : Str → Nat} (h : Srt r key m) (e : ∀ s ∈ r, key s = key' s) : Srt r key' m := by
  refine ⟨h.1, List.Pairwise.imp_of_mem ?_ h.2⟩
  intro a b ha hb q
  rw [← e a (h.1.mem_iff.mp ha), ← e b (h.1.mem_iff.mp hb)]
  exact q
theorem pw_idxS {r : List Str} (nd : r.Nodup) : r.Pairwise fun a b => r.idxOf a < r.idxOf b := by
  rw [List.pairwise_iff_getElem]
  intro i j hi hj hij
  rw [idx_of nd hi, idx_of nd hj]
  exact hij
theorem Srt.start {r : List Str} (nd : r.Nodup) : Srt r (fun _ => 0) r := ⟨.refl _, (pw_idxS nd).imp fun h => .inr ⟨rfl, h⟩⟩
end DL
set_option maxRecDepth 100000
set_option maxHeartbeats 400000
namespace DL
open PySem L2
variable [HW]
local macro_rules | `(tactic| walk_at "dl") => `(tactic| simp (config := { dsimp := false }) only [↓fnM_e, ↓sSeq_e, seqK_nx, seqK_rt, seqK_bk, seqK_ct, retK_rt, retK_nx, ↓sFrz_e, frK_some, ↓sAsg, ↓sRet, ↓sRetN, ↓sIf, ↓sExpr, ↓sSkip, ↓sNever, ↓sPar, ↓sFor, ↓sSub, ↓fVar, ↓fC, ↓fNil, ↓fCons, ↓fA, ↓f1, ↓f2, ↓fB, ↓fIf, ↓fNeg, ↓fNot, ↓fAnd, ↓fOr, ↓bNot, ↓bAnd, ↓bOr, ↓bYes, ↓obnd_x, ob_some, ↓sbnd_x, sb_some, ↓ite_x, iteK_t, iteK_f, gN, gT, gC, gE, ↓rng1I, ↓rng2I, ↓seqI, ↓enumA, ↓zipI, ↓strI, ↓fLc, ↓fDc, ↓fM, ↓fSl, ↓oNone, ↓oSome, ↓fRev, wipeE, ↓kwM, permM, permL, List.foldr, List.length_cons, List.length_nil, List.map_cons, List.map_nil, List.cons_append, List.nil_append, List.replicate, List.replicate_succ, List.replicate_zero, List.getElem?_cons_zero, List.getElem?_cons_succ, List.set_cons_zero, List.set_cons_succ, if_true, if_false, reduceIte, Nat.reduceAdd, Nat.reduceSub, Nat.reduceEqDiff, Nat.reduceLT, Nat.reduceLeDiff, Int.reduceLT, Int.reduceLE, Int.reduceNeg, Int.reduceMul, Int.reduceAdd, Int.reduceSub, Int.reduceToNat, Int.reducePow, Int.reduceEq, ok, bok, deref, mkL, lstW, tupW, dats, Option.map_some, appendW, insertW, setL, isL, listW, tupleW, lenW, absW, intC, maxW, minW, idxW, addW, subW_e, modW_e, divW_e, powW_e, mulW, intW, lt_e, gt_e, le_e, ge_e, ltW, allW_e, anyW_e, sumW_e, lW, setW, lstAt, cutW, backW, isW, isiW, iLT_none, iLT_bool, iLT_int, iLT_str, iLT_list, iLT_tup, iL_none, iL_bool, iL_int, iL_str, iL_list, iL_tup, iT_none, iT_bool, iT_int, iT_str, iT_list, iT_tup, iS_none, iS_bool, iS_int, iS_str, iS_list, iS_tup, iI_none, iI_bool, iI_int, iI_str, iI_list, iI_tup, iB_none, iB_bool, iB_int, iB_str, iB_list, iB_tup, Bool.false_eq_true, reduceCtorEq, Bool.not_true, Bool.not_false, decide_true, decide_false, List.zip_cons_cons, List.zip_nil_left, List.foldl_cons, List.foldl_nil, and_self, and_true, true_and, Bool.and_true, Bool.true_and, Bool.or_true, Bool.true_or, *])
end DL
set_option maxRecDepth 100000
set_option maxHeartbeats 400000
namespace DL
open PySem L2
variable [HW]
local macro_rules | `(tactic| walk_at "dl") => `(tactic| simp (config := { dsimp := false }) only [↓fnM_e, ↓sSeq_e, seqK_nx, seqK_rt, seqK_bk, seqK_ct, retK_rt, retK_nx, ↓sFrz_e, frK_some, ↓sAsg, ↓sRet, ↓sRetN, ↓sIf, ↓sExpr, ↓sSkip, ↓sNever, ↓sPar, ↓sFor, ↓sSub, ↓fVar, ↓fC, ↓fNil, ↓fCons, ↓fA, ↓f1, ↓f2, ↓fB, ↓fIf, ↓fNeg, ↓fNot, ↓fAnd, ↓fOr, ↓bNot, ↓bAnd, ↓bOr, ↓bYes, ↓obnd_x, ob_some, ↓sbnd_x, sb_some, ↓ite_x, iteK_t, iteK_f, gN, gT, gC, gE, ↓rng1I, ↓rng2I, ↓seqI, ↓enumA, ↓zipI, ↓strI, ↓fLc, ↓fDc, ↓fM, ↓fSl, ↓oNone, ↓oSome, ↓fRev, wipeE, ↓kwM, permM, permL, List.foldr, List.length_cons, List.length_nil, List.map_cons, List.map_nil, List.cons_append, List.nil_append, List.replicate, List.replicate_succ, List.replicate_zero, List.getElem?_cons_zero, List.getElem?_cons_succ, List.set_cons_zero, List.set_cons_succ, if_true, if_false, reduceIte, Nat.reduceAdd, Nat.reduceSub, Nat.reduceEqDiff, Nat.reduceLT, Nat.reduceLeDiff, Int.reduceLT, Int.reduceLE, Int.reduceNeg, Int.reduceMul, Int.reduceAdd, Int.reduceSub, Int.reduceToNat, Int.reducePow, Int.reduceEq, ok, bok, deref, mkL, lstW, tupW, dats, Option.map_some, appendW, insertW, setL, isL, listW, tupleW, lenW, absW, intC, maxW, minW, idxW, addW, subW_e, modW_e, divW_e, powW_e, mulW, intW, lt_e, gt_e, le_e, ge_e, ltW, allW_e, anyW_e, sumW_e, lW, setW, lstAt, cutW, backW, isW, isiW, iLT_none, iLT_bool, iLT_int, iLT_str, iLT_list, iLT_tup, iL_none, iL_bool, iL_int, iL_str, iL_list, iL_tup, iT_none, iT_bool, iT_int, iT_str, iT_list, iT_tup, iS_none, iS_bool, iS_int, iS_str, iS_list, iS_tup, iI_none, iI_bool, iI_int, iI_str, iI_list, iI_tup, iB_none, iB_bool, iB_int, iB_str, iB_list, iB_tup, Bool.false_eq_true, reduceCtorEq, Bool.not_true, Bool.not_false, decide_true, decide_false, List.zip_cons_cons, List.zip_nil_left, List.foldl_cons, List.foldl_nil, and_self, and_true, true_and, Bool.and_true, Bool.true_and, Bool.or_true, Bool.true_or, *])
theorem bools_map {α : Type} (p : α → Bool) : ∀ l : List α, bools (l.map fun i => .bool (p i)) = some (l.map p)
  | [] => rfl
  | a :: l => by rw [List.map_cons, bools, bools_map p l]; rfl
end DL
set_option maxRecDepth 100000
set_option maxHeartbeats 400000
namespace DL
open PySem L2
variable [HW]
local macro_rules | `(tactic| walk_at "dl") => `(tactic| simp (config := { dsimp := false }) only [↓fnM_e, ↓sSeq_e, seqK_nx, seqK_rt, seqK_bk, seqK_ct, retK_rt, retK_nx, ↓sFrz_e, frK_some, ↓sAsg, ↓sRet, ↓sRetN, ↓sIf, ↓sExpr, ↓sSkip, ↓sNever, ↓sPar, ↓sFor, ↓sSub, ↓fVar, ↓fC, ↓fNil, ↓fCons, ↓fA, ↓f1, ↓f2, ↓fB, ↓fIf, ↓fNeg, ↓fNot, ↓fAnd, ↓fOr, ↓bNot, ↓bAnd, ↓bOr, ↓bYes, ↓obnd_x, ob_some, ↓sbnd_x, sb_some, ↓ite_x, iteK_t, iteK_f, gN, gT, gC, gE, ↓rng1I, ↓rng2I, ↓seqI, ↓enumA, ↓zipI, ↓strI, ↓fLc, ↓fDc, ↓fM, ↓fSl, ↓oNone, ↓oSome, ↓fRev, wipeE, ↓kwM, permM, permL, List.foldr, List.length_cons, List.length_nil, List.map_cons, List.map_nil, List.cons_append, List.nil_append, List.replicate, List.replicate_succ, List.replicate_zero, List.getElem?_cons_zero, List.getElem?_cons_succ, List.set_cons_zero, List.set_cons_succ, if_true, if_false, reduceIte, Nat.reduceAdd, Nat.reduceSub, Nat.reduceEqDiff, Nat.reduceLT, Nat.reduceLeDiff, Int.reduceLT, Int.reduceLE, Int.reduceNeg, Int.reduceMul, Int.reduceAdd, Int.reduceSub, Int.reduceToNat, Int.reducePow, Int.reduceEq, ok, bok, deref, mkL, lstW, tupW, dats, Option.map_some, appendW, insertW, setL, isL, listW, tupleW, lenW, absW, intC, maxW, minW, idxW, addW, subW_e, modW_e, divW_e, powW_e, mulW, intW, lt_e, gt_e, le_e, ge_e, ltW, allW_e, anyW_e, sumW_e, lW, setW, lstAt, cutW, backW, isW, isiW, iLT_none, iLT_bool, iLT_int, iLT_str, iLT_list, iLT_tup, iL_none, iL_bool, iL_int, iL_str, iL_list, iL_tup, iT_none, iT_bool, iT_int, iT_str, iT_list, iT_tup, iS_none, iS_bool, iS_int, iS_str, iS_list, iS_tup, iI_none, iI_bool, iI_int, iI_str, iI_list, iI_tup, iB_none, iB_bool, iB_int, iB_str, iB_list, iB_tup, Bool.false_eq_true, reduceCtorEq, Bool.not_true, Bool.not_false, decide_true, decide_false, List.zip_cons_cons, List.zip_nil_left, List.foldl_cons, List.foldl_nil, and_self, and_true, true_and, Bool.and_true, Bool.true_and, Bool.or_true, Bool.true_or, *])
theorem all_noDM_app {h : Hh} {o : Option MO} (hk : h.all noDM = true) (ho : noDM o = true) : (h ++ [o]).all noDM = true := by
  rw [List.all_append, hk]
  simp [ho]
end DL
set_option maxRecDepth 100000
set_option maxHeartbeats 400000
namespace DL
open PySem L2
variable [HW]
local macro_rules | `(tactic| walk_at "dl") => `(tactic| simp (config := { dsimp := false }) only [↓fnM_e, ↓sSeq_e, seqK_nx, seqK_rt, seqK_bk, seqK_ct, retK_rt, retK_nx, ↓sFrz_e, frK_some, ↓sAsg, ↓sRet, ↓sRetN, ↓sIf, ↓sExpr, ↓sSkip, ↓sNever, ↓sPar, ↓sFor, ↓sSub, ↓fVar, ↓fC, ↓fNil, ↓fCons, ↓fA, ↓f1, ↓f2, ↓fB, ↓fIf, ↓fNeg, ↓fNot, ↓fAnd, ↓fOr, ↓bNot, ↓bAnd, ↓bOr, ↓bYes, ↓obnd_x, ob_some, ↓sbnd_x, sb_some, ↓ite_x, iteK_t, iteK_f, gN, gT, gC, gE, ↓rng1I, ↓rng2I, ↓seqI, ↓enumA, ↓zipI, ↓strI, ↓fLc, ↓fDc, ↓fM, ↓fSl, ↓oNone, ↓oSome, ↓fRev, wipeE, ↓kwM, permM, permL, List.foldr, List.length_cons, List.length_nil, List.map_cons, List.map_nil, List.cons_append, List.nil_append, List.replicate, List.replicate_succ, List.replicate_zero, List.getElem?_cons_zero, List.getElem?_cons_succ, List.set_cons_zero, List.set_cons_succ, if_true, if_false, reduceIte, Nat.reduceAdd, Nat.reduceSub, Nat.reduceEqDiff, Nat.reduceLT, Nat.reduceLeDiff, Int.reduceLT, Int.reduceLE, Int.reduceNeg, Int.reduceMul, Int.reduceAdd, Int.reduceSub, Int.reduceToNat, Int.reducePow, Int.reduceEq, ok, bok, deref, mkL, lstW, tupW, dats, Option.map_some, appendW, insertW, setL, isL, listW, tupleW, lenW, absW, intC, maxW, minW, idxW, addW, subW_e, modW_e, divW_e, powW_e, mulW, intW, lt_e, gt_e, le_e, ge_e, ltW, allW_e, anyW_e, sumW_e, lW, setW, lstAt, cutW, backW, isW, isiW, iLT_none, iLT_bool, iLT_int, iLT_str, iLT_list, iLT_tup, iL_none, iL_bool, iL_int, iL_str, iL_list, iL_tup, iT_none, iT_bool, iT_int, iT_str, iT_list, iT_tup, iS_none, iS_bool, iS_int, iS_str, iS_list, iS_tup, iI_none, iI_bool, iI_int, iI_str, iI_list, iI_tup, iB_none, iB_bool, iB_int, iB_str, iB_list, iB_tup, Bool.false_eq_true, reduceCtorEq, Bool.not_true, Bool.not_false, decide_true, decide_false, List.zip_cons_cons, List.zip_nil_left, List.foldl_cons, List.foldl_nil, and_self, and_true, true_and, Bool.and_true, Bool.true_and, Bool.or_true, Bool.true_or, *])
end DL
set_option maxRecDepth 100000
set_option maxHeartbeats 400000
namespace DL
open PySem L2
variable [HW]
local macro_rules | `(tactic| walk_at "dl") => `(tactic| simp (config := { dsimp := false }) only [↓fnM_e, ↓sSeq_e, seqK_nx, seqK_rt, seqK_bk, seqK_ct, retK_rt, retK_nx, ↓sFrz_e, frK_some, ↓sAsg, ↓sRet, ↓sRetN, ↓sIf, ↓sExpr, ↓sSkip, ↓sNever, ↓sPar, ↓sFor, ↓sSub, ↓fVar, ↓fC, ↓fNil, ↓fCons, ↓fA, ↓f1, ↓f2, ↓fB, ↓fIf, ↓fNeg, ↓fNot, ↓fAnd, ↓fOr, ↓bNot, ↓bAnd, ↓bOr, ↓bYes, ↓obnd_x, ob_some, ↓sbnd_x, sb_some, ↓ite_x, iteK_t, iteK_f, gN, gT, gC, gE, ↓rng1I, ↓rng2I, ↓seqI, ↓enumA, ↓zipI, ↓strI, ↓fLc, ↓fDc, ↓fM, ↓fSl, ↓oNone, ↓oSome, ↓fRev, wipeE, ↓kwM, permM, permL, List.foldr, List.length_cons, List.length_nil, List.map_cons, List.map_nil, List.cons_append, List.nil_append, List.replicate, List.replicate_succ, List.replicate_zero, List.getElem?_cons_zero, List.getElem?_cons_succ, List.set_cons_zero, List.set_cons_succ, if_true, if_false, reduceIte, Nat.reduceAdd, Nat.reduceSub, Nat.reduceEqDiff, Nat.reduceLT, Nat.reduceLeDiff, Int.reduceLT, Int.reduceLE, Int.reduceNeg, Int.reduceMul, Int.reduceAdd, Int.reduceSub, Int.reduceToNat, Int.reducePow, Int.reduceEq, ok, bok, deref, mkL, lstW, tupW, dats, Option.map_some, appendW, insertW, setL, isL, listW, tupleW, lenW, absW, intC, maxW, minW, idxW, addW, subW_e, modW_e, divW_e, powW_e, mulW, intW, lt_e, gt_e, le_e, ge_e, ltW, allW_e, anyW_e, sumW_e, lW, setW, lstAt, cutW, backW, isW, isiW, iLT_none, iLT_bool, iLT_int, iLT_str, iLT_list, iLT_tup, iL_none, iL_bool, iL_int, iL_str, iL_list, iL_tup, iT_none, iT_bool, iT_int, iT_str, iT_list, iT_tup, iS_none, iS_bool, iS_int, iS_str, iS_list, iS_tup, iI_none, iI_bool, iI_int, iI_str, iI_list, iI_tup, iB_none, iB_bool, iB_int, iB_str, iB_list, iB_tup, Bool.false_eq_true, reduceCtorEq, Bool.not_true, Bool.not_false, decide_true, decide_false, List.zip_cons_cons, List.zip_nil_left, List.foldl_cons, List.foldl_nil, and_self, and_true, true_and, Bool.and_true, Bool.true_and, Bool.or_true, Bool.true_or, *])
structure JD (h0 h : Hh) : Prop where
  pre : Pre h0 h
  len : h0.length ≤ h.length
  nod : h.all noDM = true
theorem JD.app {h0 h : Hh} (j : JD h0 h) {o : Option MO} (ho : noDM o = true) : JD h0 (h ++ [o]) := ⟨j.pre.app j.len, by rw [List.length_append]; have := j.len; omega, all_noDM_app j.nod ho⟩
theorem noDM_ints (a b c : Int) : noDM (some (.lst [.int a, .int b, .int c])) = true := by simp [noDM, noDs, noD]
theorem nod_only {h h' : Hh} {b c : Nat} (hk : h.all noDM = true) (o : Only b h h') (bx : BoxAt h' b c) : h'.all noDM = true := by
  rw [List.all_eq_true] at *
  intro z hz
  obtain ⟨i, hi, e⟩ := List.getElem_of_mem hz
  have e' : h'[i]? = some z := by rw [List.getElem?_eq_getElem hi, e]
  by_cases hb : i = b
  · subst hb
    obtain ⟨d, s, k, q, _⟩ := bx
    rw [q] at e'
    cases e'
    exact noDM_ints _ _ _
  · rw [o.off i hb] at e'
    exact hk z (List.mem_of_getElem? e')
theorem JD.only {h0 h h' : Hh} {b c : Nat} (j : JD h0 h) (hb : h0.length ≤ b) (o : Only b h h') (bx : BoxAt h' b c) : JD h0 h' := ⟨j.pre.only hb o, by rw [o.len]; exact j.len, nod_only j.nod o bx⟩
end DL
set_option maxRecDepth 100000
set_option maxHeartbeats 400000
namespace DL
open PySem L2
variable [HW]
local macro_rules | `(tactic| walk_at "dl") => `(tactic| simp (config := { dsimp := false }) only [↓fnM_e, ↓sSeq_e, seqK_nx, seqK_rt, seqK_bk, seqK_ct, retK_rt, retK_nx, ↓sFrz_e, frK_some, ↓sAsg, ↓sRet, ↓sRetN, ↓sIf, ↓sExpr, ↓sSkip, ↓sNever, ↓sPar, ↓sFor, ↓sSub, ↓fVar, ↓fC, ↓fNil, ↓fCons, ↓fA, ↓f1, ↓f2, ↓fB, ↓fIf, ↓fNeg, ↓fNot, ↓fAnd, ↓fOr, ↓bNot, ↓bAnd, ↓bOr, ↓bYes, ↓obnd_x, ob_some, ↓sbnd_x, sb_some, ↓ite_x, iteK_t, iteK_f, gN, gT, gC, gE, ↓rng1I, ↓rng2I, ↓seqI, ↓enumA, ↓zipI, ↓strI, ↓fLc, ↓fDc, ↓fM, ↓fSl, ↓oNone, ↓oSome, ↓fRev, wipeE, ↓kwM, permM, permL, List.foldr, List.length_cons, List.length_nil, List.map_cons, List.map_nil, List.cons_append, List.nil_append, List.replicate, List.replicate_succ, List.replicate_zero, List.getElem?_cons_zero, List.getElem?_cons_succ, List.set_cons_zero, List.set_cons_succ, if_true, if_false, reduceIte, Nat.reduceAdd, Nat.reduceSub, Nat.reduceEqDiff, Nat.reduceLT, Nat.reduceLeDiff, Int.reduceLT, Int.reduceLE, Int.reduceNeg, Int.reduceMul, Int.reduceAdd, Int.reduceSub, Int.reduceToNat, Int.reducePow, Int.reduceEq, ok, bok, deref, mkL, lstW, tupW, dats, Option.map_some, appendW, insertW, setL, isL, listW, tupleW, lenW, absW, intC, maxW, minW, idxW, addW, subW_e, modW_e, divW_e, powW_e, mulW, intW, lt_e, gt_e, le_e, ge_e, ltW, allW_e, anyW_e, sumW_e, lW, setW, lstAt, cutW, backW, isW, isiW, iLT_none, iLT_bool, iLT_int, iLT_str, iLT_list, iLT_tup, iL_none, iL_bool, iL_int, iL_str, iL_list, iL_tup, iT_none, iT_bool, iT_int, iT_str, iT_list, iT_tup, iS_none, iS_bool, iS_int, iS_str, iS_list, iS_tup, iI_none, iI_bool, iI_int, iI_str, iI_list, iI_tup, iB_none, iB_bool, iB_int, iB_str, iB_list, iB_tup, Bool.false_eq_true, reduceCtorEq, Bool.not_true, Bool.not_false, decide_true, decide_false, List.zip_cons_cons, List.zip_nil_left, List.foldl_cons, List.foldl_nil, and_self, and_true, true_and, Bool.and_true, Bool.true_and, Bool.or_true, Bool.true_or, *])
def prsN (N : List Str) : List (Str × Str) := N.flatMap fun a => (N.filter fun b => !decide (a = b)).map fun b => (a, b)
end DL
set_option maxRecDepth 100000
set_option maxHeartbeats 400000
namespace DL
open PySem L2
variable [HW]
local macro_rules | `(tactic| walk_at "dl") => `(tactic| simp (config := { dsimp := false }) only [↓fnM_e, ↓sSeq_e, seqK_nx, seqK_rt, seqK_bk, seqK_ct, retK_rt, retK_nx, ↓sFrz_e, frK_some, ↓sAsg, ↓sRet, ↓sRetN, ↓sIf, ↓sExpr, ↓sSkip, ↓sNever, ↓sPar, ↓sFor, ↓sSub, ↓fVar, ↓fC, ↓fNil, ↓fCons, ↓fA, ↓f1, ↓f2, ↓fB, ↓fIf, ↓fNeg, ↓fNot, ↓fAnd, ↓fOr, ↓bNot, ↓bAnd, ↓bOr, ↓bYes, ↓obnd_x, ob_some, ↓sbnd_x, sb_some, ↓ite_x, iteK_t, iteK_f, gN, gT, gC, gE, ↓rng1I, ↓rng2I, ↓seqI, ↓enumA, ↓zipI, ↓strI, ↓fLc, ↓fDc, ↓fM, ↓fSl, ↓oNone, ↓oSome, ↓fRev, wipeE, ↓kwM, permM, permL, List.foldr, List.length_cons, List.length_nil, List.map_cons, List.map_nil, List.cons_append, List.nil_append, List.replicate, List.replicate_succ, List.replicate_zero, List.getElem?_cons_zero, List.getElem?_cons_succ, List.set_cons_zero, List.set_cons_succ, if_true, if_false, reduceIte, Nat.reduceAdd, Nat.reduceSub, Nat.reduceEqDiff, Nat.reduceLT, Nat.reduceLeDiff, Int.reduceLT, Int.reduceLE, Int.reduceNeg, Int.reduceMul, Int.reduceAdd, Int.reduceSub, Int.reduceToNat, Int.reducePow, Int.reduceEq, ok, bok, deref, mkL, lstW, tupW, dats, Option.map_some, appendW, insertW, setL, isL, listW, tupleW, lenW, absW, intC, maxW, minW, idxW, addW, subW_e, modW_e, divW_e, powW_e, mulW, intW, lt_e, gt_e, le_e, ge_e, ltW, allW_e, anyW_e, sumW_e, lW, setW, lstAt, cutW, backW, isW, isiW, iLT_none, iLT_bool, iLT_int, iLT_str, iLT_list, iLT_tup, iL_none, iL_bool, iL_int, iL_str, iL_list, iL_tup, iT_none, iT_bool, iT_int, iT_str, iT_list, iT_tup, iS_none, iS_bool, iS_int, iS_str, iS_list, iS_tup, iI_none, iI_bool, iI_int, iI_str, iI_list, iI_tup, iB_none, iB_bool, iB_int, iB_str, iB_list, iB_tup, Bool.false_eq_true, reduceCtorEq, Bool.not_true, Bool.not_false, decide_true, decide_false, List.zip_cons_cons, List.zip_nil_left, List.foldl_cons, List.foldl_nil, and_self, and_true, true_and, Bool.and_true, Bool.true_and, Bool.or_true, Bool.true_or, *])
end DL
set_option maxRecDepth 100000
set_option maxHeartbeats 400000
namespace DL
open PySem L2
variable [HW]
local macro_rules | `(tactic| walk_at "dl") => `(tactic| simp (config := { dsimp := false }) only [↓fnM_e, ↓sSeq_e, seqK_nx, seqK_rt, seqK_bk, seqK_ct, retK_rt, retK_nx, ↓sFrz_e, frK_some, ↓sAsg, ↓sRet, ↓sRetN, ↓sIf, ↓sExpr, ↓sSkip, ↓sNever, ↓sPar, ↓sFor, ↓sSub, ↓fVar, ↓fC, ↓fNil, ↓fCons, ↓fA, ↓f1, ↓f2, ↓fB, ↓fIf, ↓fNeg, ↓fNot, ↓fAnd, ↓fOr, ↓bNot, ↓bAnd, ↓bOr, ↓bYes, ↓obnd_x, ob_some, ↓sbnd_x, sb_some, ↓ite_x, iteK_t, iteK_f, gN, gT, gC, gE, ↓rng1I, ↓rng2I, ↓seqI, ↓enumA, ↓zipI, ↓strI, ↓fLc, ↓fDc, ↓fM, ↓fSl, ↓oNone, ↓oSome, ↓fRev, wipeE, ↓kwM, permM, permL, List.foldr, List.length_cons, List.length_nil, List.map_cons, List.map_nil, List.cons_append, List.nil_append, List.replicate, List.replicate_succ, List.replicate_zero, List.getElem?_cons_zero, List.getElem?_cons_succ, List.set_cons_zero, List.set_cons_succ, if_true, if_false, reduceIte, Nat.reduceAdd, Nat.reduceSub, Nat.reduceEqDiff, Nat.reduceLT, Nat.reduceLeDiff, Int.reduceLT, Int.reduceLE, Int.reduceNeg, Int.reduceMul, Int.reduceAdd, Int.reduceSub, Int.reduceToNat, Int.reducePow, Int.reduceEq, ok, bok, deref, mkL, lstW, tupW, dats, Option.map_some, appendW, insertW, setL, isL, listW, tupleW, lenW, absW, intC, maxW, minW, idxW, addW, subW_e, modW_e, divW_e, powW_e, mulW, intW, lt_e, gt_e, le_e, ge_e, ltW, allW_e, anyW_e, sumW_e, lW, setW, lstAt, cutW, backW, isW, isiW, iLT_none, iLT_bool, iLT_int, iLT_str, iLT_list, iLT_tup, iL_none, iL_bool, iL_int, iL_str, iL_list, iL_tup, iT_none, iT_bool, iT_int, iT_str, iT_list, iT_tup, iS_none, iS_bool, iS_int, iS_str, iS_list, iS_tup, iI_none, iI_bool, iI_int, iI_str, iI_list, iI_tup, iB_none, iB_bool, iB_int, iB_str, iB_list, iB_tup, Bool.false_eq_true, reduceCtorEq, Bool.not_true, Bool.not_false, decide_true, decide_false, List.zip_cons_cons, List.zip_nil_left, List.foldl_cons, List.foldl_nil, and_self, and_true, true_and, Bool.and_true, Bool.true_and, Bool.or_true, Bool.true_or, *])
end DL
set_option maxRecDepth 100000
set_option maxHeartbeats 400000
namespace DL
open PySem L2
variable [HW]
local macro_rules | `(tactic| walk_at "dl") => `(tactic| simp (config := { dsimp := false }) only [↓fnM_e, ↓sSeq_e, seqK_nx, seqK_rt, seqK_bk, seqK_ct, retK_rt, retK_nx, ↓sFrz_e, frK_some, ↓sAsg, ↓sRet, ↓sRetN, ↓sIf, ↓sExpr, ↓sSkip, ↓sNever, ↓sPar, ↓sFor, ↓sSub, ↓fVar, ↓fC, ↓fNil, ↓fCons, ↓fA, ↓f1, ↓f2, ↓fB, ↓fIf, ↓fNeg, ↓fNot, ↓fAnd, ↓fOr, ↓bNot, ↓bAnd, ↓bOr, ↓bYes, ↓obnd_x, ob_some, ↓sbnd_x, sb_some, ↓ite_x, iteK_t, iteK_f, gN, gT, gC, gE, ↓rng1I, ↓rng2I, ↓seqI, ↓enumA, ↓zipI, ↓strI, ↓fLc, ↓fDc, ↓fM, ↓fSl, ↓oNone, ↓oSome, ↓fRev, wipeE, ↓kwM, permM, permL, List.foldr, List.length_cons, List.length_nil, List.map_cons, List.map_nil, List.cons_append, List.nil_append, List.replicate, List.replicate_succ, List.replicate_zero, List.getElem?_cons_zero, List.getElem?_cons_succ, List.set_cons_zero, List.set_cons_succ, if_true, if_false, reduceIte, Nat.reduceAdd, Nat.reduceSub, Nat.reduceEqDiff, Nat.reduceLT, Nat.reduceLeDiff, Int.reduceLT, Int.reduceLE, Int.reduceNeg, Int.reduceMul, Int.reduceAdd, Int.reduceSub, Int.reduceToNat, Int.reducePow, Int.reduceEq, ok, bok, deref, mkL, lstW, tupW, dats, Option.map_some, appendW, insertW, setL, isL, listW, tupleW, lenW, absW, intC, maxW, minW, idxW, addW, subW_e, modW_e, divW_e, powW_e, mulW, intW, lt_e, gt_e, le_e, ge_e, ltW, allW_e, anyW_e, sumW_e, lW, setW, lstAt, cutW, backW, isW, isiW, iLT_none, iLT_bool, iLT_int, iLT_str, iLT_list, iLT_tup, iL_none, iL_bool, iL_int, iL_str, iL_list, iL_tup, iT_none, iT_bool, iT_int, iT_str, iT_list, iT_tup, iS_none, iS_bool, iS_int, iS_str, iS_list, iS_tup, iI_none, iI_bool, iI_int, iI_str, iI_list, iI_tup, iB_none, iB_bool, iB_int, iB_str, iB_list, iB_tup, Bool.false_eq_true, reduceCtorEq, Bool.not_true, Bool.not_false, decide_true, decide_false, List.zip_cons_cons, List.zip_nil_left, List.foldl_cons, List.foldl_nil, and_self, and_true, true_and, Bool.and_true, Bool.true_and, Bool.or_true, Bool.true_or, *])
def fldK (C : Addr) (f : Str) (w : W) (h1 : Hh) : Option (W × Hh) := match insF C w h1 with
  | some fs => match fs.lookup f with
    | some d => some (.dat d, h1)
    | none => none
  | none => none
theorem fFld_e (C : Addr) (f : Str) (g : EM) (ρ : DL.Env) (h : Hh) : fFld C f g ρ h = ob (fldK C f) () (g ρ h) := rfl
def metK (C : Addr) (m : Str) (mm : FM) (ga : AM) (ρ : DL.Env) (w : W) (h1 : Hh) : Option (W × Hh) := match insF C w h1 with
  | some fs => match fs.lookup m with
    | some _ => none
    | none => ob (fun ws h2 => mm (w :: ws) h2) () (ga ρ h1)
  | none => none
theorem fMeth_e (C : Addr) (m : Str) (mm : FM) (go : EM) (ga : AM) (ρ : DL.Env) (h : Hh) : fMeth C m mm go ga ρ h = ob (metK C m mm ga ρ) () (go ρ h) := rfl
def mkT (C : Addr) (mi : FM) (ws : List W) (h1 : Hh) : Option (W × Hh) := match mi (.ref h1.length :: ws) (h1 ++ [some (.ins C [])]) with
  | some (.dat .none, h2) => match h2[h1.length]? with
    | some (some (.ins C' fs)) => if C' = C then some (.ins C fs, h2.set h1.length none) else none
    | _ => none
  | _ => none
theorem fMk_e (C : Addr) (mi : FM) (ga : AM) (ρ : DL.Env) (h : Hh) : fMk C mi ga ρ h = ob (mkT C mi) () (ga ρ h) := rfl
theorem fld_n {C : Addr} {a b : D} {h : Hh} : fldK C "own_names" (.ins C [("own_names", a), ("own_pairs", b)]) h = some (.dat a, h) := by
  simp only [fldK, insF, if_true]; rfl
theorem fld_p {C : Addr} {a b : D} {h : Hh} : fldK C "own_pairs" (.ins C [("own_names", a), ("own_pairs", b)]) h = some (.dat b, h) := by
  simp only [fldK, insF, if_true]; rfl
theorem met_t {C : Addr} {m : Str} {mm : FM} {ga : AM} {ρ : DL.Env} {a b : D} {h : Hh} (hm : List.lookup m [(("own_names" : Str), a), ("own_pairs", b)] = none) : metK C m mm ga ρ (.ins C [("own_names", a), ("own_pairs", b)]) h = ob (fun ws h2 => mm (.ins C [("own_names", a), ("own_pairs", b)] :: ws) h2) () (ga ρ h) := by
  simp only [metK, insF, if_true, hm]
theorem met_leads {C : Addr} {mm : FM} {ga : AM} {ρ : DL.Env} {a b : D} {h : Hh} : metK C "leads" mm ga ρ (.ins C [("own_names", a), ("own_pairs", b)]) h = ob (fun ws h2 => mm (.ins C [("own_names", a), ("own_pairs", b)] :: ws) h2) () (ga ρ h) := met_t rfl
theorem met_then {C : Addr} {mm : FM} {ga : AM} {ρ : DL.Env} {a b : D} {h : Hh} : metK C "then" mm ga ρ (.ins C [("own_names", a), ("own_pairs", b)]) h = ob (fun ws h2 => mm (.ins C [("own_names", a), ("own_pairs", b)] :: ws) h2) () (ga ρ h) := met_t rfl
theorem met_times {C : Addr} {mm : FM} {ga : AM} {ρ : DL.Env} {a b : D} {h : Hh} : metK C "times" mm ga ρ (.ins C [("own_names", a), ("own_pairs", b)]) h = ob (fun ws h2 => mm (.ins C [("own_names", a), ("own_pairs", b)] :: ws) h2) () (ga ρ h) := met_t rfl
theorem met_made {C : Addr} {mm : FM} {ga : AM} {ρ : DL.Env} {a b : D} {h : Hh} : metK C "made" mm ga ρ (.ins C [("own_names", a), ("own_pairs", b)]) h = ob (fun ws h2 => mm (.ins C [("own_names", a), ("own_pairs", b)] :: ws) h2) () (ga ρ h) := met_t rfl
theorem met_tells {C : Addr} {mm : FM} {ga : AM} {ρ : DL.Env} {a b : D} {h : Hh} : metK C "tells" mm ga ρ (.ins C [("own_names", a), ("own_pairs", b)]) h = ob (fun ws h2 => mm (.ins C [("own_names", a), ("own_pairs", b)] :: ws) h2) () (ga ρ h) := met_t rfl
theorem met_names {C : Addr} {mm : FM} {ga : AM} {ρ : DL.Env} {a b : D} {h : Hh} : metK C "names" mm ga ρ (.ins C [("own_names", a), ("own_pairs", b)]) h = ob (fun ws h2 => mm (.ins C [("own_names", a), ("own_pairs", b)] :: ws) h2) () (ga ρ h) := met_t rfl
end DL
set_option maxRecDepth 100000
set_option maxHeartbeats 400000
namespace DL
open PySem L2
variable [HW]
local macro_rules | `(tactic| walk_at "dl") => `(tactic| simp (config := { dsimp := false }) only [↓fnM_e, ↓sSeq_e, seqK_nx, seqK_rt, seqK_bk, seqK_ct, retK_rt, retK_nx, ↓sFrz_e, frK_some, ↓sAsg, ↓sRet, ↓sRetN, ↓sIf, ↓sExpr, ↓sSkip, ↓sNever, ↓sPar, ↓sFor, ↓sSub, ↓fVar, ↓fC, ↓fNil, ↓fCons, ↓fA, ↓f1, ↓f2, ↓fB, ↓fIf, ↓fNeg, ↓fNot, ↓fAnd, ↓fOr, ↓bNot, ↓bAnd, ↓bOr, ↓bYes, ↓obnd_x, ob_some, ↓sbnd_x, sb_some, ↓ite_x, iteK_t, iteK_f, gN, gT, gC, gE, ↓rng1I, ↓rng2I, ↓seqI, ↓enumA, ↓zipI, ↓strI, ↓fLc, ↓fDc, ↓fM, ↓fSl, ↓oNone, ↓oSome, ↓fRev, wipeE, ↓kwM, permM, permL, List.foldr, List.length_cons, List.length_nil, List.map_cons, List.map_nil, List.cons_append, List.nil_append, List.replicate, List.replicate_succ, List.replicate_zero, List.getElem?_cons_zero, List.getElem?_cons_succ, List.set_cons_zero, List.set_cons_succ, if_true, if_false, reduceIte, Nat.reduceAdd, Nat.reduceSub, Nat.reduceEqDiff, Nat.reduceLT, Nat.reduceLeDiff, Int.reduceLT, Int.reduceLE, Int.reduceNeg, Int.reduceMul, Int.reduceAdd, Int.reduceSub, Int.reduceToNat, Int.reducePow, Int.reduceEq, ok, bok, deref, mkL, lstW, tupW, dats, Option.map_some, appendW, insertW, setL, isL, listW, tupleW, lenW, absW, intC, maxW, minW, idxW, addW, subW_e, modW_e, divW_e, powW_e, mulW, intW, lt_e, gt_e, le_e, ge_e, ltW, allW_e, anyW_e, sumW_e, lW, setW, lstAt, cutW, backW, isW, isiW, iLT_none, iLT_bool, iLT_int, iLT_str, iLT_list, iLT_tup, iL_none, iL_bool, iL_int, iL_str, iL_list, iL_tup, iT_none, iT_bool, iT_int, iT_str, iT_list, iT_tup, iS_none, iS_bool, iS_int, iS_str, iS_list, iS_tup, iI_none, iI_bool, iI_int, iI_str, iI_list, iI_tup, iB_none, iB_bool, iB_int, iB_str, iB_list, iB_tup, Bool.false_eq_true, reduceCtorEq, Bool.not_true, Bool.not_false, decide_true, decide_false, List.zip_cons_cons, List.zip_nil_left, List.foldl_cons, List.foldl_nil, and_self, and_true, true_and, Bool.and_true, Bool.true_and, Bool.or_true, Bool.true_or, *])
theorem nd_inj {S : List Str} (nd : S.Nodup) {i j : Nat} (hi : i < S.length) (hj : j < S.length) (e : S[i] = S[j]) : i = j := by
  rcases Nat.lt_trichotomy i j with h | h | h
  · exact absurd e (List.pairwise_iff_getElem.mp nd i j hi hj h)
  · exact h
  · exact absurd e.symm (List.pairwise_iff_getElem.mp nd j i hj hi h)
theorem dict_prs {ps : List (Str × Str)} {h : Hh} (nd : (ps.map (·.1)).Nodup) : dictA false [.dat (.list (ps.map prT))] h = some (.dat (.dict (sdic (tld ps))), h) := by
  have e := pairsK_prs (tld ps)
  have e2 := merge_sdic (tld ps) [] (by rw [List.nil_append, tld_keys]; exact nd)
  have e3 : mergeD [] ((tld ps).map fun p => (Sum.inr p.1, p.2)) = sdic (tld ps) := e2
  rw [prs_tld]
  unfold dictA dictW
  simp only [deref, e, e3, mkK, Bool.false_eq_true, if_false]
structure Nam (l : List Str) (ms : List (Str × Str)) : Prop where
  key : ms.map (·.1) = l
  nd : l.Nodup
  inj : (ms.map (·.2)).Nodup
  txt : Txts (ms.map (·.2))
section
variable {l : List Str} {ms : List (Str × Str)} (N : Nam l ms)
include N
theorem Nam.nk : (ms.map (·.1)).Nodup := by rw [N.key]; exact N.nd
theorem Nam.look {s : Str} (hs : s ∈ l) : ∃ p ∈ ms, p.1 = s ∧ goal ms s = p.2 ∧ ms.lookup s = some p.2 := by
  rw [← N.key] at hs
  obtain ⟨p, hp, rfl⟩ := List.mem_map.mp hs
  refine ⟨p, hp, rfl, goal_of N.nk p hp, ?_⟩
  have : ∀ {ms : List (Str × Str)}, (ms.map (·.1)).Nodup → p ∈ ms → ms.lookup p.1 = some p.2 := fun {ms} => by
    induction ms with
    | nil => intro _ h; cases h
    | cons q ms ih =>
      intro nd h
      rw [List.map_cons, List.nodup_cons] at nd
      rcases List.mem_cons.mp h with rfl | h
      · rw [List.lookup_cons]; simp
      · rw [List.lookup_cons]
        have : p.1 ≠ q.1 := fun z => nd.1 (z ▸ List.mem_map.mpr ⟨p, h, rfl⟩)
        rw [beq_eq_false_iff_ne.mpr this]
        exact ih nd.2 h
  exact this N.nk hp
theorem Nam.get {s : Str} (hs : s ∈ l) : getD (sdic (tld ms)) (.str s) = some (some (.str (goal ms s))) := by
  obtain ⟨p, _, _, e1, e2⟩ := N.look hs
  rw [getD_sdic, look_tld, e2, e1]; rfl
theorem Nam.map : l.map (goal ms) = ms.map (·.2) := by
  rw [← N.key, List.map_map]
  apply List.map_congr_left
  intro p hp
  exact goal_of N.nk p hp
theorem Nam.one {a b : Str} (ha : a ∈ l) (hb : b ∈ l) : goal ms a = goal ms b ↔ a = b := by
  constructor
  · intro e
    obtain ⟨i, hi, rfl⟩ := List.getElem_of_mem ha
    obtain ⟨j, hj, rfl⟩ := List.getElem_of_mem hb
    have nd := N.inj
    rw [← N.map] at nd
    have q : (l.map (DL.goal ms))[i]'(by rw [List.length_map]; exact hi) = (l.map (DL.goal ms))[j]'(by rw [List.length_map]; exact hj) := by rw [List.getElem_map, List.getElem_map]; exact e
    have := nd_inj nd (by rw [List.length_map]; exact hi) (by rw [List.length_map]; exact hj) q
    subst this; rfl
  · rintro rfl; rfl
end
section
variable {r : List Str} {ms ps : List (Str × Str)} (N : Nam r ms) (c : CallOf r ps)
include N c
end
end DL
set_option maxRecDepth 100000
set_option maxHeartbeats 400000
namespace DL
open PySem L2
variable [HW]
local macro_rules | `(tactic| walk_at "dl") => `(tactic| simp (config := { dsimp := false }) only [↓fnM_e, ↓sSeq_e, seqK_nx, seqK_rt, seqK_bk, seqK_ct, retK_rt, retK_nx, ↓sFrz_e, frK_some, ↓sAsg, ↓sRet, ↓sRetN, ↓sIf, ↓sExpr, ↓sSkip, ↓sNever, ↓sPar, ↓sFor, ↓sSub, ↓fVar, ↓fC, ↓fNil, ↓fCons, ↓fA, ↓f1, ↓f2, ↓fB, ↓fIf, ↓fNeg, ↓fNot, ↓fAnd, ↓fOr, ↓bNot, ↓bAnd, ↓bOr, ↓bYes, ↓obnd_x, ob_some, ↓sbnd_x, sb_some, ↓ite_x, iteK_t, iteK_f, gN, gT, gC, gE, ↓rng1I, ↓rng2I, ↓seqI, ↓enumA, ↓zipI, ↓strI, ↓fLc, ↓fDc, ↓fM, ↓fSl, ↓oNone, ↓oSome, ↓fRev, wipeE, ↓kwM, permM, permL, List.foldr, List.length_cons, List.length_nil, List.map_cons, List.map_nil, List.cons_append, List.nil_append, List.replicate, List.replicate_succ, List.replicate_zero, List.getElem?_cons_zero, List.getElem?_cons_succ, List.set_cons_zero, List.set_cons_succ, if_true, if_false, reduceIte, Nat.reduceAdd, Nat.reduceSub, Nat.reduceEqDiff, Nat.reduceLT, Nat.reduceLeDiff, Int.reduceLT, Int.reduceLE, Int.reduceNeg, Int.reduceMul, Int.reduceAdd, Int.reduceSub, Int.reduceToNat, Int.reducePow, Int.reduceEq, ok, bok, deref, mkL, lstW, tupW, dats, Option.map_some, appendW, insertW, setL, isL, listW, tupleW, lenW, absW, intC, maxW, minW, idxW, addW, subW_e, modW_e, divW_e, powW_e, mulW, intW, lt_e, gt_e, le_e, ge_e, ltW, allW_e, anyW_e, sumW_e, lW, setW, lstAt, cutW, backW, isW, isiW, iLT_none, iLT_bool, iLT_int, iLT_str, iLT_list, iLT_tup, iL_none, iL_bool, iL_int, iL_str, iL_list, iL_tup, iT_none, iT_bool, iT_int, iT_str, iT_list, iT_tup, iS_none, iS_bool, iS_int, iS_str, iS_list, iS_tup, iI_none, iI_bool, iI_int, iI_str, iI_list, iI_tup, iB_none, iB_bool, iB_int, iB_str, iB_list, iB_tup, Bool.false_eq_true, reduceCtorEq, Bool.not_true, Bool.not_false, decide_true, decide_false, List.zip_cons_cons, List.zip_nil_left, List.foldl_cons, List.foldl_nil, and_self, and_true, true_and, Bool.and_true, Bool.true_and, Bool.or_true, Bool.true_or, *])
local macro_rules | `(tactic| walk_at "tb") => `(tactic| simp (config := { dsimp := false }) only [↓fFld_e, ↓fMeth_e, ↓fMk_e, fld_n, fld_p, met_leads, met_then, met_times, met_made, met_tells, met_names, ↓fnM_e, ↓sSeq_e, seqK_nx, seqK_rt, seqK_bk, seqK_ct, retK_rt, retK_nx, ↓sFrz_e, frK_some, ↓sAsg, ↓sRet, ↓sRetN, ↓sIf, ↓sExpr, ↓sSkip, ↓sNever, ↓sPar, ↓sFor, ↓sSub, ↓fVar, ↓fC, ↓fNil, ↓fCons, ↓fA, ↓f1, ↓f2, ↓fB, ↓fIf, ↓fNeg, ↓fNot, ↓fAnd, ↓fOr, ↓bNot, ↓bAnd, ↓bOr, ↓bYes, ↓obnd_x, ob_some, ↓sbnd_x, sb_some, ↓ite_x, iteK_t, iteK_f, gN, gT, gC, gE, ↓rng1I, ↓rng2I, ↓seqI, ↓enumA, ↓zipI, ↓strI, ↓fLc, ↓fDc, ↓fM, ↓fSl, ↓oNone, ↓oSome, ↓fRev, wipeE, ↓kwM, permM, permL, List.foldr, List.length_cons, List.length_nil, List.map_cons, List.map_nil, List.cons_append, List.nil_append, List.replicate, List.replicate_succ, List.replicate_zero, List.getElem?_cons_zero, List.getElem?_cons_succ, List.set_cons_zero, List.set_cons_succ, if_true, if_false, reduceIte, Nat.reduceAdd, Nat.reduceSub, Nat.reduceEqDiff, Nat.reduceLT, Nat.reduceLeDiff, Int.reduceLT, Int.reduceLE, Int.reduceNeg, Int.reduceMul, Int.reduceAdd, Int.reduceSub, Int.reduceToNat, Int.reducePow, Int.reduceEq, ok, bok, deref, mkL, lstW, tupW, dats, Option.map_some, appendW, insertW, setL, isL, listW, tupleW, lenW, absW, intC, maxW, minW, idxW, addW, subW_e, modW_e, divW_e, powW_e, mulW, intW, lt_e, gt_e, le_e, ge_e, ltW, allW_e, anyW_e, sumW_e, lW, setW, lstAt, cutW, backW, isW, isiW, iLT_none, iLT_bool, iLT_int, iLT_str, iLT_list, iLT_tup, iL_none, iL_bool, iL_int, iL_str, iL_list, iL_tup, iT_none, iT_bool, iT_int, iT_str, iT_list, iT_tup, iS_none, iS_bool, iS_int, iS_str, iS_list, iS_tup, iI_none, iI_bool, iI_int, iI_str, iI_list, iI_tup, iB_none, iB_bool, iB_int, iB_str, iB_list, iB_tup, Bool.false_eq_true, reduceCtorEq, Bool.not_true, Bool.not_false, decide_true, decide_false, List.zip_cons_cons, List.zip_nil_left, List.foldl_cons, List.foldl_nil, and_self, and_true, true_and, Bool.and_true, Bool.true_and, Bool.or_true, Bool.true_or, *])
end DL
set_option maxRecDepth 100000
set_option maxHeartbeats 400000
namespace DL
open PySem L2
variable [HW]
local macro_rules | `(tactic| walk_at "tb") => `(tactic| simp (config := { dsimp := false }) only [↓fFld_e, ↓fMeth_e, ↓fMk_e, fld_n, fld_p, met_leads, met_then, met_times, met_made, met_tells, met_names, ↓fnM_e, ↓sSeq_e, seqK_nx, seqK_rt, seqK_bk, seqK_ct, retK_rt, retK_nx, ↓sFrz_e, frK_some, ↓sAsg, ↓sRet, ↓sRetN, ↓sIf, ↓sExpr, ↓sSkip, ↓sNever, ↓sPar, ↓sFor, ↓sSub, ↓fVar, ↓fC, ↓fNil, ↓fCons, ↓fA, ↓f1, ↓f2, ↓fB, ↓fIf, ↓fNeg, ↓fNot, ↓fAnd, ↓fOr, ↓bNot, ↓bAnd, ↓bOr, ↓bYes, ↓obnd_x, ob_some, ↓sbnd_x, sb_some, ↓ite_x, iteK_t, iteK_f, gN, gT, gC, gE, ↓rng1I, ↓rng2I, ↓seqI, ↓enumA, ↓zipI, ↓strI, ↓fLc, ↓fDc, ↓fM, ↓fSl, ↓oNone, ↓oSome, ↓fRev, wipeE, ↓kwM, permM, permL, List.foldr, List.length_cons, List.length_nil, List.map_cons, List.map_nil, List.cons_append, List.nil_append, List.replicate, List.replicate_succ, List.replicate_zero, List.getElem?_cons_zero, List.getElem?_cons_succ, List.set_cons_zero, List.set_cons_succ, if_true, if_false, reduceIte, Nat.reduceAdd, Nat.reduceSub, Nat.reduceEqDiff, Nat.reduceLT, Nat.reduceLeDiff, Int.reduceLT, Int.reduceLE, Int.reduceNeg, Int.reduceMul, Int.reduceAdd, Int.reduceSub, Int.reduceToNat, Int.reducePow, Int.reduceEq, ok, bok, deref, mkL, lstW, tupW, dats, Option.map_some, appendW, insertW, setL, isL, listW, tupleW, lenW, absW, intC, maxW, minW, idxW, addW, subW_e, modW_e, divW_e, powW_e, mulW, intW, lt_e, gt_e, le_e, ge_e, ltW, allW_e, anyW_e, sumW_e, lW, setW, lstAt, cutW, backW, isW, isiW, iLT_none, iLT_bool, iLT_int, iLT_str, iLT_list, iLT_tup, iL_none, iL_bool, iL_int, iL_str, iL_list, iL_tup, iT_none, iT_bool, iT_int, iT_str, iT_list, iT_tup, iS_none, iS_bool, iS_int, iS_str, iS_list, iS_tup, iI_none, iI_bool, iI_int, iI_str, iI_list, iI_tup, iB_none, iB_bool, iB_int, iB_str, iB_list, iB_tup, Bool.false_eq_true, reduceCtorEq, Bool.not_true, Bool.not_false, decide_true, decide_false, List.zip_cons_cons, List.zip_nil_left, List.foldl_cons, List.foldl_nil, and_self, and_true, true_and, Bool.and_true, Bool.true_and, Bool.or_true, Bool.true_or, *])
end DL
set_option maxRecDepth 100000
set_option maxHeartbeats 400000
namespace DL
open PySem L2
variable [HW]
local macro_rules | `(tactic| walk_at "dl") => `(tactic| simp (config := { dsimp := false }) only [↓fnM_e, ↓sSeq_e, seqK_nx, seqK_rt, seqK_bk, seqK_ct, retK_rt, retK_nx, ↓sFrz_e, frK_some, ↓sAsg, ↓sRet, ↓sRetN, ↓sIf, ↓sExpr, ↓sSkip, ↓sNever, ↓sPar, ↓sFor, ↓sSub, ↓fVar, ↓fC, ↓fNil, ↓fCons, ↓fA, ↓f1, ↓f2, ↓fB, ↓fIf, ↓fNeg, ↓fNot, ↓fAnd, ↓fOr, ↓bNot, ↓bAnd, ↓bOr, ↓bYes, ↓obnd_x, ob_some, ↓sbnd_x, sb_some, ↓ite_x, iteK_t, iteK_f, gN, gT, gC, gE, ↓rng1I, ↓rng2I, ↓seqI, ↓enumA, ↓zipI, ↓strI, ↓fLc, ↓fDc, ↓fM, ↓fSl, ↓oNone, ↓oSome, ↓fRev, wipeE, ↓kwM, permM, permL, List.foldr, List.length_cons, List.length_nil, List.map_cons, List.map_nil, List.cons_append, List.nil_append, List.replicate, List.replicate_succ, List.replicate_zero, List.getElem?_cons_zero, List.getElem?_cons_succ, List.set_cons_zero, List.set_cons_succ, if_true, if_false, reduceIte, Nat.reduceAdd, Nat.reduceSub, Nat.reduceEqDiff, Nat.reduceLT, Nat.reduceLeDiff, Int.reduceLT, Int.reduceLE, Int.reduceNeg, Int.reduceMul, Int.reduceAdd, Int.reduceSub, Int.reduceToNat, Int.reducePow, Int.reduceEq, ok, bok, deref, mkL, lstW, tupW, dats, Option.map_some, appendW, insertW, setL, isL, listW, tupleW, lenW, absW, intC, maxW, minW, idxW, addW, subW_e, modW_e, divW_e, powW_e, mulW, intW, lt_e, gt_e, le_e, ge_e, ltW, allW_e, anyW_e, sumW_e, lW, setW, lstAt, cutW, backW, isW, isiW, iLT_none, iLT_bool, iLT_int, iLT_str, iLT_list, iLT_tup, iL_none, iL_bool, iL_int, iL_str, iL_list, iL_tup, iT_none, iT_bool, iT_int, iT_str, iT_list, iT_tup, iS_none, iS_bool, iS_int, iS_str, iS_list, iS_tup, iI_none, iI_bool, iI_int, iI_str, iI_list, iI_tup, iB_none, iB_bool, iB_int, iB_str, iB_list, iB_tup, Bool.false_eq_true, reduceCtorEq, Bool.not_true, Bool.not_false, decide_true, decide_false, List.zip_cons_cons, List.zip_nil_left, List.foldl_cons, List.foldl_nil, and_self, and_true, true_and, Bool.and_true, Bool.true_and, Bool.or_true, Bool.true_or, *])
theorem fA1_run {m : FM} {E : EM} {ρ : DL.Env} {h : Hh} {x y : D} (he : E ρ h = some (.dat x, h)) (hm : m [.dat x] h = some (.dat y, h)) : fA m (fCons E (fNil)) ρ h = some (.dat y, h) := by simp only [fA, fCons, fNil, obnd, he, hm]
theorem f2_run {f : W → W → Hh → Option (W × Hh)} {A B : EM} {ρ : DL.Env} {h : Hh} {x y z : D} (ha : A ρ h = some (.dat x, h)) (hb : B ρ h = some (.dat y, h)) (hf : f (.dat x) (.dat y) h = some (.dat z, h)) : f2 f A B ρ h = some (.dat z, h) := by simp only [f2, obnd, ha, hb, hf]
theorem cut_drop {α : Type} (xs : List α) {k : Nat} : cutG xs (some (k : Int)) none = xs.drop k := by
  have e : HT.sIx xs.length 0 (some (k : Int)) = min k xs.length := HT.sIx_nat _ _ _
  have e0 : HT.sIx xs.length xs.length none = xs.length := rfl
  unfold cutG
  rw [e, e0]
  rcases Nat.le_total k xs.length with q | q
  · rw [Nat.min_eq_left q]
    exact List.take_of_length_le (by rw [List.length_drop]; omega)
  · rw [Nat.min_eq_right q, List.drop_eq_nil_of_le q]
    simp
theorem zip_strs {l : List Str} {x : W} {nt : List D} {h : Hh} (ct : cutG (l.map PyData.str) (some 1) none = nt) : zipB (fCons (fVar 1) (fCons (fSl false (fVar 1) (oSome (fC (.int 1))) (oNone)) (fNil))) [some x, some (.dat (.list (l.map .str))), none, none, none, none, none] h = some (zipD (l.map .str) nt, h) := by
  unfold zipB
  walk_at "dl"
theorem ge_run {v0 v1 v2 v3 v6 : Option W} {a b : Str} {h : Hh} (lt : decide (a.cps.toList < b.cps.toList) = true) : f2 ge_W (fVar 4) (fVar 5) [v0, v1, v2, v3, some (.dat (.str a)), some (.dat (.str b)), v6] h = some (.dat (.bool false), h) := by
  refine f2_run rfl rfl ?_
  unfold ge_W ltW
  simp only [deref, lt]
  rfl
theorem any_str {s : Str} : ∀ r : List Str, ((r.map PyData.str).any fun z => PyData.eqv z (.str s)) = decide (s ∈ r)
  | [] => by simp
  | t :: r => by
    rw [List.map_cons, List.any_cons, any_str r]
    have q : PyData.eqv (.str t) (.str s) = decide (s = t) := by
      by_cases z : s = t
      · subst z; simp [PyData.eqv]
      · have z' : ¬ t = s := fun w => z w.symm
        simp [PyData.eqv, z, z']
    rw [q]
    simp [List.mem_cons]
theorem in_list {s : Str} {r : List Str} {h : Hh} : inW false (.dat (.str s)) (.dat (.list (r.map .str))) h = some (.dat (.bool (decide (s ∈ r))), h) := by
  have e1 : ((r.map PyData.str).all flatD) = true := by
    rw [List.all_eq_true]
    intro d hd
    obtain ⟨s, hs, rfl⟩ := List.mem_map.mp hd
    rfl
  unfold inW
  simp only [deref, flatD, e1, any_str, Bool.and_self, if_true]
  rfl
theorem in_run {v0 v2 v4 v5 v6 : Option W} {l : List Str} {s : Str} {h : Hh} (hs : s ∈ l) : f2 (inW false) (fVar 3) (fVar 1) [v0, some (.dat (.list (l.map .str))), v2, some (.dat (.str s)), v4, v5, v6] h = some (.dat (.bool true), h) := by
  refine f2_run rfl rfl ?_
  have := in_list (s := s) (r := l) (h := h)
  rw [this, decide_eq_true hs]
structure GoodC (ps : List (Str × Str)) : Prop where
  pos : 0 < ps.length
  few : ps.length ≤ 30
  nam : ∀ p ∈ ps, NameOk p.1 ∧ NameOk p.2
  nd : (ps.map (·.1)).Nodup
  pw : (ps.map (·.1)).Pairwise fun a b => leS a b = true
  tgt : ∀ p ∈ ps, p.2 ∈ ps.map (·.1)
theorem bools_str (bs : List Bool) : bools (bs.map .bool) = some bs := by
  have := bools_map id bs
  rw [List.map_id] at this
  exact this
theorem is_pair_ok {p : Str × Str} {h : Hh} (h1 : NameOk p.1) (h2 : NameOk p.2) : m_is_pair [.dat (prT p)] h = some (.dat (.bool true), h) := by
  have e1 := is_name_ok (h := h) h1
  have e2 := is_name_ok (h := h) h2
  have c2 : 2 ≤ sizeLine := by decide
  have lv := leave_same' (h := h) (d := .bool true)
  have l1 : lcL (gN 1) bYes (fA (m_is_name) (fCons (fVar 1) (fNil))) [some (.dat (prT p)), none] [.str p.1, .str p.2] h = some ([.bool true, .bool true], h) := by
    have := lcL_list (k := gN 1) (f := fA (m_is_name) (fCons (fVar 1) (fNil))) (ρ := [some (.dat (prT p)), none]) (h := h) PyData.str (fun _ => PyData.bool true) (xs := [p.1, p.2]) (fun s hs => by
      refine ⟨[some (.dat (prT p)), some (.dat (.str s))], rfl, ?_⟩
      have : m_is_name [.dat (.str s)] h = some (.dat (.bool true), h) := by
        rcases List.mem_cons.mp hs with rfl | hs
        · exact e1
        · rw [List.mem_singleton] at hs; subst hs; exact e2
      simp only [fA, fCons, fNil, fVar, List.getElem?_cons_zero, List.getElem?_cons_succ, obnd, this])
    exact this
  have q : eqW false (.dat (.int ((2 : Nat) : Int))) (.dat (.int 2)) h = some (.dat (.bool true), h) := rfl
  have bb : bools [PyData.bool true, .bool true] = some [true, true] := rfl
  unfold m_is_pair
  unfold prT at l1 ⊢
  clear h1 h2 e1 e2
  walk_at "dl"
  exact lv
theorem is_call_run {ds bs rs : List D} {nm : List D} {b1 b2 b3 : List Bool} {mp : FM} {h : Hh} {n : Nat} (hn : ds.length = n) (n0 : decide ((n : Int) = 0) = false) (hz : ds.length ≤ sizeLine) (e1 : lcL (gN 6) bYes (fA mp (fCons (fVar 6) (fNil))) [some (.dat (.tuple ds)), none, none, none, none, none, none] ds h = some (bs, h)) (lb : bs.length ≤ sizeLine) (q1 : bools bs = some b1) (a1 : b1.all id = true)
    (e2 : lcL (gT 2 (gC (gN 2) (gC (gN 3) (gE)))) bYes (fVar 2) [some (.dat (.tuple ds)), none, none, none, none, none, none] ds h = some (nm, h)) (ln : nm.length ≤ sizeLine) {nt zs : List D} (ct : cutG nm (some 1) none = nt) (ez : zipB (fCons (fVar 1) (fCons (fSl false (fVar 1) (oSome (fC (.int 1))) (oNone)) (fNil))) [some (.dat (.tuple ds)), some (.dat (.list nm)), none, none, none, none, none] h = some (zs, h))
    (e3 : lcL (gT 2 (gC (gN 4) (gC (gN 5) (gE)))) bYes (f2 ge_W (fVar 4) (fVar 5)) [some (.dat (.tuple ds)), some (.dat (.list nm)), none, none, none, none, none] zs h = some (rs, h)) (lr : rs.length ≤ sizeLine) (q2 : bools rs = some b2) (a2 : b2.any id = false)
    {us : List D} (e4 : lcL (gT 2 (gC (gN 2) (gC (gN 3) (gE)))) bYes (f2 (inW false) (fVar 3) (fVar 1)) [some (.dat (.tuple ds)), some (.dat (.list nm)), none, none, none, none, none] ds h = some (us, h)) (lu : us.length ≤ sizeLine) (q3 : bools us = some b3) (a3 : b3.all id = true) :
    (fnM false 1 7 (sSeq (sIf (bOr (bNot (fB (f1 (isiW ["tuple"]) (fVar 0)))) (bOr (fB (f2 (eqW false) (fA lenW (fCons (fVar 0) (fNil))) (fC (.int 0)))) (bNot (fB (fA allW (fCons (fLc false (seqI (fVar 0)) (gN 6) (bYes) (fA mp (fCons (fVar 6) (fNil))) [6]) (fNil))))))) (sRet (fC (.bool false))) (sSkip))
    (sSeq (sAsg (fLc false (seqI (fVar 0)) (gT 2 (gC (gN 2) (gC (gN 3) (gE)))) (bYes) (fVar 2) [2, 3]) (gN 1))
    (sSeq (sIf (fB (fA anyW (fCons (fLc false (zipB (fCons (fVar 1) (fCons (fSl false (fVar 1) (oSome (fC (.int 1))) (oNone)) (fNil)))) (gT 2 (gC (gN 4) (gC (gN 5) (gE)))) (bYes) (f2 ge_W (fVar 4) (fVar 5)) [4, 5]) (fNil)))) (sRet (fC (.bool false))) (sSkip))
    (sRet (fA allW (fCons (fLc false (seqI (fVar 0)) (gT 2 (gC (gN 2) (gC (gN 3) (gE)))) (bYes) (f2 (inW false) (fVar 3) (fVar 1)) [2, 3]) (fNil)))))))) [.dat (.tuple ds)] h = some (.dat (.bool true), h) := by
  have lv := leave_same' (h := h) (d := .bool true)
  have q := eqW_ints (neg := false) (i := (n : Int)) (j := 0) (h := h)
  have ei : zipB (fCons (fVar 1) (fCons (fSl false (fVar 1) (oSome (fC (.int 1))) (oNone)) (fNil))) = fun ρ h' => zipB (fCons (fVar 1) (fCons (fSl false (fVar 1) (oSome (fC (.int 1))) (oNone)) (fNil))) ρ h' := rfl
  generalize zipB (fCons (fVar 1) (fCons (fSl false (fVar 1) (oSome (fC (.int 1))) (oNone)) (fNil))) = ZI at *
  clear ei
  generalize hm : (n : Int) = m at *
  have hn' : (ds.length : Int) = m := by rw [hn]; exact hm
  clear hn hm ct
  walk_at "dl"
theorem is_call_ok {ps : List (Str × Str)} {h : Hh} (g : GoodC ps) : m_is_call [.dat (cT ps)] h = some (.dat (.bool true), h) := by
  have hz : sizeLine = 16777216 := rfl
  have pf := g.few
  have pp := g.pos
  have cd := cut_drop ((ps.map (·.1)).map PyData.str) (k := 1)
  refine is_call_run (mp := m_is_pair) (n := ps.length) (bs := ps.map fun _ => .bool true) (nm := (ps.map (·.1)).map .str) (b1 := ps.map fun _ => true) (nt := ((ps.map (·.1)).map .str).drop 1) (zs := ((ps.map (·.1)).zip ((ps.map (·.1)).drop 1)).map prT) (rs := ((ps.map (·.1)).zip ((ps.map (·.1)).drop 1)).map fun _ => .bool false) (b2 := ((ps.map (·.1)).zip ((ps.map (·.1)).drop 1)).map fun _ => false) (us := ps.map fun _ => .bool true) (b3 := ps.map fun _ => true) (by rw [List.length_map]) (decide_eq_false (by omega)) (by rw [List.length_map]; omega) ?_ (by rw [List.length_map]; omega) ?_ ?_ ?_ (by rw [List.length_map, List.length_map]; omega) cd ?_ ?_ (by rw [List.length_map, List.length_zip, List.length_map]; exact Nat.le_trans (Nat.min_le_left _ _) (by omega)) ?_ ?_ ?_ (by rw [List.length_map]; omega) ?_ ?_
  · refine lcL_list prT _ fun p hp => ⟨_, rfl, ?_⟩
    have := is_pair_ok (h := h) (g.nam p hp).1 (g.nam p hp).2
    exact fA1_run rfl this
  · have := bools_str (ps.map fun _ => true)
    rw [List.map_map] at this
    exact this
  · simp
  · rw [List.map_map]
    exact lcL_list prT _ fun p hp => ⟨[some (.dat (.tuple (ps.map prT))), none, some (.dat (.str p.1)), some (.dat (.str p.2)), none, none, none], rfl, rfl⟩
  · have zd := zipD_map PyData.str PyData.str (ps.map (·.1)) ((ps.map (·.1)).drop 1)
    rw [List.map_drop] at zd
    have : zipB (fCons (fVar 1) (fCons (fSl false (fVar 1) (oSome (fC (.int 1))) (oNone)) (fNil))) [some (.dat (.tuple (ps.map prT))), some (.dat (.list ((ps.map (·.1)).map .str))), none, none, none, none, none] h = some (zipD ((ps.map (·.1)).map .str) (((ps.map (·.1)).map .str).drop 1), h) := zip_strs cd
    rw [this, zd]
  · refine lcL_list prT _ fun p hp => ⟨[some (.dat (.tuple (ps.map prT))), some (.dat (.list ((ps.map (·.1)).map .str))), none, none, some (.dat (.str p.1)), some (.dat (.str p.2)), none], rfl, ?_⟩
    have lt : decide (p.1.cps.toList < p.2.cps.toList) = true := by
      obtain ⟨i, hi, e⟩ := List.getElem_of_mem hp
      rw [List.getElem_zip] at e
      rw [List.length_zip] at hi
      have h1 : i < (ps.map (·.1)).length := by omega
      have h2 : i + 1 < (ps.map (·.1)).length := by rw [List.length_drop] at hi; omega
      have e1 : (ps.map (·.1))[i] = p.1 := congrArg Prod.fst e
      have e2 : (ps.map (·.1))[i + 1] = p.2 := by
        have := congrArg Prod.snd e
        rw [← this]
        simp only [List.getElem_drop]
        congr 1
        omega
      have le := List.pairwise_iff_getElem.mp g.pw i (i + 1) h1 h2 (by omega)
      have ne := List.pairwise_iff_getElem.mp g.nd i (i + 1) h1 h2 (by omega)
      rw [e1, e2] at le ne
      rw [decide_eq_true_eq]
      apply Classical.byContradiction
      intro q
      exact ne (leS_antisymm le (by unfold leS; rw [decide_eq_true_eq]; exact List.not_lt.mp q))
    exact ge_run lt
  · have := bools_str (((ps.map (·.1)).zip ((ps.map (·.1)).drop 1)).map fun _ => false)
    rw [List.map_map] at this
    exact this
  · rw [List.any_map]
    simp
  · refine lcL_list prT _ fun p hp => ⟨[some (.dat (.tuple (ps.map prT))), some (.dat (.list ((ps.map (·.1)).map .str))), some (.dat (.str p.1)), some (.dat (.str p.2)), none, none, none], rfl, ?_⟩
    exact in_run (g.tgt p hp)
  · have := bools_str (ps.map fun _ => true)
    rw [List.map_map] at this
    exact this
  · simp
theorem GoodC.txts {ps : List (Str × Str)} (g : GoodC ps) : Txts (ps.map (·.1)) := fun s hs => by
  obtain ⟨p, hp, rfl⟩ := List.mem_map.mp hs
  exact (g.nam p hp).1.txt
end DL
set_option maxRecDepth 100000
set_option maxHeartbeats 400000
namespace DL
open PySem L2
variable [HW]
local macro_rules | `(tactic| walk_at "dl") => `(tactic| simp (config := { dsimp := false }) only [↓fnM_e, ↓sSeq_e, seqK_nx, seqK_rt, seqK_bk, seqK_ct, retK_rt, retK_nx, ↓sFrz_e, frK_some, ↓sAsg, ↓sRet, ↓sRetN, ↓sIf, ↓sExpr, ↓sSkip, ↓sNever, ↓sPar, ↓sFor, ↓sSub, ↓fVar, ↓fC, ↓fNil, ↓fCons, ↓fA, ↓f1, ↓f2, ↓fB, ↓fIf, ↓fNeg, ↓fNot, ↓fAnd, ↓fOr, ↓bNot, ↓bAnd, ↓bOr, ↓bYes, ↓obnd_x, ob_some, ↓sbnd_x, sb_some, ↓ite_x, iteK_t, iteK_f, gN, gT, gC, gE, ↓rng1I, ↓rng2I, ↓seqI, ↓enumA, ↓zipI, ↓strI, ↓fLc, ↓fDc, ↓fM, ↓fSl, ↓oNone, ↓oSome, ↓fRev, wipeE, ↓kwM, permM, permL, List.foldr, List.length_cons, List.length_nil, List.map_cons, List.map_nil, List.cons_append, List.nil_append, List.replicate, List.replicate_succ, List.replicate_zero, List.getElem?_cons_zero, List.getElem?_cons_succ, List.set_cons_zero, List.set_cons_succ, if_true, if_false, reduceIte, Nat.reduceAdd, Nat.reduceSub, Nat.reduceEqDiff, Nat.reduceLT, Nat.reduceLeDiff, Int.reduceLT, Int.reduceLE, Int.reduceNeg, Int.reduceMul, Int.reduceAdd, Int.reduceSub, Int.reduceToNat, Int.reducePow, Int.reduceEq, ok, bok, deref, mkL, lstW, tupW, dats, Option.map_some, appendW, insertW, setL, isL, listW, tupleW, lenW, absW, intC, maxW, minW, idxW, addW, subW_e, modW_e, divW_e, powW_e, mulW, intW, lt_e, gt_e, le_e, ge_e, ltW, allW_e, anyW_e, sumW_e, lW, setW, lstAt, cutW, backW, isW, isiW, iLT_none, iLT_bool, iLT_int, iLT_str, iLT_list, iLT_tup, iL_none, iL_bool, iL_int, iL_str, iL_list, iL_tup, iT_none, iT_bool, iT_int, iT_str, iT_list, iT_tup, iS_none, iS_bool, iS_int, iS_str, iS_list, iS_tup, iI_none, iI_bool, iI_int, iI_str, iI_list, iI_tup, iB_none, iB_bool, iB_int, iB_str, iB_list, iB_tup, Bool.false_eq_true, reduceCtorEq, Bool.not_true, Bool.not_false, decide_true, decide_false, List.zip_cons_cons, List.zip_nil_left, List.foldl_cons, List.foldl_nil, and_self, and_true, true_and, Bool.and_true, Bool.true_and, Bool.or_true, Bool.true_or, *])
local macro_rules | `(tactic| walk_at "tb") => `(tactic| simp (config := { dsimp := false }) only [↓fFld_e, ↓fMeth_e, ↓fMk_e, fld_n, fld_p, met_leads, met_then, met_times, met_made, met_tells, met_names, ↓fnM_e, ↓sSeq_e, seqK_nx, seqK_rt, seqK_bk, seqK_ct, retK_rt, retK_nx, ↓sFrz_e, frK_some, ↓sAsg, ↓sRet, ↓sRetN, ↓sIf, ↓sExpr, ↓sSkip, ↓sNever, ↓sPar, ↓sFor, ↓sSub, ↓fVar, ↓fC, ↓fNil, ↓fCons, ↓fA, ↓f1, ↓f2, ↓fB, ↓fIf, ↓fNeg, ↓fNot, ↓fAnd, ↓fOr, ↓bNot, ↓bAnd, ↓bOr, ↓bYes, ↓obnd_x, ob_some, ↓sbnd_x, sb_some, ↓ite_x, iteK_t, iteK_f, gN, gT, gC, gE, ↓rng1I, ↓rng2I, ↓seqI, ↓enumA, ↓zipI, ↓strI, ↓fLc, ↓fDc, ↓fM, ↓fSl, ↓oNone, ↓oSome, ↓fRev, wipeE, ↓kwM, permM, permL, List.foldr, List.length_cons, List.length_nil, List.map_cons, List.map_nil, List.cons_append, List.nil_append, List.replicate, List.replicate_succ, List.replicate_zero, List.getElem?_cons_zero, List.getElem?_cons_succ, List.set_cons_zero, List.set_cons_succ, if_true, if_false, reduceIte, Nat.reduceAdd, Nat.reduceSub, Nat.reduceEqDiff, Nat.reduceLT, Nat.reduceLeDiff, Int.reduceLT, Int.reduceLE, Int.reduceNeg, Int.reduceMul, Int.reduceAdd, Int.reduceSub, Int.reduceToNat, Int.reducePow, Int.reduceEq, ok, bok, deref, mkL, lstW, tupW, dats, Option.map_some, appendW, insertW, setL, isL, listW, tupleW, lenW, absW, intC, maxW, minW, idxW, addW, subW_e, modW_e, divW_e, powW_e, mulW, intW, lt_e, gt_e, le_e, ge_e, ltW, allW_e, anyW_e, sumW_e, lW, setW, lstAt, cutW, backW, isW, isiW, iLT_none, iLT_bool, iLT_int, iLT_str, iLT_list, iLT_tup, iL_none, iL_bool, iL_int, iL_str, iL_list, iL_tup, iT_none, iT_bool, iT_int, iT_str, iT_list, iT_tup, iS_none, iS_bool, iS_int, iS_str, iS_list, iS_tup, iI_none, iI_bool, iI_int, iI_str, iI_list, iI_tup, iB_none, iB_bool, iB_int, iB_str, iB_list, iB_tup, Bool.false_eq_true, reduceCtorEq, Bool.not_true, Bool.not_false, decide_true, decide_false, List.zip_cons_cons, List.zip_nil_left, List.foldl_cons, List.foldl_nil, and_self, and_true, true_and, Bool.and_true, Bool.true_and, Bool.or_true, Bool.true_or, *])
end DL
set_option maxRecDepth 100000
set_option maxHeartbeats 400000
namespace DL
open PySem L2
variable [HW]
section
variable {ρ ρ1 ρ2 : DL.Env} {h h1 h2 : Hh}
theorem xN : fNil ρ h = some ([], h) := rfl
theorem xC {E : EM} {g : AM} {w : W} {ws : List W} (he : E ρ h = some (w, h1)) (hg : g ρ h1 = some (ws, h2)) : fCons E g ρ h = some (w :: ws, h2) := by simp only [fCons, obnd, he, hg]
theorem xA {m : FM} {g : AM} {ws : List W} {r : Option (W × Hh)} (hg : g ρ h = some (ws, h1)) (hm : m ws h1 = r) : fA m g ρ h = r := by simp only [fA, obnd, hg, hm]
theorem x2 {f : W → W → Hh → Option (W × Hh)} {A B : EM} {x y : W} {r : Option (W × Hh)} (ha : A ρ h = some (x, h1)) (hb : B ρ h1 = some (y, h2)) (hf : f x y h2 = r) : f2 f A B ρ h = r := by simp only [f2, obnd, ha, hb, hf]
theorem xL {IT : IM} {k : TM} {f : EM} {vs : List Nat} {ds rs : List D} (hi : IT ρ h = some (ds, h1)) (e : lcL k bYes f (wipeE ρ vs) ds h1 = some (rs, h2)) (hl : rs.length ≤ sizeLine) : fLc false IT k bYes f vs ρ h = some (.dat (.list rs), h2) := by
  unfold fLc
  simp only [hi, obnd, e]
  rw [if_pos hl]
  rfl
theorem xS {E : EM} {x : D} {ds : List D} (he : E ρ h = some (.dat x, h1)) (hx : IsSeq x ds) : seqI E ρ h = some (ds, h1) := by
  unfold seqI
  simp only [he, obnd]
  rcases hx with rfl | rfl <;> rfl
theorem xT {E : EM} (he : E ρ h = some (.dat (.bool true), h1)) : bNot (fB E) ρ h = some (false, h1) := by
  unfold bNot fB
  simp only [he, obnd]
  rfl
theorem xAnd {A B : EM} {r : Option (W × Hh)} (ha : A ρ h = some (.dat (.bool true), h1)) (hb : B ρ h1 = r) : fAnd A B ρ h = r := by
  unfold fAnd
  simp only [ha, obnd]
  exact hb
theorem xTup {x : D} {ds : List D} (hx : IsSeq x ds) : tupleW [.dat x] h = some (.dat (.tuple ds), h) := by rcases hx with rfl | rfl <;> rfl
theorem xLst {ws : List W} {ds : List D} (e : dats ws = some ds) (hl : ds.length ≤ sizeLine) : lstW false ws h = some (.dat (.list ds), h) := by
  unfold lstW
  simp only [e, hl, if_true]
  rfl
theorem xTp {ws : List W} {ds : List D} (e : dats ws = some ds) (hl : ds.length ≤ sizeLine) : tupW ws h = some (.dat (.tuple ds), h) := by
  unfold tupW
  simp only [e, hl, if_true]
  rfl
theorem xAdd {a b : List D} (hl : a.length + b.length ≤ sizeLine) : addW false (.dat (.list a)) (.dat (.list b)) h = some (.dat (.list (a ++ b)), h) := by
  unfold addW
  simp only [deref, hl, if_true]
  rfl
theorem zA {E : EM} {k : TM} {rest : SM} {w : W} (he : E ρ h = some (w, h1)) (hk : k w ρ h1 = some ρ1) : sSeq (sAsg E k) rest ρ h = rest ρ1 h1 := by
  unfold sSeq sAsg
  simp only [he, sbnd, hk]
theorem zI {t : BM} {a rest : SM} (ht : t ρ h = some (false, h1)) : sSeq (sIf t a sSkip) rest ρ h = rest ρ h1 := by
  unfold sSeq sIf
  simp only [ht, sbnd, Bool.false_eq_true, if_false, sSkip]
theorem zF {IT : IM} {k : TM} {body rest : SM} {ds : List D} (hi : IT ρ h = some (ds, h1)) (e : forL k body ds ρ h1 = some (.nx ρ2, h2)) : sSeq (sFor IT k body) rest ρ h = rest ρ2 h2 := by
  unfold sSeq sFor
  simp only [hi, sbnd, e]
theorem zP {g : AM} {is : List Nat} {rest : SM} {ws : List W} (hg : g ρ h = some (ws, h1)) (hl : ws.length = is.length) (hr : (is.zip ws).foldl (fun ρ p => ρ.set p.1 (some p.2)) ρ = ρ1) : sSeq (sPar g is) rest ρ h = rest ρ1 h1 := by
  unfold sSeq sPar
  simp only [hg, sbnd, hl, if_true, hr]
theorem zR {E : EM} {w : W} (he : E ρ h = some (w, h1)) : sRet E ρ h = some (.rt w, h1) := by
  unfold sRet
  simp only [he, sbnd]
theorem zZ {i : Nat} {f : SM} (e : frz i ρ h = some (ρ1, h1)) : sFrz i f ρ h = f ρ1 h1 := by
  unfold sFrz
  rw [e]
end
end DL
set_option maxRecDepth 100000
set_option maxHeartbeats 400000
namespace DL
open PySem L2
variable [HW]
local macro_rules | `(tactic| walk_at "dl") => `(tactic| simp (config := { dsimp := false }) only [↓fnM_e, ↓sSeq_e, seqK_nx, seqK_rt, seqK_bk, seqK_ct, retK_rt, retK_nx, ↓sFrz_e, frK_some, ↓sAsg, ↓sRet, ↓sRetN, ↓sIf, ↓sExpr, ↓sSkip, ↓sNever, ↓sPar, ↓sFor, ↓sSub, ↓fVar, ↓fC, ↓fNil, ↓fCons, ↓fA, ↓f1, ↓f2, ↓fB, ↓fIf, ↓fNeg, ↓fNot, ↓fAnd, ↓fOr, ↓bNot, ↓bAnd, ↓bOr, ↓bYes, ↓obnd_x, ob_some, ↓sbnd_x, sb_some, ↓ite_x, iteK_t, iteK_f, gN, gT, gC, gE, ↓rng1I, ↓rng2I, ↓seqI, ↓enumA, ↓zipI, ↓strI, ↓fLc, ↓fDc, ↓fM, ↓fSl, ↓oNone, ↓oSome, ↓fRev, wipeE, ↓kwM, permM, permL, List.foldr, List.length_cons, List.length_nil, List.map_cons, List.map_nil, List.cons_append, List.nil_append, List.replicate, List.replicate_succ, List.replicate_zero, List.getElem?_cons_zero, List.getElem?_cons_succ, List.set_cons_zero, List.set_cons_succ, if_true, if_false, reduceIte, Nat.reduceAdd, Nat.reduceSub, Nat.reduceEqDiff, Nat.reduceLT, Nat.reduceLeDiff, Int.reduceLT, Int.reduceLE, Int.reduceNeg, Int.reduceMul, Int.reduceAdd, Int.reduceSub, Int.reduceToNat, Int.reducePow, Int.reduceEq, ok, bok, deref, mkL, lstW, tupW, dats, Option.map_some, appendW, insertW, setL, isL, listW, tupleW, lenW, absW, intC, maxW, minW, idxW, addW, subW_e, modW_e, divW_e, powW_e, mulW, intW, lt_e, gt_e, le_e, ge_e, ltW, allW_e, anyW_e, sumW_e, lW, setW, lstAt, cutW, backW, isW, isiW, iLT_none, iLT_bool, iLT_int, iLT_str, iLT_list, iLT_tup, iL_none, iL_bool, iL_int, iL_str, iL_list, iL_tup, iT_none, iT_bool, iT_int, iT_str, iT_list, iT_tup, iS_none, iS_bool, iS_int, iS_str, iS_list, iS_tup, iI_none, iI_bool, iI_int, iI_str, iI_list, iI_tup, iB_none, iB_bool, iB_int, iB_str, iB_list, iB_tup, Bool.false_eq_true, reduceCtorEq, Bool.not_true, Bool.not_false, decide_true, decide_false, List.zip_cons_cons, List.zip_nil_left, List.foldl_cons, List.foldl_nil, and_self, and_true, true_and, Bool.and_true, Bool.true_and, Bool.or_true, Bool.true_or, *])
end DL
set_option maxRecDepth 100000
set_option maxHeartbeats 400000
namespace DL
open PySem L2
variable [HW]
local macro_rules | `(tactic| walk_at "dl") => `(tactic| simp (config := { dsimp := false }) only [↓fnM_e, ↓sSeq_e, seqK_nx, seqK_rt, seqK_bk, seqK_ct, retK_rt, retK_nx, ↓sFrz_e, frK_some, ↓sAsg, ↓sRet, ↓sRetN, ↓sIf, ↓sExpr, ↓sSkip, ↓sNever, ↓sPar, ↓sFor, ↓sSub, ↓fVar, ↓fC, ↓fNil, ↓fCons, ↓fA, ↓f1, ↓f2, ↓fB, ↓fIf, ↓fNeg, ↓fNot, ↓fAnd, ↓fOr, ↓bNot, ↓bAnd, ↓bOr, ↓bYes, ↓obnd_x, ob_some, ↓sbnd_x, sb_some, ↓ite_x, iteK_t, iteK_f, gN, gT, gC, gE, ↓rng1I, ↓rng2I, ↓seqI, ↓enumA, ↓zipI, ↓strI, ↓fLc, ↓fDc, ↓fM, ↓fSl, ↓oNone, ↓oSome, ↓fRev, wipeE, ↓kwM, permM, permL, List.foldr, List.length_cons, List.length_nil, List.map_cons, List.map_nil, List.cons_append, List.nil_append, List.replicate, List.replicate_succ, List.replicate_zero, List.getElem?_cons_zero, List.getElem?_cons_succ, List.set_cons_zero, List.set_cons_succ, if_true, if_false, reduceIte, Nat.reduceAdd, Nat.reduceSub, Nat.reduceEqDiff, Nat.reduceLT, Nat.reduceLeDiff, Int.reduceLT, Int.reduceLE, Int.reduceNeg, Int.reduceMul, Int.reduceAdd, Int.reduceSub, Int.reduceToNat, Int.reducePow, Int.reduceEq, ok, bok, deref, mkL, lstW, tupW, dats, Option.map_some, appendW, insertW, setL, isL, listW, tupleW, lenW, absW, intC, maxW, minW, idxW, addW, subW_e, modW_e, divW_e, powW_e, mulW, intW, lt_e, gt_e, le_e, ge_e, ltW, allW_e, anyW_e, sumW_e, lW, setW, lstAt, cutW, backW, isW, isiW, iLT_none, iLT_bool, iLT_int, iLT_str, iLT_list, iLT_tup, iL_none, iL_bool, iL_int, iL_str, iL_list, iL_tup, iT_none, iT_bool, iT_int, iT_str, iT_list, iT_tup, iS_none, iS_bool, iS_int, iS_str, iS_list, iS_tup, iI_none, iI_bool, iI_int, iI_str, iI_list, iI_tup, iB_none, iB_bool, iB_int, iB_str, iB_list, iB_tup, Bool.false_eq_true, reduceCtorEq, Bool.not_true, Bool.not_false, decide_true, decide_false, List.zip_cons_cons, List.zip_nil_left, List.foldl_cons, List.foldl_nil, and_self, and_true, true_and, Bool.and_true, Bool.true_and, Bool.or_true, Bool.true_or, *])
local macro_rules | `(tactic| walk_at "tg") => `(tactic| simp (config := { dsimp := false }) only [divBW_e, ↓fFld_e, ↓fMeth_e, ↓fMk_e, fld_n, fld_p, met_leads, met_then, met_times, met_made, met_tells, met_names, ↓fnM_e, ↓sSeq_e, seqK_nx, seqK_rt, seqK_bk, seqK_ct, retK_rt, retK_nx, ↓sFrz_e, frK_some, ↓sAsg, ↓sRet, ↓sRetN, ↓sIf, ↓sExpr, ↓sSkip, ↓sNever, ↓sPar, ↓sFor, ↓sSub, ↓fVar, ↓fC, ↓fNil, ↓fCons, ↓fA, ↓f1, ↓f2, ↓fB, ↓fIf, ↓fNeg, ↓fNot, ↓fAnd, ↓fOr, ↓bNot, ↓bAnd, ↓bOr, ↓bYes, ↓obnd_x, ob_some, ↓sbnd_x, sb_some, ↓ite_x, iteK_t, iteK_f, gN, gT, gC, gE, ↓rng1I, ↓rng2I, ↓seqI, ↓enumA, ↓zipI, ↓strI, ↓fLc, ↓fDc, ↓fM, ↓fSl, ↓oNone, ↓oSome, ↓fRev, wipeE, ↓kwM, permM, permL, List.foldr, List.length_cons, List.length_nil, List.map_cons, List.map_nil, List.cons_append, List.nil_append, List.replicate, List.replicate_succ, List.replicate_zero, List.getElem?_cons_zero, List.getElem?_cons_succ, List.set_cons_zero, List.set_cons_succ, if_true, if_false, reduceIte, Nat.reduceAdd, Nat.reduceSub, Nat.reduceEqDiff, Nat.reduceLT, Nat.reduceLeDiff, Int.reduceLT, Int.reduceLE, Int.reduceNeg, Int.reduceMul, Int.reduceAdd, Int.reduceSub, Int.reduceToNat, Int.reducePow, Int.reduceEq, ok, bok, deref, mkL, lstW, tupW, dats, Option.map_some, appendW, insertW, setL, isL, listW, tupleW, lenW, absW, intC, maxW, minW, idxW, addW, subW_e, modW_e, divW_e, powW_e, mulW, intW, lt_e, gt_e, le_e, ge_e, ltW, allW_e, anyW_e, sumW_e, lW, setW, lstAt, cutW, backW, isW, isiW, iLT_none, iLT_bool, iLT_int, iLT_str, iLT_list, iLT_tup, iL_none, iL_bool, iL_int, iL_str, iL_list, iL_tup, iT_none, iT_bool, iT_int, iT_str, iT_list, iT_tup, iS_none, iS_bool, iS_int, iS_str, iS_list, iS_tup, iI_none, iI_bool, iI_int, iI_str, iI_list, iI_tup, iB_none, iB_bool, iB_int, iB_str, iB_list, iB_tup, Bool.false_eq_true, reduceCtorEq, Bool.not_true, Bool.not_false, decide_true, decide_false, List.zip_cons_cons, List.zip_nil_left, List.foldl_cons, List.foldl_nil, and_self, and_true, true_and, Bool.and_true, Bool.true_and, Bool.or_true, Bool.true_or, *])
end DL
set_option maxRecDepth 100000
set_option maxHeartbeats 400000
namespace DL
open PySem L2
variable [HW]
local macro_rules | `(tactic| walk_at "dl") => `(tactic| simp (config := { dsimp := false }) only [↓fnM_e, ↓sSeq_e, seqK_nx, seqK_rt, seqK_bk, seqK_ct, retK_rt, retK_nx, ↓sFrz_e, frK_some, ↓sAsg, ↓sRet, ↓sRetN, ↓sIf, ↓sExpr, ↓sSkip, ↓sNever, ↓sPar, ↓sFor, ↓sSub, ↓fVar, ↓fC, ↓fNil, ↓fCons, ↓fA, ↓f1, ↓f2, ↓fB, ↓fIf, ↓fNeg, ↓fNot, ↓fAnd, ↓fOr, ↓bNot, ↓bAnd, ↓bOr, ↓bYes, ↓obnd_x, ob_some, ↓sbnd_x, sb_some, ↓ite_x, iteK_t, iteK_f, gN, gT, gC, gE, ↓rng1I, ↓rng2I, ↓seqI, ↓enumA, ↓zipI, ↓strI, ↓fLc, ↓fDc, ↓fM, ↓fSl, ↓oNone, ↓oSome, ↓fRev, wipeE, ↓kwM, permM, permL, List.foldr, List.length_cons, List.length_nil, List.map_cons, List.map_nil, List.cons_append, List.nil_append, List.replicate, List.replicate_succ, List.replicate_zero, List.getElem?_cons_zero, List.getElem?_cons_succ, List.set_cons_zero, List.set_cons_succ, if_true, if_false, reduceIte, Nat.reduceAdd, Nat.reduceSub, Nat.reduceEqDiff, Nat.reduceLT, Nat.reduceLeDiff, Int.reduceLT, Int.reduceLE, Int.reduceNeg, Int.reduceMul, Int.reduceAdd, Int.reduceSub, Int.reduceToNat, Int.reducePow, Int.reduceEq, ok, bok, deref, mkL, lstW, tupW, dats, Option.map_some, appendW, insertW, setL, isL, listW, tupleW, lenW, absW, intC, maxW, minW, idxW, addW, subW_e, modW_e, divW_e, powW_e, mulW, intW, lt_e, gt_e, le_e, ge_e, ltW, allW_e, anyW_e, sumW_e, lW, setW, lstAt, cutW, backW, isW, isiW, iLT_none, iLT_bool, iLT_int, iLT_str, iLT_list, iLT_tup, iL_none, iL_bool, iL_int, iL_str, iL_list, iL_tup, iT_none, iT_bool, iT_int, iT_str, iT_list, iT_tup, iS_none, iS_bool, iS_int, iS_str, iS_list, iS_tup, iI_none, iI_bool, iI_int, iI_str, iI_list, iI_tup, iB_none, iB_bool, iB_int, iB_str, iB_list, iB_tup, Bool.false_eq_true, reduceCtorEq, Bool.not_true, Bool.not_false, decide_true, decide_false, List.zip_cons_cons, List.zip_nil_left, List.foldl_cons, List.foldl_nil, and_self, and_true, true_and, Bool.and_true, Bool.true_and, Bool.or_true, Bool.true_or, *])
end DL
set_option maxRecDepth 100000
set_option maxHeartbeats 400000
namespace DL
open PySem L2
variable [HW]
local macro_rules | `(tactic| walk_at "dl") => `(tactic| simp (config := { dsimp := false }) only [↓fnM_e, ↓sSeq_e, seqK_nx, seqK_rt, seqK_bk, seqK_ct, retK_rt, retK_nx, ↓sFrz_e, frK_some, ↓sAsg, ↓sRet, ↓sRetN, ↓sIf, ↓sExpr, ↓sSkip, ↓sNever, ↓sPar, ↓sFor, ↓sSub, ↓fVar, ↓fC, ↓fNil, ↓fCons, ↓fA, ↓f1, ↓f2, ↓fB, ↓fIf, ↓fNeg, ↓fNot, ↓fAnd, ↓fOr, ↓bNot, ↓bAnd, ↓bOr, ↓bYes, ↓obnd_x, ob_some, ↓sbnd_x, sb_some, ↓ite_x, iteK_t, iteK_f, gN, gT, gC, gE, ↓rng1I, ↓rng2I, ↓seqI, ↓enumA, ↓zipI, ↓strI, ↓fLc, ↓fDc, ↓fM, ↓fSl, ↓oNone, ↓oSome, ↓fRev, wipeE, ↓kwM, permM, permL, List.foldr, List.length_cons, List.length_nil, List.map_cons, List.map_nil, List.cons_append, List.nil_append, List.replicate, List.replicate_succ, List.replicate_zero, List.getElem?_cons_zero, List.getElem?_cons_succ, List.set_cons_zero, List.set_cons_succ, if_true, if_false, reduceIte, Nat.reduceAdd, Nat.reduceSub, Nat.reduceEqDiff, Nat.reduceLT, Nat.reduceLeDiff, Int.reduceLT, Int.reduceLE, Int.reduceNeg, Int.reduceMul, Int.reduceAdd, Int.reduceSub, Int.reduceToNat, Int.reducePow, Int.reduceEq, ok, bok, deref, mkL, lstW, tupW, dats, Option.map_some, appendW, insertW, setL, isL, listW, tupleW, lenW, absW, intC, maxW, minW, idxW, addW, subW_e, modW_e, divW_e, powW_e, mulW, intW, lt_e, gt_e, le_e, ge_e, ltW, allW_e, anyW_e, sumW_e, lW, setW, lstAt, cutW, backW, isW, isiW, iLT_none, iLT_bool, iLT_int, iLT_str, iLT_list, iLT_tup, iL_none, iL_bool, iL_int, iL_str, iL_list, iL_tup, iT_none, iT_bool, iT_int, iT_str, iT_list, iT_tup, iS_none, iS_bool, iS_int, iS_str, iS_list, iS_tup, iI_none, iI_bool, iI_int, iI_str, iI_list, iI_tup, iB_none, iB_bool, iB_int, iB_str, iB_list, iB_tup, Bool.false_eq_true, reduceCtorEq, Bool.not_true, Bool.not_false, decide_true, decide_false, List.zip_cons_cons, List.zip_nil_left, List.foldl_cons, List.foldl_nil, and_self, and_true, true_and, Bool.and_true, Bool.true_and, Bool.or_true, Bool.true_or, *])
def EvP (t : Nat → Bool) (a k : Nat) : Prop := ∀ n, a ≤ n → t (n + k) = t n
theorem EvP.mono {t : Nat → Bool} {a b k : Nat} (h : EvP t a k) (q : a ≤ b) : EvP t b k := fun n hn => h n (by omega)
end DL
set_option maxRecDepth 100000
set_option maxHeartbeats 400000
namespace DL
open PySem L2
variable [HW]
local macro_rules | `(tactic| walk_at "dl") => `(tactic| simp (config := { dsimp := false }) only [↓fnM_e, ↓sSeq_e, seqK_nx, seqK_rt, seqK_bk, seqK_ct, retK_rt, retK_nx, ↓sFrz_e, frK_some, ↓sAsg, ↓sRet, ↓sRetN, ↓sIf, ↓sExpr, ↓sSkip, ↓sNever, ↓sPar, ↓sFor, ↓sSub, ↓fVar, ↓fC, ↓fNil, ↓fCons, ↓fA, ↓f1, ↓f2, ↓fB, ↓fIf, ↓fNeg, ↓fNot, ↓fAnd, ↓fOr, ↓bNot, ↓bAnd, ↓bOr, ↓bYes, ↓obnd_x, ob_some, ↓sbnd_x, sb_some, ↓ite_x, iteK_t, iteK_f, gN, gT, gC, gE, ↓rng1I, ↓rng2I, ↓seqI, ↓enumA, ↓zipI, ↓strI, ↓fLc, ↓fDc, ↓fM, ↓fSl, ↓oNone, ↓oSome, ↓fRev, wipeE, ↓kwM, permM, permL, List.foldr, List.length_cons, List.length_nil, List.map_cons, List.map_nil, List.cons_append, List.nil_append, List.replicate, List.replicate_succ, List.replicate_zero, List.getElem?_cons_zero, List.getElem?_cons_succ, List.set_cons_zero, List.set_cons_succ, if_true, if_false, reduceIte, Nat.reduceAdd, Nat.reduceSub, Nat.reduceEqDiff, Nat.reduceLT, Nat.reduceLeDiff, Int.reduceLT, Int.reduceLE, Int.reduceNeg, Int.reduceMul, Int.reduceAdd, Int.reduceSub, Int.reduceToNat, Int.reducePow, Int.reduceEq, ok, bok, deref, mkL, lstW, tupW, dats, Option.map_some, appendW, insertW, setL, isL, listW, tupleW, lenW, absW, intC, maxW, minW, idxW, addW, subW_e, modW_e, divW_e, powW_e, mulW, intW, lt_e, gt_e, le_e, ge_e, ltW, allW_e, anyW_e, sumW_e, lW, setW, lstAt, cutW, backW, isW, isiW, iLT_none, iLT_bool, iLT_int, iLT_str, iLT_list, iLT_tup, iL_none, iL_bool, iL_int, iL_str, iL_list, iL_tup, iT_none, iT_bool, iT_int, iT_str, iT_list, iT_tup, iS_none, iS_bool, iS_int, iS_str, iS_list, iS_tup, iI_none, iI_bool, iI_int, iI_str, iI_list, iI_tup, iB_none, iB_bool, iB_int, iB_str, iB_list, iB_tup, Bool.false_eq_true, reduceCtorEq, Bool.not_true, Bool.not_false, decide_true, decide_false, List.zip_cons_cons, List.zip_nil_left, List.foldl_cons, List.foldl_nil, and_self, and_true, true_and, Bool.and_true, Bool.true_and, Bool.or_true, Bool.true_or, *])
end DL
set_option maxRecDepth 100000
set_option maxHeartbeats 400000
namespace DL
open PySem L2
variable [HW]
local macro_rules | `(tactic| walk_at "dl") => `(tactic| simp (config := { dsimp := false }) only [↓fnM_e, ↓sSeq_e, seqK_nx, seqK_rt, seqK_bk, seqK_ct, retK_rt, retK_nx, ↓sFrz_e, frK_some, ↓sAsg, ↓sRet, ↓sRetN, ↓sIf, ↓sExpr, ↓sSkip, ↓sNever, ↓sPar, ↓sFor, ↓sSub, ↓fVar, ↓fC, ↓fNil, ↓fCons, ↓fA, ↓f1, ↓f2, ↓fB, ↓fIf, ↓fNeg, ↓fNot, ↓fAnd, ↓fOr, ↓bNot, ↓bAnd, ↓bOr, ↓bYes, ↓obnd_x, ob_some, ↓sbnd_x, sb_some, ↓ite_x, iteK_t, iteK_f, gN, gT, gC, gE, ↓rng1I, ↓rng2I, ↓seqI, ↓enumA, ↓zipI, ↓strI, ↓fLc, ↓fDc, ↓fM, ↓fSl, ↓oNone, ↓oSome, ↓fRev, wipeE, ↓kwM, permM, permL, List.foldr, List.length_cons, List.length_nil, List.map_cons, List.map_nil, List.cons_append, List.nil_append, List.replicate, List.replicate_succ, List.replicate_zero, List.getElem?_cons_zero, List.getElem?_cons_succ, List.set_cons_zero, List.set_cons_succ, if_true, if_false, reduceIte, Nat.reduceAdd, Nat.reduceSub, Nat.reduceEqDiff, Nat.reduceLT, Nat.reduceLeDiff, Int.reduceLT, Int.reduceLE, Int.reduceNeg, Int.reduceMul, Int.reduceAdd, Int.reduceSub, Int.reduceToNat, Int.reducePow, Int.reduceEq, ok, bok, deref, mkL, lstW, tupW, dats, Option.map_some, appendW, insertW, setL, isL, listW, tupleW, lenW, absW, intC, maxW, minW, idxW, addW, subW_e, modW_e, divW_e, powW_e, mulW, intW, lt_e, gt_e, le_e, ge_e, ltW, allW_e, anyW_e, sumW_e, lW, setW, lstAt, cutW, backW, isW, isiW, iLT_none, iLT_bool, iLT_int, iLT_str, iLT_list, iLT_tup, iL_none, iL_bool, iL_int, iL_str, iL_list, iL_tup, iT_none, iT_bool, iT_int, iT_str, iT_list, iT_tup, iS_none, iS_bool, iS_int, iS_str, iS_list, iS_tup, iI_none, iI_bool, iI_int, iI_str, iI_list, iI_tup, iB_none, iB_bool, iB_int, iB_str, iB_list, iB_tup, Bool.false_eq_true, reduceCtorEq, Bool.not_true, Bool.not_false, decide_true, decide_false, List.zip_cons_cons, List.zip_nil_left, List.foldl_cons, List.foldl_nil, and_self, and_true, true_and, Bool.and_true, Bool.true_and, Bool.or_true, Bool.true_or, *])
end DL
set_option maxRecDepth 100000
set_option maxHeartbeats 400000
namespace DL
open PySem L2
variable [HW]
local macro_rules | `(tactic| walk_at "dl") => `(tactic| simp (config := { dsimp := false }) only [↓fnM_e, ↓sSeq_e, seqK_nx, seqK_rt, seqK_bk, seqK_ct, retK_rt, retK_nx, ↓sFrz_e, frK_some, ↓sAsg, ↓sRet, ↓sRetN, ↓sIf, ↓sExpr, ↓sSkip, ↓sNever, ↓sPar, ↓sFor, ↓sSub, ↓fVar, ↓fC, ↓fNil, ↓fCons, ↓fA, ↓f1, ↓f2, ↓fB, ↓fIf, ↓fNeg, ↓fNot, ↓fAnd, ↓fOr, ↓bNot, ↓bAnd, ↓bOr, ↓bYes, ↓obnd_x, ob_some, ↓sbnd_x, sb_some, ↓ite_x, iteK_t, iteK_f, gN, gT, gC, gE, ↓rng1I, ↓rng2I, ↓seqI, ↓enumA, ↓zipI, ↓strI, ↓fLc, ↓fDc, ↓fM, ↓fSl, ↓oNone, ↓oSome, ↓fRev, wipeE, ↓kwM, permM, permL, List.foldr, List.length_cons, List.length_nil, List.map_cons, List.map_nil, List.cons_append, List.nil_append, List.replicate, List.replicate_succ, List.replicate_zero, List.getElem?_cons_zero, List.getElem?_cons_succ, List.set_cons_zero, List.set_cons_succ, if_true, if_false, reduceIte, Nat.reduceAdd, Nat.reduceSub, Nat.reduceEqDiff, Nat.reduceLT, Nat.reduceLeDiff, Int.reduceLT, Int.reduceLE, Int.reduceNeg, Int.reduceMul, Int.reduceAdd, Int.reduceSub, Int.reduceToNat, Int.reducePow, Int.reduceEq, ok, bok, deref, mkL, lstW, tupW, dats, Option.map_some, appendW, insertW, setL, isL, listW, tupleW, lenW, absW, intC, maxW, minW, idxW, addW, subW_e, modW_e, divW_e, powW_e, mulW, intW, lt_e, gt_e, le_e, ge_e, ltW, allW_e, anyW_e, sumW_e, lW, setW, lstAt, cutW, backW, isW, isiW, iLT_none, iLT_bool, iLT_int, iLT_str, iLT_list, iLT_tup, iL_none, iL_bool, iL_int, iL_str, iL_list, iL_tup, iT_none, iT_bool, iT_int, iT_str, iT_list, iT_tup, iS_none, iS_bool, iS_int, iS_str, iS_list, iS_tup, iI_none, iI_bool, iI_int, iI_str, iI_list, iI_tup, iB_none, iB_bool, iB_int, iB_str, iB_list, iB_tup, Bool.false_eq_true, reduceCtorEq, Bool.not_true, Bool.not_false, decide_true, decide_false, List.zip_cons_cons, List.zip_nil_left, List.foldl_cons, List.foldl_nil, and_self, and_true, true_and, Bool.and_true, Bool.true_and, Bool.or_true, Bool.true_or, *])
def tl (t : Nat → Bool) (a n : Nat) : List Bool := (List.range n).map fun s => t (a + s)
end DL
set_option maxRecDepth 100000
set_option maxHeartbeats 400000
namespace DL
open PySem L2
variable [HW]
end DL
set_option maxRecDepth 100000
set_option maxHeartbeats 400000
namespace DL
open PySem L2
variable [HW]
local macro_rules | `(tactic| walk_at "dl") => `(tactic| simp (config := { dsimp := false }) only [↓fnM_e, ↓sSeq_e, seqK_nx, seqK_rt, seqK_bk, seqK_ct, retK_rt, retK_nx, ↓sFrz_e, frK_some, ↓sAsg, ↓sRet, ↓sRetN, ↓sIf, ↓sExpr, ↓sSkip, ↓sNever, ↓sPar, ↓sFor, ↓sSub, ↓fVar, ↓fC, ↓fNil, ↓fCons, ↓fA, ↓f1, ↓f2, ↓fB, ↓fIf, ↓fNeg, ↓fNot, ↓fAnd, ↓fOr, ↓bNot, ↓bAnd, ↓bOr, ↓bYes, ↓obnd_x, ob_some, ↓sbnd_x, sb_some, ↓ite_x, iteK_t, iteK_f, gN, gT, gC, gE, ↓rng1I, ↓rng2I, ↓seqI, ↓enumA, ↓zipI, ↓strI, ↓fLc, ↓fDc, ↓fM, ↓fSl, ↓oNone, ↓oSome, ↓fRev, wipeE, ↓kwM, permM, permL, List.foldr, List.length_cons, List.length_nil, List.map_cons, List.map_nil, List.cons_append, List.nil_append, List.replicate, List.replicate_succ, List.replicate_zero, List.getElem?_cons_zero, List.getElem?_cons_succ, List.set_cons_zero, List.set_cons_succ, if_true, if_false, reduceIte, Nat.reduceAdd, Nat.reduceSub, Nat.reduceEqDiff, Nat.reduceLT, Nat.reduceLeDiff, Int.reduceLT, Int.reduceLE, Int.reduceNeg, Int.reduceMul, Int.reduceAdd, Int.reduceSub, Int.reduceToNat, Int.reducePow, Int.reduceEq, ok, bok, deref, mkL, lstW, tupW, dats, Option.map_some, appendW, insertW, setL, isL, listW, tupleW, lenW, absW, intC, maxW, minW, idxW, addW, subW_e, modW_e, divW_e, powW_e, mulW, intW, lt_e, gt_e, le_e, ge_e, ltW, allW_e, anyW_e, sumW_e, lW, setW, lstAt, cutW, backW, isW, isiW, iLT_none, iLT_bool, iLT_int, iLT_str, iLT_list, iLT_tup, iL_none, iL_bool, iL_int, iL_str, iL_list, iL_tup, iT_none, iT_bool, iT_int, iT_str, iT_list, iT_tup, iS_none, iS_bool, iS_int, iS_str, iS_list, iS_tup, iI_none, iI_bool, iI_int, iI_str, iI_list, iI_tup, iB_none, iB_bool, iB_int, iB_str, iB_list, iB_tup, Bool.false_eq_true, reduceCtorEq, Bool.not_true, Bool.not_false, decide_true, decide_false, List.zip_cons_cons, List.zip_nil_left, List.foldl_cons, List.foldl_nil, and_self, and_true, true_and, Bool.and_true, Bool.true_and, Bool.or_true, Bool.true_or, *])
local macro_rules | `(tactic| walk_at "tb") => `(tactic| simp (config := { dsimp := false }) only [↓fFld_e, ↓fMeth_e, ↓fMk_e, fld_n, fld_p, met_leads, met_then, met_times, met_made, met_tells, met_names, ↓fnM_e, ↓sSeq_e, seqK_nx, seqK_rt, seqK_bk, seqK_ct, retK_rt, retK_nx, ↓sFrz_e, frK_some, ↓sAsg, ↓sRet, ↓sRetN, ↓sIf, ↓sExpr, ↓sSkip, ↓sNever, ↓sPar, ↓sFor, ↓sSub, ↓fVar, ↓fC, ↓fNil, ↓fCons, ↓fA, ↓f1, ↓f2, ↓fB, ↓fIf, ↓fNeg, ↓fNot, ↓fAnd, ↓fOr, ↓bNot, ↓bAnd, ↓bOr, ↓bYes, ↓obnd_x, ob_some, ↓sbnd_x, sb_some, ↓ite_x, iteK_t, iteK_f, gN, gT, gC, gE, ↓rng1I, ↓rng2I, ↓seqI, ↓enumA, ↓zipI, ↓strI, ↓fLc, ↓fDc, ↓fM, ↓fSl, ↓oNone, ↓oSome, ↓fRev, wipeE, ↓kwM, permM, permL, List.foldr, List.length_cons, List.length_nil, List.map_cons, List.map_nil, List.cons_append, List.nil_append, List.replicate, List.replicate_succ, List.replicate_zero, List.getElem?_cons_zero, List.getElem?_cons_succ, List.set_cons_zero, List.set_cons_succ, if_true, if_false, reduceIte, Nat.reduceAdd, Nat.reduceSub, Nat.reduceEqDiff, Nat.reduceLT, Nat.reduceLeDiff, Int.reduceLT, Int.reduceLE, Int.reduceNeg, Int.reduceMul, Int.reduceAdd, Int.reduceSub, Int.reduceToNat, Int.reducePow, Int.reduceEq, ok, bok, deref, mkL, lstW, tupW, dats, Option.map_some, appendW, insertW, setL, isL, listW, tupleW, lenW, absW, intC, maxW, minW, idxW, addW, subW_e, modW_e, divW_e, powW_e, mulW, intW, lt_e, gt_e, le_e, ge_e, ltW, allW_e, anyW_e, sumW_e, lW, setW, lstAt, cutW, backW, isW, isiW, iLT_none, iLT_bool, iLT_int, iLT_str, iLT_list, iLT_tup, iL_none, iL_bool, iL_int, iL_str, iL_list, iL_tup, iT_none, iT_bool, iT_int, iT_str, iT_list, iT_tup, iS_none, iS_bool, iS_int, iS_str, iS_list, iS_tup, iI_none, iI_bool, iI_int, iI_str, iI_list, iI_tup, iB_none, iB_bool, iB_int, iB_str, iB_list, iB_tup, Bool.false_eq_true, reduceCtorEq, Bool.not_true, Bool.not_false, decide_true, decide_false, List.zip_cons_cons, List.zip_nil_left, List.foldl_cons, List.foldl_nil, and_self, and_true, true_and, Bool.and_true, Bool.true_and, Bool.or_true, Bool.true_or, *])
end DL
set_option maxRecDepth 100000
set_option maxHeartbeats 400000
namespace DL
open PySem L2
variable [HW]
local macro_rules | `(tactic| walk_at "tb") => `(tactic| simp (config := { dsimp := false }) only [↓fFld_e, ↓fMeth_e, ↓fMk_e, fld_n, fld_p, met_leads, met_then, met_times, met_made, met_tells, met_names, ↓fnM_e, ↓sSeq_e, seqK_nx, seqK_rt, seqK_bk, seqK_ct, retK_rt, retK_nx, ↓sFrz_e, frK_some, ↓sAsg, ↓sRet, ↓sRetN, ↓sIf, ↓sExpr, ↓sSkip, ↓sNever, ↓sPar, ↓sFor, ↓sSub, ↓fVar, ↓fC, ↓fNil, ↓fCons, ↓fA, ↓f1, ↓f2, ↓fB, ↓fIf, ↓fNeg, ↓fNot, ↓fAnd, ↓fOr, ↓bNot, ↓bAnd, ↓bOr, ↓bYes, ↓obnd_x, ob_some, ↓sbnd_x, sb_some, ↓ite_x, iteK_t, iteK_f, gN, gT, gC, gE, ↓rng1I, ↓rng2I, ↓seqI, ↓enumA, ↓zipI, ↓strI, ↓fLc, ↓fDc, ↓fM, ↓fSl, ↓oNone, ↓oSome, ↓fRev, wipeE, ↓kwM, permM, permL, List.foldr, List.length_cons, List.length_nil, List.map_cons, List.map_nil, List.cons_append, List.nil_append, List.replicate, List.replicate_succ, List.replicate_zero, List.getElem?_cons_zero, List.getElem?_cons_succ, List.set_cons_zero, List.set_cons_succ, if_true, if_false, reduceIte, Nat.reduceAdd, Nat.reduceSub, Nat.reduceEqDiff, Nat.reduceLT, Nat.reduceLeDiff, Int.reduceLT, Int.reduceLE, Int.reduceNeg, Int.reduceMul, Int.reduceAdd, Int.reduceSub, Int.reduceToNat, Int.reducePow, Int.reduceEq, ok, bok, deref, mkL, lstW, tupW, dats, Option.map_some, appendW, insertW, setL, isL, listW, tupleW, lenW, absW, intC, maxW, minW, idxW, addW, subW_e, modW_e, divW_e, powW_e, mulW, intW, lt_e, gt_e, le_e, ge_e, ltW, allW_e, anyW_e, sumW_e, lW, setW, lstAt, cutW, backW, isW, isiW, iLT_none, iLT_bool, iLT_int, iLT_str, iLT_list, iLT_tup, iL_none, iL_bool, iL_int, iL_str, iL_list, iL_tup, iT_none, iT_bool, iT_int, iT_str, iT_list, iT_tup, iS_none, iS_bool, iS_int, iS_str, iS_list, iS_tup, iI_none, iI_bool, iI_int, iI_str, iI_list, iI_tup, iB_none, iB_bool, iB_int, iB_str, iB_list, iB_tup, Bool.false_eq_true, reduceCtorEq, Bool.not_true, Bool.not_false, decide_true, decide_false, List.zip_cons_cons, List.zip_nil_left, List.foldl_cons, List.foldl_nil, and_self, and_true, true_and, Bool.and_true, Bool.true_and, Bool.or_true, Bool.true_or, *])
end DL
set_option maxRecDepth 100000
set_option maxHeartbeats 400000
namespace DL
open PySem L2
variable [HW]
local macro_rules | `(tactic| walk_at "dl") => `(tactic| simp (config := { dsimp := false }) only [↓fnM_e, ↓sSeq_e, seqK_nx, seqK_rt, seqK_bk, seqK_ct, retK_rt, retK_nx, ↓sFrz_e, frK_some, ↓sAsg, ↓sRet, ↓sRetN, ↓sIf, ↓sExpr, ↓sSkip, ↓sNever, ↓sPar, ↓sFor, ↓sSub, ↓fVar, ↓fC, ↓fNil, ↓fCons, ↓fA, ↓f1, ↓f2, ↓fB, ↓fIf, ↓fNeg, ↓fNot, ↓fAnd, ↓fOr, ↓bNot, ↓bAnd, ↓bOr, ↓bYes, ↓obnd_x, ob_some, ↓sbnd_x, sb_some, ↓ite_x, iteK_t, iteK_f, gN, gT, gC, gE, ↓rng1I, ↓rng2I, ↓seqI, ↓enumA, ↓zipI, ↓strI, ↓fLc, ↓fDc, ↓fM, ↓fSl, ↓oNone, ↓oSome, ↓fRev, wipeE, ↓kwM, permM, permL, List.foldr, List.length_cons, List.length_nil, List.map_cons, List.map_nil, List.cons_append, List.nil_append, List.replicate, List.replicate_succ, List.replicate_zero, List.getElem?_cons_zero, List.getElem?_cons_succ, List.set_cons_zero, List.set_cons_succ, if_true, if_false, reduceIte, Nat.reduceAdd, Nat.reduceSub, Nat.reduceEqDiff, Nat.reduceLT, Nat.reduceLeDiff, Int.reduceLT, Int.reduceLE, Int.reduceNeg, Int.reduceMul, Int.reduceAdd, Int.reduceSub, Int.reduceToNat, Int.reducePow, Int.reduceEq, ok, bok, deref, mkL, lstW, tupW, dats, Option.map_some, appendW, insertW, setL, isL, listW, tupleW, lenW, absW, intC, maxW, minW, idxW, addW, subW_e, modW_e, divW_e, powW_e, mulW, intW, lt_e, gt_e, le_e, ge_e, ltW, allW_e, anyW_e, sumW_e, lW, setW, lstAt, cutW, backW, isW, isiW, iLT_none, iLT_bool, iLT_int, iLT_str, iLT_list, iLT_tup, iL_none, iL_bool, iL_int, iL_str, iL_list, iL_tup, iT_none, iT_bool, iT_int, iT_str, iT_list, iT_tup, iS_none, iS_bool, iS_int, iS_str, iS_list, iS_tup, iI_none, iI_bool, iI_int, iI_str, iI_list, iI_tup, iB_none, iB_bool, iB_int, iB_str, iB_list, iB_tup, Bool.false_eq_true, reduceCtorEq, Bool.not_true, Bool.not_false, decide_true, decide_false, List.zip_cons_cons, List.zip_nil_left, List.foldl_cons, List.foldl_nil, and_self, and_true, true_and, Bool.and_true, Bool.true_and, Bool.or_true, Bool.true_or, *])
theorem fnM_rt {rm : Bool} {np nl : Nat} {body : SM} {ws : List W} {h h' : Hh} {w : W} {r : Option (W × Hh)} (hb : body (ws.map some ++ List.replicate (nl - np) none) h = some (.rt w, h')) (e : ws.length = np) (lv : leave rm h w h' = r) : fnM rm np nl body ws h = r := by
  rw [fnM_e _ _ _ _ _ _ e, hb, retK_rt, lv]
section
variable {h : Hh}
theorem xB {E : EM} {ρ : DL.Env} {b : Bool} (e : E ρ h = some (.dat (.bool b), h)) : fB E ρ h = some (b, h) := by
  unfold fB
  simp only [e, obnd]
theorem all_b {bs : List Bool} {b : Bool} (e : bs.all id = b) : allW [.dat (.list (bs.map .bool))] h = some (.dat (.bool b), h) := by
  have ba : bools (bs.map PyData.bool) = some bs := by have := bools_map (fun b : Bool => b) bs; rwa [List.map_id'] at this
  unfold allW lW
  simp only [deref, ba, e]
  rfl
end
abbrev zz : Str := "zz"
end DL
set_option maxRecDepth 100000
set_option maxHeartbeats 400000
namespace DL
open PySem L2
variable [HW]
structure Grow (b : Nat) (h h' : Hh) : Prop where
  le : h.length ≤ h'.length
  off : ∀ i : Nat, i < h.length → i ≠ b → h'[i]? = h[i]?
theorem Grow.only {b : Nat} {h h' : Hh} (o : Only b h h') : Grow b h h' := ⟨by rw [o.len]; exact Nat.le_refl _, fun i _ n => o.off i n⟩
theorem Grow.app {b : Nat} {h l : Hh} : Grow b h (h ++ l) := ⟨by rw [List.length_append]; omega, fun i hi _ => List.getElem?_append_left hi⟩
theorem Grow.trans {b : Nat} {h h1 h2 : Hh} (x : Grow b h h1) (y : Grow b h1 h2) : Grow b h h2 := ⟨Nat.le_trans x.le y.le, fun i hi n => (y.off i (Nat.lt_of_lt_of_le hi x.le) n).trans (x.off i hi n)⟩
theorem Grow.fin {b c c' : Nat} {h h' : Hh} (x : Grow b h h') (hb : BoxAt h b c) (y : BoxAt h' b c') : (∀ d : D, leave false h (.dat d) h' = some (.dat d, h'.take h.length)) ∧ BoxAt (h'.take h.length) b c' ∧ Only b h (h'.take h.length) := by
  have hl : (h'.take h.length).length = h.length := by rw [List.length_take]; have := x.le; omega
  have o : Only b h (h'.take h.length) := ⟨hl, fun i n => by
    by_cases q : i < h.length
    · rw [List.getElem?_take_of_lt q]; exact x.off i q n
    · rw [List.getElem?_eq_none (by omega), List.getElem?_eq_none (by omega)]⟩
  have bx := box_take y hb.lt
  exact ⟨fun d => leave_dat (live_only hb bx o), bx, o⟩
theorem Pre.grow {h0 h h' : Hh} {b : Nat} (p : Pre h0 h) (hb : h0.length ≤ b) (hl : h0.length ≤ h.length) (x : Grow b h h') : Pre h0 h' := fun i hi => (x.off i (by omega) (by omega)).trans (p i hi)
end DL
set_option maxRecDepth 100000
set_option maxHeartbeats 400000
namespace DL
open PySem L2
variable [HW]
local macro_rules | `(tactic| walk_at "dl") => `(tactic| simp (config := { dsimp := false }) only [↓fnM_e, ↓sSeq_e, seqK_nx, seqK_rt, seqK_bk, seqK_ct, retK_rt, retK_nx, ↓sFrz_e, frK_some, ↓sAsg, ↓sRet, ↓sRetN, ↓sIf, ↓sExpr, ↓sSkip, ↓sNever, ↓sPar, ↓sFor, ↓sSub, ↓fVar, ↓fC, ↓fNil, ↓fCons, ↓fA, ↓f1, ↓f2, ↓fB, ↓fIf, ↓fNeg, ↓fNot, ↓fAnd, ↓fOr, ↓bNot, ↓bAnd, ↓bOr, ↓bYes, ↓obnd_x, ob_some, ↓sbnd_x, sb_some, ↓ite_x, iteK_t, iteK_f, gN, gT, gC, gE, ↓rng1I, ↓rng2I, ↓seqI, ↓enumA, ↓zipI, ↓strI, ↓fLc, ↓fDc, ↓fM, ↓fSl, ↓oNone, ↓oSome, ↓fRev, wipeE, ↓kwM, permM, permL, List.foldr, List.length_cons, List.length_nil, List.map_cons, List.map_nil, List.cons_append, List.nil_append, List.replicate, List.replicate_succ, List.replicate_zero, List.getElem?_cons_zero, List.getElem?_cons_succ, List.set_cons_zero, List.set_cons_succ, if_true, if_false, reduceIte, Nat.reduceAdd, Nat.reduceSub, Nat.reduceEqDiff, Nat.reduceLT, Nat.reduceLeDiff, Int.reduceLT, Int.reduceLE, Int.reduceNeg, Int.reduceMul, Int.reduceAdd, Int.reduceSub, Int.reduceToNat, Int.reducePow, Int.reduceEq, ok, bok, deref, mkL, lstW, tupW, dats, Option.map_some, appendW, insertW, setL, isL, listW, tupleW, lenW, absW, intC, maxW, minW, idxW, addW, subW_e, modW_e, divW_e, powW_e, mulW, intW, lt_e, gt_e, le_e, ge_e, ltW, allW_e, anyW_e, sumW_e, lW, setW, lstAt, cutW, backW, isW, isiW, iLT_none, iLT_bool, iLT_int, iLT_str, iLT_list, iLT_tup, iL_none, iL_bool, iL_int, iL_str, iL_list, iL_tup, iT_none, iT_bool, iT_int, iT_str, iT_list, iT_tup, iS_none, iS_bool, iS_int, iS_str, iS_list, iS_tup, iI_none, iI_bool, iI_int, iI_str, iI_list, iI_tup, iB_none, iB_bool, iB_int, iB_str, iB_list, iB_tup, Bool.false_eq_true, reduceCtorEq, Bool.not_true, Bool.not_false, decide_true, decide_false, List.zip_cons_cons, List.zip_nil_left, List.foldl_cons, List.foldl_nil, and_self, and_true, true_and, Bool.and_true, Bool.true_and, Bool.or_true, Bool.true_or, *])
local macro_rules | `(tactic| walk_at "tb") => `(tactic| simp (config := { dsimp := false }) only [↓fFld_e, ↓fMeth_e, ↓fMk_e, fld_n, fld_p, met_leads, met_then, met_times, met_made, met_tells, met_names, ↓fnM_e, ↓sSeq_e, seqK_nx, seqK_rt, seqK_bk, seqK_ct, retK_rt, retK_nx, ↓sFrz_e, frK_some, ↓sAsg, ↓sRet, ↓sRetN, ↓sIf, ↓sExpr, ↓sSkip, ↓sNever, ↓sPar, ↓sFor, ↓sSub, ↓fVar, ↓fC, ↓fNil, ↓fCons, ↓fA, ↓f1, ↓f2, ↓fB, ↓fIf, ↓fNeg, ↓fNot, ↓fAnd, ↓fOr, ↓bNot, ↓bAnd, ↓bOr, ↓bYes, ↓obnd_x, ob_some, ↓sbnd_x, sb_some, ↓ite_x, iteK_t, iteK_f, gN, gT, gC, gE, ↓rng1I, ↓rng2I, ↓seqI, ↓enumA, ↓zipI, ↓strI, ↓fLc, ↓fDc, ↓fM, ↓fSl, ↓oNone, ↓oSome, ↓fRev, wipeE, ↓kwM, permM, permL, List.foldr, List.length_cons, List.length_nil, List.map_cons, List.map_nil, List.cons_append, List.nil_append, List.replicate, List.replicate_succ, List.replicate_zero, List.getElem?_cons_zero, List.getElem?_cons_succ, List.set_cons_zero, List.set_cons_succ, if_true, if_false, reduceIte, Nat.reduceAdd, Nat.reduceSub, Nat.reduceEqDiff, Nat.reduceLT, Nat.reduceLeDiff, Int.reduceLT, Int.reduceLE, Int.reduceNeg, Int.reduceMul, Int.reduceAdd, Int.reduceSub, Int.reduceToNat, Int.reducePow, Int.reduceEq, ok, bok, deref, mkL, lstW, tupW, dats, Option.map_some, appendW, insertW, setL, isL, listW, tupleW, lenW, absW, intC, maxW, minW, idxW, addW, subW_e, modW_e, divW_e, powW_e, mulW, intW, lt_e, gt_e, le_e, ge_e, ltW, allW_e, anyW_e, sumW_e, lW, setW, lstAt, cutW, backW, isW, isiW, iLT_none, iLT_bool, iLT_int, iLT_str, iLT_list, iLT_tup, iL_none, iL_bool, iL_int, iL_str, iL_list, iL_tup, iT_none, iT_bool, iT_int, iT_str, iT_list, iT_tup, iS_none, iS_bool, iS_int, iS_str, iS_list, iS_tup, iI_none, iI_bool, iI_int, iI_str, iI_list, iI_tup, iB_none, iB_bool, iB_int, iB_str, iB_list, iB_tup, Bool.false_eq_true, reduceCtorEq, Bool.not_true, Bool.not_false, decide_true, decide_false, List.zip_cons_cons, List.zip_nil_left, List.foldl_cons, List.foldl_nil, and_self, and_true, true_and, Bool.and_true, Bool.true_and, Bool.or_true, Bool.true_or, *])
end DL
set_option maxRecDepth 100000
set_option maxHeartbeats 400000
namespace DL
open PySem L2
variable [HW]
end DL
set_option maxRecDepth 100000
set_option maxHeartbeats 400000
namespace DL
open PySem L2
variable [HW]
section
variable {ρ ρ1 : DL.Env} {h h1 h2 : Hh}
theorem zAppE {A E : EM} {n : Nat} {ds : List D} {d : D} (ha : A ρ h = some (.ref n, h1)) (hn : h1[n]? = some (some (.lst ds))) (he : E ρ h1 = some (.dat d, h2)) (hn2 : h2[n]? = some (some (.lst ds))) (hl : ds.length < sizeLine) :
    sExpr (fM isL appendW A (fCons E fNil)) ρ h = some (.nx ρ, h2.set n (some (.lst (ds ++ [d])))) := by
  have il : isL (.ref n) h1 = true := by simp only [isL, deref, hn]
  have ap : appendW (.ref n) [.dat d] h2 = some (.dat .none, h2.set n (some (.lst (ds ++ [d])))) := by
    simp only [appendW, lstAt, hn2, setL, hl, if_true]
  unfold sExpr fM
  simp only [ha, obnd, il, if_true, xC he xN, ap, sbnd]
end
end DL
set_option maxRecDepth 100000
set_option maxHeartbeats 400000
namespace DL
open PySem L2
variable [HW]
section
variable {α : Type} [DecidableEq α]
def dd1 (acc : List α) (p : α) : List α := if p ∈ acc then acc else acc ++ [p]
def dd (l : List α) : List α := l.foldl dd1 []
end
section
variable {r q : List Str} {us : List (List (Str × Str))} (c : Words r us) (nd : r.Nodup) (pq : q.Perm r)
include c nd pq
end
end DL
set_option maxRecDepth 100000
set_option maxHeartbeats 400000
namespace DL
open PySem L2
variable [HW]
end DL
set_option maxRecDepth 100000
set_option maxHeartbeats 400000
namespace DL
open PySem L2
variable [HW]
section
variable {L : List Str} {Wn : List (Str × Str)} {h : Hh} (tL : Txts L) (tW : TxtP Wn) (hl : L.length ≤ 1000)
include tL tW hl
end
theorem noLs_strs : ∀ l : List Str, noLs (l.map .str) = true
  | [] => rfl
  | s :: l => by rw [List.map_cons, noLs, noLs_strs l]; rfl
section
variable {x : D} {Wn : List (Str × Str)} {h : Hh} (hok : h.all okM = true) (tW : TxtP Wn)
include hok tW
end
end DL
set_option maxRecDepth 100000
set_option maxHeartbeats 400000
namespace DL
open PySem L2
variable [HW]
end DL
set_option maxRecDepth 100000
set_option maxHeartbeats 1000000
namespace DL
open PySem PySem.Spec PyProof.Rows L2
variable [HW]
end DL
set_option maxRecDepth 100000
set_option maxHeartbeats 400000
namespace DL
open PySem L2
variable [HW]
end DL
set_option maxRecDepth 100000
set_option maxHeartbeats 400000
namespace DL
open PySem L2
variable [HW]
section
variable {T : Nat → Addr} {x y : D} {lb : Bool} {r : List Str} {us : List (List (Str × Str))} {h : Hh} (hx : IsSeq x (r.map .str)) (hy : IsSeq y (us.map (cD lb))) (c : Words r us) (nd : r.Nodup) (hl : r.length ≤ 100) (ht : Txts r) (hu : us.length ≤ 1000)
include hx hy c nd hl ht hu
end
theorem xLcG {IT : IM} {k : TM} {t : BM} {f : EM} {vs : List Nat} {ds rs : List D} {ρ : DL.Env} {h h1 h2 : Hh} (hi : IT ρ h = some (ds, h1)) (e : lcL k t f (wipeE ρ vs) ds h1 = some (rs, h2)) (hl : rs.length ≤ sizeLine) : fLc false IT k t f vs ρ h = some (.dat (.list rs), h2) := by
  unfold fLc
  simp only [hi, obnd, e]
  rw [if_pos hl]
  rfl
section
variable {L : List Str} {Wn : List (Str × Str)} {h : Hh} (nl : L.Nodup) (tL : Txts L) (hl : L.length ≤ 1000) (tW : TxtP Wn) (bar : ∀ s ∈ L, ∃ o ∈ L, (o, s) ∈ Wn)
include nl tL hl tW bar
end
end DL
set_option maxRecDepth 100000
set_option maxHeartbeats 400000
namespace DL
open PySem L2
variable [HW]
section
variable {T : Nat → Addr} {x y : D} {lb : Bool} {r : List Str} {us : List (List (Str × Str))} {h : Hh} (hx : IsSeq x (r.map .str)) (hy : IsSeq y (us.map (cD lb))) (c : Words r us) (nd : r.Nodup) (hl : r.length ≤ 100) (ht : Txts r) (hu : us.length ≤ 1000)
include hx hy c nd hl ht hu
end
end DL
set_option maxRecDepth 100000
set_option maxHeartbeats 400000
namespace DL
open PySem L2
variable [HW]
local macro_rules | `(tactic| walk_at "dl") => `(tactic| simp (config := { dsimp := false }) only [↓fnM_e, ↓sSeq_e, seqK_nx, seqK_rt, seqK_bk, seqK_ct, retK_rt, retK_nx, ↓sFrz_e, frK_some, ↓sAsg, ↓sRet, ↓sRetN, ↓sIf, ↓sExpr, ↓sSkip, ↓sNever, ↓sPar, ↓sFor, ↓sSub, ↓fVar, ↓fC, ↓fNil, ↓fCons, ↓fA, ↓f1, ↓f2, ↓fB, ↓fIf, ↓fNeg, ↓fNot, ↓fAnd, ↓fOr, ↓bNot, ↓bAnd, ↓bOr, ↓bYes, ↓obnd_x, ob_some, ↓sbnd_x, sb_some, ↓ite_x, iteK_t, iteK_f, gN, gT, gC, gE, ↓rng1I, ↓rng2I, ↓seqI, ↓enumA, ↓zipI, ↓strI, ↓fLc, ↓fDc, ↓fM, ↓fSl, ↓oNone, ↓oSome, ↓fRev, wipeE, ↓kwM, permM, permL, List.foldr, List.length_cons, List.length_nil, List.map_cons, List.map_nil, List.cons_append, List.nil_append, List.replicate, List.replicate_succ, List.replicate_zero, List.getElem?_cons_zero, List.getElem?_cons_succ, List.set_cons_zero, List.set_cons_succ, if_true, if_false, reduceIte, Nat.reduceAdd, Nat.reduceSub, Nat.reduceEqDiff, Nat.reduceLT, Nat.reduceLeDiff, Int.reduceLT, Int.reduceLE, Int.reduceNeg, Int.reduceMul, Int.reduceAdd, Int.reduceSub, Int.reduceToNat, Int.reducePow, Int.reduceEq, ok, bok, deref, mkL, lstW, tupW, dats, Option.map_some, appendW, insertW, setL, isL, listW, tupleW, lenW, absW, intC, maxW, minW, idxW, addW, subW_e, modW_e, divW_e, powW_e, mulW, intW, lt_e, gt_e, le_e, ge_e, ltW, allW_e, anyW_e, sumW_e, lW, setW, lstAt, cutW, backW, isW, isiW, iLT_none, iLT_bool, iLT_int, iLT_str, iLT_list, iLT_tup, iL_none, iL_bool, iL_int, iL_str, iL_list, iL_tup, iT_none, iT_bool, iT_int, iT_str, iT_list, iT_tup, iS_none, iS_bool, iS_int, iS_str, iS_list, iS_tup, iI_none, iI_bool, iI_int, iI_str, iI_list, iI_tup, iB_none, iB_bool, iB_int, iB_str, iB_list, iB_tup, Bool.false_eq_true, reduceCtorEq, Bool.not_true, Bool.not_false, decide_true, decide_false, List.zip_cons_cons, List.zip_nil_left, List.foldl_cons, List.foldl_nil, and_self, and_true, true_and, Bool.and_true, Bool.true_and, Bool.or_true, Bool.true_or, *])
end DL
set_option maxRecDepth 100000
set_option maxHeartbeats 400000
namespace DL
open PySem L2
variable [HW]
local macro_rules | `(tactic| walk_at "dl") => `(tactic| simp (config := { dsimp := false }) only [↓fnM_e, ↓sSeq_e, seqK_nx, seqK_rt, seqK_bk, seqK_ct, retK_rt, retK_nx, ↓sFrz_e, frK_some, ↓sAsg, ↓sRet, ↓sRetN, ↓sIf, ↓sExpr, ↓sSkip, ↓sNever, ↓sPar, ↓sFor, ↓sSub, ↓fVar, ↓fC, ↓fNil, ↓fCons, ↓fA, ↓f1, ↓f2, ↓fB, ↓fIf, ↓fNeg, ↓fNot, ↓fAnd, ↓fOr, ↓bNot, ↓bAnd, ↓bOr, ↓bYes, ↓obnd_x, ob_some, ↓sbnd_x, sb_some, ↓ite_x, iteK_t, iteK_f, gN, gT, gC, gE, ↓rng1I, ↓rng2I, ↓seqI, ↓enumA, ↓zipI, ↓strI, ↓fLc, ↓fDc, ↓fM, ↓fSl, ↓oNone, ↓oSome, ↓fRev, wipeE, ↓kwM, permM, permL, List.foldr, List.length_cons, List.length_nil, List.map_cons, List.map_nil, List.cons_append, List.nil_append, List.replicate, List.replicate_succ, List.replicate_zero, List.getElem?_cons_zero, List.getElem?_cons_succ, List.set_cons_zero, List.set_cons_succ, if_true, if_false, reduceIte, Nat.reduceAdd, Nat.reduceSub, Nat.reduceEqDiff, Nat.reduceLT, Nat.reduceLeDiff, Int.reduceLT, Int.reduceLE, Int.reduceNeg, Int.reduceMul, Int.reduceAdd, Int.reduceSub, Int.reduceToNat, Int.reducePow, Int.reduceEq, ok, bok, deref, mkL, lstW, tupW, dats, Option.map_some, appendW, insertW, setL, isL, listW, tupleW, lenW, absW, intC, maxW, minW, idxW, addW, subW_e, modW_e, divW_e, powW_e, mulW, intW, lt_e, gt_e, le_e, ge_e, ltW, allW_e, anyW_e, sumW_e, lW, setW, lstAt, cutW, backW, isW, isiW, iLT_none, iLT_bool, iLT_int, iLT_str, iLT_list, iLT_tup, iL_none, iL_bool, iL_int, iL_str, iL_list, iL_tup, iT_none, iT_bool, iT_int, iT_str, iT_list, iT_tup, iS_none, iS_bool, iS_int, iS_str, iS_list, iS_tup, iI_none, iI_bool, iI_int, iI_str, iI_list, iI_tup, iB_none, iB_bool, iB_int, iB_str, iB_list, iB_tup, Bool.false_eq_true, reduceCtorEq, Bool.not_true, Bool.not_false, decide_true, decide_false, List.zip_cons_cons, List.zip_nil_left, List.foldl_cons, List.foldl_nil, and_self, and_true, true_and, Bool.and_true, Bool.true_and, Bool.or_true, Bool.true_or, *])
section
variable {T : Nat → Addr} {x y : W} {N : List Str} {f : Str × Str → Str × Str} {g : Hh} (tf : ∀ p ∈ prsN N, TxtP [f p])
include tf
end
end DL
set_option maxRecDepth 100000
set_option maxHeartbeats 400000
namespace DL
open PySem L2
variable [HW]
section
variable {N : List Str} {us : List (List (Str × Str))} (c : Words N us) (nd : N.Nodup)
include c nd
end
end DL
set_option maxRecDepth 100000
set_option maxHeartbeats 400000
namespace DL
open PySem L2
variable [HW]
def lp (N : Nat) : Nat → Nat
  | 0 => 1
  | t + 1 => lp N t * (N - t) / (t + 1)
def tW (n a i : Nat) : Nat := lp (n ^ a + n - 1 - i) n
end DL
set_option maxRecDepth 100000
set_option maxHeartbeats 400000
namespace DL
open PySem L2
variable [HW]
def it (f : Str → Str) : Nat → Str → Str
  | 0, s => s
  | k + 1, s => f (it f k s)
def img (f : Str → Str) (s : List Str) : List Str := (uR (s.map f)).mergeSort leT
def lev (f : Str → Str) (S : List Str) : Nat → List Str
  | 0 => S
  | k + 1 => img f (lev f S k)
structure Sor (l : List Str) : Prop where
  nd : l.Nodup
  pw : l.Pairwise fun a b => leT a b = true
theorem Sor.eq {a b : List Str} (x : Sor a) (y : Sor b) (h : ∀ t, t ∈ a ↔ t ∈ b) : a = b := hs_eq x.nd x.pw y.nd y.pw h
section
variable {f : Str → Str} {S : List Str} (hS : Sor S) (hf : ∀ s ∈ S, f s ∈ S)
include hS hf
variable {K : Nat} (hK : lev f S (K + 1) = lev f S K)
include hK
end
noncomputable def per (f : Str → Str) (s : Str) : Nat := ((List.range 1000).find? fun k => decide (0 < k ∧ it f k s = s)).getD 0
end DL
set_option maxRecDepth 100000
set_option maxHeartbeats 400000
namespace DL
open PySem L2
variable [HW]
structure Cor (f : Str → Str) (C : List Str) (n : Nat) : Prop where
  sor : Sor C
  stay : ∀ s ∈ C, f s ∈ C
  per : ∀ s ∈ C, ∃ p, 0 < p ∧ p ≤ n ∧ it f p s = s ∧ ∀ k, 0 < k → k < p → it f k s ≠ s
section
variable {f : Str → Str} {C : List Str} {n : Nat} (c : Cor f C n) (hn : n < 1000)
include c hn
end
end DL
set_option maxRecDepth 100000
set_option maxHeartbeats 400000
namespace DL
open PySem L2
variable [HW]
local macro_rules | `(tactic| walk_at "dl") => `(tactic| simp (config := { dsimp := false }) only [↓fnM_e, ↓sSeq_e, seqK_nx, seqK_rt, seqK_bk, seqK_ct, retK_rt, retK_nx, ↓sFrz_e, frK_some, ↓sAsg, ↓sRet, ↓sRetN, ↓sIf, ↓sExpr, ↓sSkip, ↓sNever, ↓sPar, ↓sFor, ↓sSub, ↓fVar, ↓fC, ↓fNil, ↓fCons, ↓fA, ↓f1, ↓f2, ↓fB, ↓fIf, ↓fNeg, ↓fNot, ↓fAnd, ↓fOr, ↓bNot, ↓bAnd, ↓bOr, ↓bYes, ↓obnd_x, ob_some, ↓sbnd_x, sb_some, ↓ite_x, iteK_t, iteK_f, gN, gT, gC, gE, ↓rng1I, ↓rng2I, ↓seqI, ↓enumA, ↓zipI, ↓strI, ↓fLc, ↓fDc, ↓fM, ↓fSl, ↓oNone, ↓oSome, ↓fRev, wipeE, ↓kwM, permM, permL, List.foldr, List.length_cons, List.length_nil, List.map_cons, List.map_nil, List.cons_append, List.nil_append, List.replicate, List.replicate_succ, List.replicate_zero, List.getElem?_cons_zero, List.getElem?_cons_succ, List.set_cons_zero, List.set_cons_succ, if_true, if_false, reduceIte, Nat.reduceAdd, Nat.reduceSub, Nat.reduceEqDiff, Nat.reduceLT, Nat.reduceLeDiff, Int.reduceLT, Int.reduceLE, Int.reduceNeg, Int.reduceMul, Int.reduceAdd, Int.reduceSub, Int.reduceToNat, Int.reducePow, Int.reduceEq, ok, bok, deref, mkL, lstW, tupW, dats, Option.map_some, appendW, insertW, setL, isL, listW, tupleW, lenW, absW, intC, maxW, minW, idxW, addW, subW_e, modW_e, divW_e, powW_e, mulW, intW, lt_e, gt_e, le_e, ge_e, ltW, allW_e, anyW_e, sumW_e, lW, setW, lstAt, cutW, backW, isW, isiW, iLT_none, iLT_bool, iLT_int, iLT_str, iLT_list, iLT_tup, iL_none, iL_bool, iL_int, iL_str, iL_list, iL_tup, iT_none, iT_bool, iT_int, iT_str, iT_list, iT_tup, iS_none, iS_bool, iS_int, iS_str, iS_list, iS_tup, iI_none, iI_bool, iI_int, iI_str, iI_list, iI_tup, iB_none, iB_bool, iB_int, iB_str, iB_list, iB_tup, Bool.false_eq_true, reduceCtorEq, Bool.not_true, Bool.not_false, decide_true, decide_false, List.zip_cons_cons, List.zip_nil_left, List.foldl_cons, List.foldl_nil, and_self, and_true, true_and, Bool.and_true, Bool.true_and, Bool.or_true, Bool.true_or, *])
structure Rnd (S : List Str) (ps : List (Str × Str)) : Prop where
  sor : Sor S
  pos : 0 < S.length
  few : S.length ≤ 30
  txt : Txts S
  key : ps.map (·.1) = S
  tgt : ∀ p ∈ ps, p.2 ∈ S
section
variable {S : List Str} {ps : List (Str × Str)} (R : Rnd S ps)
include R
theorem Rnd.call : CallOf S ps := ⟨by rw [R.key], R.tgt⟩
theorem Rnd.nd : (ps.map (·.1)).Nodup := by rw [R.key]; exact R.sor.nd
theorem Rnd.len : ps.length = S.length := by have := congrArg List.length R.key; rw [List.length_map] at this; exact this
theorem Rnd.stay : ∀ s ∈ S, goal ps s ∈ S := fun s hs => (R.call.goal_mem hs).2
theorem Rnd.get {s : Str} (hs : s ∈ S) : getD (sdic (tld ps)) (.str s) = some (some (.str (goal ps s))) := by
  rw [getD_sdic, look_tld, (R.call.goal_mem hs).1]; rfl
end
end DL
set_option maxRecDepth 100000
set_option maxHeartbeats 400000
namespace DL
open PySem L2
variable [HW]
local macro_rules | `(tactic| walk_at "dl") => `(tactic| simp (config := { dsimp := false }) only [↓fnM_e, ↓sSeq_e, seqK_nx, seqK_rt, seqK_bk, seqK_ct, retK_rt, retK_nx, ↓sFrz_e, frK_some, ↓sAsg, ↓sRet, ↓sRetN, ↓sIf, ↓sExpr, ↓sSkip, ↓sNever, ↓sPar, ↓sFor, ↓sSub, ↓fVar, ↓fC, ↓fNil, ↓fCons, ↓fA, ↓f1, ↓f2, ↓fB, ↓fIf, ↓fNeg, ↓fNot, ↓fAnd, ↓fOr, ↓bNot, ↓bAnd, ↓bOr, ↓bYes, ↓obnd_x, ob_some, ↓sbnd_x, sb_some, ↓ite_x, iteK_t, iteK_f, gN, gT, gC, gE, ↓rng1I, ↓rng2I, ↓seqI, ↓enumA, ↓zipI, ↓strI, ↓fLc, ↓fDc, ↓fM, ↓fSl, ↓oNone, ↓oSome, ↓fRev, wipeE, ↓kwM, permM, permL, List.foldr, List.length_cons, List.length_nil, List.map_cons, List.map_nil, List.cons_append, List.nil_append, List.replicate, List.replicate_succ, List.replicate_zero, List.getElem?_cons_zero, List.getElem?_cons_succ, List.set_cons_zero, List.set_cons_succ, if_true, if_false, reduceIte, Nat.reduceAdd, Nat.reduceSub, Nat.reduceEqDiff, Nat.reduceLT, Nat.reduceLeDiff, Int.reduceLT, Int.reduceLE, Int.reduceNeg, Int.reduceMul, Int.reduceAdd, Int.reduceSub, Int.reduceToNat, Int.reducePow, Int.reduceEq, ok, bok, deref, mkL, lstW, tupW, dats, Option.map_some, appendW, insertW, setL, isL, listW, tupleW, lenW, absW, intC, maxW, minW, idxW, addW, subW_e, modW_e, divW_e, powW_e, mulW, intW, lt_e, gt_e, le_e, ge_e, ltW, allW_e, anyW_e, sumW_e, lW, setW, lstAt, cutW, backW, isW, isiW, iLT_none, iLT_bool, iLT_int, iLT_str, iLT_list, iLT_tup, iL_none, iL_bool, iL_int, iL_str, iL_list, iL_tup, iT_none, iT_bool, iT_int, iT_str, iT_list, iT_tup, iS_none, iS_bool, iS_int, iS_str, iS_list, iS_tup, iI_none, iI_bool, iI_int, iI_str, iI_list, iI_tup, iB_none, iB_bool, iB_int, iB_str, iB_list, iB_tup, Bool.false_eq_true, reduceCtorEq, Bool.not_true, Bool.not_false, decide_true, decide_false, List.zip_cons_cons, List.zip_nil_left, List.foldl_cons, List.foldl_nil, and_self, and_true, true_and, Bool.and_true, Bool.true_and, Bool.or_true, Bool.true_or, *])
theorem leave_tail {rm : Bool} {h tl : Hh} {ds : List D} : leave rm h (.ref h.length) (h ++ some (.lst ds) :: tl) = if rm = true then some (.ref h.length, h ++ [some (.lst ds)]) else some (.dat (.list ds), h) := by
  have e : (h ++ some (MO.lst ds) :: tl).take h.length = h := by rw [List.take_append_of_le_length (Nat.le_refl _), List.take_length]
  have e2 : (h ++ some (MO.lst ds) :: tl)[h.length]? = some (some (.lst ds)) := by rw [List.getElem?_append_right (Nat.le_refl _)]; simp
  unfold leave
  rw [e]
  simp only [if_true, Nat.lt_irrefl, if_false, e2]
section
variable {x : D} {l : Bool} {S : List Str} {ps : List (Str × Str)} {h : Hh} (R : Rnd S ps) (hx : IsSeq x (ps.map (prW l))) {K : Nat} (hK : lev (goal ps) S (K + 1) = lev (goal ps) S K) (hm : ∀ k, k < K → lev (goal ps) S (k + 1) ≠ lev (goal ps) S k) (kS : K ≤ S.length)
include R hK
include hx hm kS
end
end DL
set_option maxRecDepth 100000
set_option maxHeartbeats 400000
namespace DL
open PySem L2
variable [HW]
section
variable {T : Nat → Addr} {N first : List Str} {us : List (List (Str × Str))} (c : Words N us) (nd : N.Nodup) (hl : N.length ≤ 14) (ht : Txts N) (hu : us.length ≤ 100) (pf : first.Perm N)
include c nd hl ht hu pf
end
section
variable {N : List Str} {us vs : List (List (Str × Str))} (c : Words N us) (d : Words N vs) (nd : N.Nodup)
include c d nd
end
end DL
set_option maxHeartbeats 400000
namespace LW
open PySem L2 DL
variable [HW]
local macro_rules | `(tactic| walk_at "dl") => `(tactic| simp (config := { dsimp := false }) only [↓fnM_e, ↓sSeq_e, seqK_nx, seqK_rt, seqK_bk, seqK_ct, retK_rt, retK_nx, ↓sFrz_e, frK_some, ↓sAsg, ↓sRet, ↓sRetN, ↓sIf, ↓sExpr, ↓sSkip, ↓sNever, ↓sPar, ↓sFor, ↓sSub, ↓fVar, ↓fC, ↓fNil, ↓fCons, ↓fA, ↓f1, ↓f2, ↓fB, ↓fIf, ↓fNeg, ↓fNot, ↓fAnd, ↓fOr, ↓bNot, ↓bAnd, ↓bOr, ↓bYes, ↓obnd_x, ob_some, ↓sbnd_x, sb_some, ↓ite_x, iteK_t, iteK_f, gN, gT, gC, gE, ↓rng1I, ↓rng2I, ↓seqI, ↓enumA, ↓zipI, ↓strI, ↓fLc, ↓fDc, ↓fM, ↓fSl, ↓oNone, ↓oSome, ↓fRev, wipeE, ↓kwM, permM, permL, List.foldr, List.length_cons, List.length_nil, List.map_cons, List.map_nil, List.cons_append, List.nil_append, List.replicate, List.replicate_succ, List.replicate_zero, List.getElem?_cons_zero, List.getElem?_cons_succ, List.set_cons_zero, List.set_cons_succ, if_true, if_false, reduceIte, Nat.reduceAdd, Nat.reduceSub, Nat.reduceEqDiff, Nat.reduceLT, Nat.reduceLeDiff, Int.reduceLT, Int.reduceLE, Int.reduceNeg, Int.reduceMul, Int.reduceAdd, Int.reduceSub, Int.reduceToNat, Int.reducePow, Int.reduceEq, ok, bok, deref, mkL, lstW, tupW, dats, Option.map_some, appendW, insertW, setL, isL, listW, tupleW, lenW, absW, intC, maxW, minW, idxW, addW, subW_e, modW_e, divW_e, powW_e, mulW, intW, lt_e, gt_e, le_e, ge_e, ltW, allW_e, anyW_e, sumW_e, lW, setW, lstAt, cutW, backW, isW, isiW, iLT_none, iLT_bool, iLT_int, iLT_str, iLT_list, iLT_tup, iL_none, iL_bool, iL_int, iL_str, iL_list, iL_tup, iT_none, iT_bool, iT_int, iT_str, iT_list, iT_tup, iS_none, iS_bool, iS_int, iS_str, iS_list, iS_tup, iI_none, iI_bool, iI_int, iI_str, iI_list, iI_tup, iB_none, iB_bool, iB_int, iB_str, iB_list, iB_tup, Bool.false_eq_true, reduceCtorEq, Bool.not_true, Bool.not_false, decide_true, decide_false, List.zip_cons_cons, List.zip_nil_left, List.foldl_cons, List.foldl_nil, and_self, and_true, true_and, Bool.and_true, Bool.true_and, Bool.or_true, Bool.true_or, *])
noncomputable def m_groups__M : FM := fnM true 1 4 (sSeq (sAsg (fDn true) (gN 1))
    (sSeq (sFor (seqI (fVar 0)) (gT 2 (gC (gN 2) (gC (gN 3) (gE))))
    (sPut (f2 (addW false) (fGet (fVar 1) (fVar 3) (fA (lstW false) (fNil))) (fA (lstW false) (fCons (fVar 2) (fNil)))) (fVar 1) (fVar 3)))
    (sFrz 1 (sRet (fLc true (seqI (fA (sortDW false) (fCons (fVar 1) (fNil)))) (gN 3) (bYes) (fA tupW (fCons (fVar 3) (fCons (fA tupleW (fCons (f2 idxW (fVar 1) (fVar 3)) (fNil))) (fNil)))) [3])))))
noncomputable def m_goers__M : FM := fnM true 1 3 (sRet (fLc true (seqI (fVar 0)) (gT 2 (gC (gN 1) (gC (gN 2) (gE)))) (fB (f2 (eqW true) (fVar 1) (fVar 2))) (fVar 1) [1, 2]))
noncomputable def m__law_people_right : FM := fnM false 3 5 (sSeq (sAsg (fA (dictA false) (fCons (fVar 1) (fNil))) (gN 3))
    (sSeq (sIf (bNot (fB (fA (m__law_same 12) (fCons (fA (lstW false) (fCons (fA (m_people) (fCons (fVar 1) (fNil))) (fCons (fA (kwM 1 [0] (m_people)) (fCons (fA (m__law_lists 12) (fCons (fVar 1) (fNil))) (fNil))) (fNil)))) (fCons (f2 (mulW false) (fA (lstW false) (fCons (fA tupleW (fCons (fA (sortW false) (fCons (fVar 0) (fNil))) (fNil))) (fNil))) (fC (.int 2))) (fNil)))))) (sRet (fC (.bool false))) (sSkip))
    (sSeq (sIf (bNot (fB (fA (m__law_same 12) (fCons (fLc false (seqI (fVar 0)) (gN 4) (bYes) (fA (m_whom) (fCons (fVar 1) (fCons (fVar 4) (fNil)))) [4]) (fCons (fLc false (seqI (fVar 0)) (gN 4) (bYes) (f2 idxW (fVar 3) (fVar 4)) [4]) (fNil)))))) (sRet (fC (.bool false))) (sSkip))
    (sRet (fA (m__law_same 12) (fCons (fA (kwM 2 [1, 0] (m_whom)) (fCons (fVar 2) (fCons (fA (m__law_lists 12) (fCons (fVar 1) (fNil))) (fNil)))) (fCons (f2 idxW (fVar 3) (fVar 2)) (fNil))))))))
noncomputable def m__law_right : FM := fnM false 1 21 (sSeq (sAsg (fA (m__law_crew) (fCons (fVar 0) (fCons (fC (.int 12)) (fNil)))) (gN 1))
    (sSeq (sAsg (fA tupW (fCons (fA (m__law_ask) (fCons (fVar 0) (fCons (fVar 1) (fNil)))) (fCons (fA (sortW false) (fCons (fVar 1) (fNil))) (fNil)))) (gT 2 (gC (gN 8) (gC (gN 9) (gE)))))
    (sSeq (sAsg (fA tupW (fCons (fA (m__law_of) (fCons (fVar 0) (fCons (fVar 1) (fNil)))) (fCons (fA (m__law_of) (fCons (fVar 0) (fCons (fVar 1) (fNil)))) (fCons (fA reprW (fCons (fA (lstW false) (fCons (fVar 1) (fCons (fVar 8) (fNil)))) (fNil))) (fNil))))) (gT 3 (gC (gN 10) (gC (gN 11) (gC (gN 12) (gE))))))
    (sSeq (sPar (fCons (fA tupleW (fCons (fLc false (seqI (fVar 9)) (gN 18) (bYes) (fA tupW (fCons (fVar 18) (fCons (fVar 18) (fNil)))) [18]) (fNil))) (fCons (fA tupleW (fCons (fLc false (seqI (fVar 9)) (gN 18) (bYes) (fA tupW (fCons (fVar 18) (fCons (fVar 11) (fNil)))) [18]) (fNil))) (fNil))) [13, 14])
    (sSeq (sAsg (fA tupleW (fCons (fLc false (seqI (fVar 9)) (gN 18) (bYes) (fA tupW (fCons (fVar 18) (fCons (fIf (fB (f2 (eqW false) (fVar 18) (fVar 10))) (fVar 11) (fVar 18)) (fNil)))) [18]) (fNil))) (gN 2))
    (sSeq (sAsg (fA (lstW false) (fCons (fA (m_stay) (fCons (fVar 1) (fNil))) (fCons (fA (kwM 1 [0] (m_stay)) (fCons (fA tupleW (fCons (fVar 1) (fNil))) (fNil))) (fCons (fA (m_all_to) (fCons (fVar 1) (fCons (fVar 11) (fNil)))) (fCons (fA (kwM 2 [1, 0] (m_all_to)) (fCons (fVar 11) (fCons (fA tupleW (fCons (fVar 1) (fNil))) (fNil)))) (fNil)))))) (gN 3))
    (sSeq (sAsg (f2 (addW false) (fVar 3) (fA (lstW false) (fCons (fA (m_going) (fCons (fVar 1) (fCons (fVar 10) (fCons (fVar 11) (fNil))))) (fCons (fA (kwM 3 [2, 1, 0] (m_going)) (fCons (fVar 11) (fCons (fVar 10) (fCons (fA tupleW (fCons (fVar 1) (fNil))) (fNil))))) (fNil))))) (gN 3))
    (sSeq (sIf (bNot (fB (fA (m__law_same 12) (fCons (fVar 3) (fCons (fA (lstW false) (fCons (fVar 13) (fCons (fVar 13) (fCons (fVar 14) (fCons (fVar 14) (fCons (fVar 2) (fCons (fVar 2) (fNil)))))))) (fNil)))))) (sRet (fC (.bool false))) (sSkip))
    (sSeq (sIf (bNot (fB (fA allW (fCons (fLc false (seqI (fVar 3)) (gN 4) (bYes) (f2 (isW false) (fA (m_is_call) (fCons (fVar 4) (fNil))) (fC (.bool true))) [4]) (fNil))))) (sRet (fC (.bool false))) (sSkip))
    (sSeq (sAsg (fA (dictA false) (fCons (fLc false (seqI (fVar 8)) (gN 19) (bOr (fB (f2 (eqW true) (f2 idxW (fVar 19) (fC (.int 0))) (f2 idxW (fVar 19) (fC (.int 1))))) (fB (f2 (eqW false) (fA (m__law_take) (fCons (fVar 0) (fCons (fC (.int 2)) (fNil)))) (fC (.int 0))))) (fVar 19) [19]) (fNil))) (gN 4))
    (sSeq (sAsg (fA tupW (fCons (fA (dictA false) (fCons (fVar 8) (fNil))) (fCons (fA reprDW (fCons (fVar 4) (fNil))) (fNil)))) (gT 2 (gC (gN 15) (gC (gN 16) (gE)))))
    (sSeq (sIf (bNot (fB (fA (m__law_same 12) (fCons (fA (lstW false) (fCons (fA (m_call_of) (fCons (fVar 1) (fCons (fVar 4) (fNil)))) (fCons (fA (kwM 2 [1, 0] (m_call_of)) (fCons (fVar 4) (fCons (fA tupleW (fCons (fVar 1) (fNil))) (fNil)))) (fCons (fA (m_call_of) (fCons (fVar 1) (fCons (fDn false) (fNil)))) (fNil))))) (fCons (fA (lstW false) (fCons (fVar 8) (fCons (fVar 8) (fCons (fVar 13) (fNil))))) (fNil)))))) (sRet (fC (.bool false))) (sSkip))
    (sSeq (sIf (fB (f2 (eqW true) (fA reprDW (fCons (fVar 4) (fNil))) (fVar 16))) (sRet (fC (.bool false))) (sSkip))
    (sSeq (sAsg (fLc false (seqI (fVar 9)) (gN 18) (fB (f2 inVW (fVar 18) (fVar 15))) (fA tupW (fCons (fVar 18) (fCons (fA tupleW (fCons (fLc false (seqI (fVar 9)) (gN 20) (fB (f2 (eqW false) (f2 idxW (fVar 15) (fVar 20)) (fVar 18))) (fVar 20) [20]) (fNil))) (fNil)))) [18]) (gN 5))
    (sSeq (sAsg (fLc false (seqI (fVar 9)) (gN 18) (fB (f2 (eqW true) (f2 idxW (fVar 15) (fVar 18)) (fVar 18))) (fVar 18) [18]) (gN 6))
    (sSeq (sFor (rng1I (fCons (fC (.int 2)) (fNil))) (gN 7)
    (sSeq (sAsg (fA packW (fCons (fA (m_groups__M) (fCons (fVar 8) (fNil))) (fCons (fA (kwM 1 [0] (m_groups__M)) (fCons (fA (m__law_lists 12) (fCons (fVar 8) (fNil))) (fNil))) (fCons (fA (m_goers__M) (fCons (fVar 8) (fNil))) (fCons (fA (kwM 1 [0] (m_goers__M)) (fCons (fA (m__law_lists 12) (fCons (fVar 8) (fNil))) (fNil))) (fNil)))))) (gN 3))
    (sSeq (sIf (bThaw 3 (bNot (fB (fA (m__law_same 12) (fCons (fVar 3) (fCons (fA (lstW false) (fCons (fVar 5) (fCons (fVar 5) (fCons (fVar 6) (fCons (fVar 6) (fNil)))))) (fNil))))))) (sRet (fC (.bool false))) (sSkip))
    (sForP (seqP (fVar 3)) (gN 17)
    (sExpr (fM isL appendW (fVar 17) (fCons (fC (.str "more")) (fNil))))))))
    (sRet (fAnd (fA (m__law_people_right) (fCons (fVar 1) (fCons (fVar 8) (fCons (fVar 10) (fNil))))) (f2 (eqW false) (fA reprW (fCons (fA (lstW false) (fCons (fVar 1) (fCons (fVar 8) (fNil)))) (fNil))) (fVar 12))))))))))))))))))))
noncomputable def m_law : FM := fnM false 1 4 (sSeq (sFor (rng1I (fCons (fA maxW (fCons (fC (.int 1)) (fCons (fA minW (fCons (fC (.int 3)) (fCons (fA lenW (fCons (fVar 0) (fNil))) (fNil)))) (fNil)))) (fNil))) (gN 1)
    (sSeq (sAsg (fA (m__law_box) (fCons (fVar 0) (fCons (fVar 1) (fNil)))) (gN 2))
    (sIf (bNot (fB (fA allW (fCons (fLc false (rng1I (fCons (fC (.int 5)) (fNil))) (gN 3) (bYes) (fA (m__law_right) (fCons (fVar 2) (fNil))) [3]) (fNil))))) (sRet (fC (.bool false))) (sSkip))))
    (sRet (fC (.bool true))))
theorem groupsL {l : Bool} {y : D} {ps : List (Str × Str)} {h : Hh} (hy : IsSeq y (ps.map (prW l))) (hl : ps.length < 64) : ∃ hs : List Str, hs.Nodup ∧ hs.Pairwise (fun a b => leT a b = true) ∧ (∀ t, t ∈ hs ↔ ∃ p ∈ ps, p.2 = t) ∧ m_groups [.dat y] h = some (.dat (.list (hs.map fun t => .tuple [.str t, .tuple ((grp ps t).map .str)])), h) ∧ m_groups__M [.dat y] h = some (.ref h.length, h ++ [some (.lst (hs.map fun t => .tuple [.str t, .tuple ((grp ps t).map .str)]))]) := by
  have hz : sizeLine = 16777216 := rfl
  have key := forL_inv (k := gT 2 (gC (gN 2) (gC (gN 3) (gE)))) (body := groupsIn) (fun n ρ g => ∃ (hs : List Str) (v2 v3 : Option W), ρ = [some (.dat y), some (.ref h.length), v2, v3] ∧ (∀ n, isR n v2 = false) ∧ (∀ n, isR n v3 = false) ∧ g = h ++ [some (.dic (gDic hs (ps.take n)))] ∧ hs.Nodup ∧ (∀ t, t ∈ hs ↔ ∃ p ∈ ps.take n, p.2 = t) ∧ hs.length ≤ n) (ds := ps.map (prW l)) (n := 0)
    (ρ := [some (.dat y), some (.ref h.length), none, none]) (h := h ++ [some (.dic [])]) ⟨[], none, none, rfl, fun _ => rfl, fun _ => rfl, rfl, .nil, fun t => by simp, Nat.le_refl _⟩ (by
      intro j d ej ρ g hi
      obtain ⟨hs, v2, v3, rfl, i2, i3, rfl, nd, hm, hlen⟩ := hi
      rw [Nat.zero_add] at hm hlen ⊢
      rw [List.getElem?_map] at ej
      obtain ⟨p, ep, rfl⟩ := Option.map_eq_some_iff.mp ej
      have hj : j < ps.length := (List.getElem?_eq_some_iff.mp ep).1
      have ts : ps.take (j + 1) = ps.take j ++ [p] := take_snoc ep
      have gl : (grp (ps.take j) p.2).length ≤ 64 := by
        unfold grp
        rw [List.length_map]
        refine Nat.le_trans (List.length_filter_le _ _) ?_
        rw [List.length_take]; omega
      have gdl : (gDic hs (ps.take j)).length < sizeLine := by unfold gDic sdic; rw [List.length_map, List.length_map]; omega
      have key : ∀ hs', putK' (gDic hs (ps.take j)) (.inr p.2) (.list ((grp (ps.take j) p.2).map .str ++ [.str p.1])) = gDic hs' (ps.take j ++ [p]) → groupsIn [some (.dat y), some (.ref h.length), some (.dat (.str p.1)), some (.dat (.str p.2))] (h ++ [some (.dic (gDic hs (ps.take j)))]) = some (.nx [some (.dat y), some (.ref h.length), some (.dat (.str p.1)), some (.dat (.str p.2))], h ++ [some (.dic (gDic hs' (ps.take j ++ [p])))]) := fun hs' e => by
        rw [groups_turn (x := .dat y) (n := h.length) (a := p.1) (t := p.2) (es := gDic hs (ps.take j)) (old := (grp (ps.take j) p.2).map .str) (app_get rfl) ?_ e gdl (by rw [List.length_map]; omega), app_set rfl]
        unfold gDic
        rw [getD_sdic, look_map]
        by_cases q : p.2 ∈ hs
        · rw [if_pos q]; rfl
        · rw [if_neg q, grp_none (fun z => q ((hm _).mpr z))]; rfl
      have kk : gT 2 (gC (gN 2) (gC (gN 3) (gE))) (.dat (prW l p)) [some (.dat y), some (.ref h.length), v2, v3] (h ++ [some (.dic (gDic hs (ps.take j)))]) = some [some (.dat y), some (.ref h.length), some (.dat (.str p.1)), some (.dat (.str p.2))] := by
        clear key hy hl hz ej ep hm hlen nd i2 i3 gl gdl ts hj
        cases l <;> rfl
      by_cases q : p.2 ∈ hs
      · have e := put_old (ps := ps.take j) (p := p) q
        rw [List.map_append] at e
        refine ⟨_, _, _, kk, key hs e, hs, _, _, rfl, fun _ => rfl, fun _ => rfl, by rw [ts], nd, fun t => ?_, by omega⟩
        rw [ts, hm]
        constructor
        · rintro ⟨w, hw, e⟩; exact ⟨w, List.mem_append_left _ hw, e⟩
        · rintro ⟨w, hw, e9⟩
          rcases List.mem_append.mp hw with hw | hw
          · exact ⟨w, hw, e9⟩
          · rw [List.mem_singleton] at hw; subst hw; rw [← e9]; exact (hm _).mp q
      · have e := put_new (ps := ps.take j) (p := p) q (grp_none (fun z => q ((hm _).mpr z)))
        rw [List.map_append] at e
        refine ⟨_, _, _, kk, key (hs ++ [p.2]) e, hs ++ [p.2], _, _, rfl, fun _ => rfl, fun _ => rfl, by rw [ts], ?_, fun t => ?_, by simp; omega⟩
        · rw [List.nodup_append]
          refine ⟨nd, by simp, fun a ha b hb e => ?_⟩
          rw [List.mem_singleton] at hb
          subst hb e
          exact q ha
        · rw [ts, List.mem_append, hm, List.mem_singleton]
          constructor
          · rintro (⟨w, hw, e⟩ | e)
            · exact ⟨w, List.mem_append_left _ hw, e⟩
            · exact ⟨p, List.mem_append_right _ (List.mem_singleton.mpr rfl), e.symm⟩
          · rintro ⟨w, hw, e9⟩
            rcases List.mem_append.mp hw with hw | hw
            · exact .inl ⟨w, hw, e9⟩
            · rw [List.mem_singleton] at hw; subst hw; exact .inr e9.symm)
  obtain ⟨ρ', g, e, hs, v2, v3, rfl, i2, i3, rfl, nd, hm, hlen⟩ := key
  rw [Nat.zero_add, List.length_map] at hm hlen
  rw [Nat.zero_add, List.length_map] at e
  rw [List.take_length] at hm e
  refine ⟨hs.mergeSort leT, (List.mergeSort_perm hs leT).nodup_iff.mpr nd, List.pairwise_mergeSort leT_trans leT_total hs, fun t => by rw [(List.mergeSort_perm hs leT).mem_iff]; exact hm t, ?_⟩
  have hf : frz 1 [some (.dat y), some (.ref h.length), v2, v3] (h ++ [some (.dic (gDic hs ps))]) = some ([some (.dat y), some (.dat (.dict (gDic hs ps))), v2, v3], h ++ [none]) := by
    have g1 : (h ++ [some (MO.dic (gDic hs ps))])[h.length]? = some (some (.dic (gDic hs ps))) := app_get rfl
    have g2 : (h ++ [some (MO.dic (gDic hs ps))]).set h.length none = h ++ [none] := app_set rfl
    unfold frz
    simp only [List.getElem?_cons_zero, List.getElem?_cons_succ, g1, g2, List.set_cons_zero, List.set_cons_succ, List.any_cons, List.any_nil, i2, i3, isR_ref, isR_dat, isR_none, Bool.or_false, isTab, Bool.false_eq_true, if_false, moD]
  have e1 : sortDW false [.dat (.dict (gDic hs ps))] (h ++ [none]) = some (.dat (.list ((hs.mergeSort leT).map .str)), h ++ [none]) := by
    have l1 : hs.length < 64 := by omega
    unfold sortDW gDic
    simp only [deref, isT_sdic, Bool.false_eq_true, if_false, keyS_dic, l1, if_true]
    rfl
  have e2 : lcL (gN 3) bYes (fA tupW (fCons (fVar 3) (fCons (fA tupleW (fCons (f2 idxW (fVar 1) (fVar 3)) (fNil))) (fNil)))) [some (.dat y), some (.dat (.dict (gDic hs ps))), v2, none] ((hs.mergeSort leT).map .str) (h ++ [none]) = some ((hs.mergeSort leT).map (fun t => .tuple [.str t, .tuple ((grp ps t).map .str)]), h ++ [none]) := by
    rw [lcL_all (fun d => .tuple [d, .tuple ((grp ps (unS d)).map .str)])]
    · rw [List.map_map]; rfl
    · intro d hd
      obtain ⟨t, ht, rfl⟩ := List.mem_map.mp hd
      have ht' : t ∈ hs := (List.mergeSort_perm hs leT).mem_iff.mp ht
      have g1 : getD (gDic hs ps) (.str t) = some (some (.list ((grp ps t).map .str))) := by
        unfold gDic
        rw [getD_sdic, look_map, if_pos ht']; rfl
      have c2 : 2 ≤ sizeLine := by omega
      refine ⟨[some (.dat y), some (.dat (.dict (gDic hs ps))), v2, some (.dat (.str t))], rfl, rfl, ?_⟩
      clear e e1 hf hy hl hz hd ht ht' nd hm hlen i2 i3
      walk_at "dl"
      rfl
  have l3 : ((hs.mergeSort leT).map (fun t => PyData.tuple [.str t, .tuple ((grp ps t).map .str)])).length ≤ sizeLine := by
    rw [List.length_map, (List.mergeSort_perm hs leT).length_eq]; omega
  generalize hR : (hs.mergeSort leT).map (fun t => PyData.tuple [.str t, .tuple ((grp ps t).map .str)]) = R at *
  have lv : leave false h (.dat (.list R)) (h ++ [none]) = some (.dat (.list R), h) := by
    have e : (h ++ [none]).take h.length = h := app_take rfl
    rw [leave_dat (by rw [e]), e]
  have lvM : leave true h (.ref (h.length + 1)) (h ++ [none, some (.lst R)]) = some (.ref h.length, h ++ [some (.lst R)]) := by
    have e : (h ++ [none, some (MO.lst R)]).take h.length = h := by rw [List.take_append_of_le_length (Nat.le_refl _), List.take_length]
    have e2 : (h ++ [none, some (MO.lst R)])[h.length + 1]? = some (some (.lst R)) := by rw [List.getElem?_append_right (by omega)]; simp
    unfold leave
    rw [e]
    simp only [if_true, e2]
    rw [if_neg (by omega)]
  have so : seqI (fA (sortDW false) (fCons (fVar 1) (fNil))) [some (.dat y), some (.dat (.dict (gDic hs ps))), v2, v3] (h ++ [none]) = some ((hs.mergeSort leT).map .str, h ++ [none]) := xS (x := .list ((hs.mergeSort leT).map .str)) (xA (xC (E := fVar 1) rfl xN) e1) (.inl rfl)
  have fin : ∀ (m : Bool), (fLc m (seqI (fA (sortDW false) (fCons (fVar 1) (fNil)))) (gN 3) (bYes) (fA tupW (fCons (fVar 3) (fCons (fA tupleW (fCons (f2 idxW (fVar 1) (fVar 3)) (fNil))) (fNil)))) [3]) [some (.dat y), some (.dat (.dict (gDic hs ps))), v2, v3] (h ++ [none]) = mkL m R (h ++ [none]) := fun m => by
    have e2' : lcL (gN 3) bYes (fA tupW (fCons (fVar 3) (fCons (fA tupleW (fCons (f2 idxW (fVar 1) (fVar 3)) (fNil))) (fNil)))) (wipeE [some (.dat y), some (.dat (.dict (gDic hs ps))), v2, v3] [3]) ((hs.mergeSort leT).map .str) (h ++ [none]) = some (R, h ++ [none]) := e2
    unfold fLc
    simp only [so, obnd, e2']
    rw [if_pos l3]
  have walk : ∀ (m : Bool) (w : W) (h' : Hh), mkL m R (h ++ [none]) = some (w, h') → (sSeq (sAsg (fDn true) (gN 1))
    (sSeq (sFor (seqI (fVar 0)) (gT 2 (gC (gN 2) (gC (gN 3) (gE)))) groupsIn)
    (sFrz 1 (sRet (fLc m (seqI (fA (sortDW false) (fCons (fVar 1) (fNil)))) (gN 3) (bYes) (fA tupW (fCons (fVar 3) (fCons (fA tupleW (fCons (f2 idxW (fVar 1) (fVar 3)) (fNil))) (fNil)))) [3]))))) [some (.dat y), none, none, none] h = some (.rt w, h') := fun m w h' hm' => by
    refine (zA (w := .ref h.length) (h1 := h ++ [some (.dic [])]) (ρ1 := [some (.dat y), some (.ref h.length), none, none]) rfl rfl).trans ?_
    refine (zF (xS (E := fVar 0) (x := y) rfl hy) e).trans ?_
    refine (zZ hf).trans ?_
    exact zR ((fin m).trans hm')
  exact ⟨fnM_rt (w := .dat (.list R)) (h' := h ++ [none]) (walk false _ _ rfl) rfl lv, fnM_rt (rm := true) (w := .ref (h ++ [none]).length) (h' := (h ++ [none]) ++ [some (.lst R)]) (walk true _ _ rfl) rfl (by rw [List.length_append, List.append_assoc]; exact lvM)⟩
theorem goersL {l : Bool} {x : D} {ps : List (Str × Str)} {h : Hh} (hx : IsSeq x (ps.map (prW l))) (hl : ps.length ≤ 1000) : m_goers [.dat x] h = some (.dat (.list (((ps.filter fun p => !decide (p.1 = p.2)).map (·.1)).map .str)), h) ∧ m_goers__M [.dat x] h = some (.ref h.length, h ++ [some (.lst (((ps.filter fun p => !decide (p.1 = p.2)).map (·.1)).map .str))]) := by
  have hz : sizeLine = 16777216 := rfl
  have e1 : ∀ ps : List (Str × Str), lcL (gT 2 (gC (gN 1) (gC (gN 2) (gE)))) (fB (f2 (eqW true) (fVar 1) (fVar 2))) (fVar 1) [some (.dat x), none, none] (ps.map (prW l)) h = some (((ps.filter fun p => !decide (p.1 = p.2)).map (·.1)).map .str, h) := fun ps => by
    have := lcL_map (k := gT 2 (gC (gN 1) (gC (gN 2) (gE)))) (t := fB (f2 (eqW true) (fVar 1) (fVar 2))) (f := fVar 1) (ρ := [some (.dat x), none, none]) (h := h) (fun d => match d with | .tuple [.str a, .str b] => !decide (a = b) | .list [.str a, .str b] => !decide (a = b) | _ => false) (fun d => match d with | .tuple [a, _] => a | .list [a, _] => a | d => d) (ds := ps.map (prW l)) (by
      intro d hd
      obtain ⟨p, _, rfl⟩ := List.mem_map.mp hd
      have q := eqW_strs (neg := true) (i := p.1) (j := p.2) (h := h)
      refine ⟨[some (.dat x), some (.dat (.str p.1)), some (.dat (.str p.2))], ?_, ?_, fun _ => by cases l <;> rfl⟩
      · cases l <;> rfl
      · have t := xB (x2 (f := eqW true) (A := fVar 1) (B := fVar 2) (ρ := [some (.dat x), some (.dat (.str p.1)), some (.dat (.str p.2))]) (h := h) rfl rfl q)
        rw [t]
        cases l <;> rfl)
    rw [this, List.filter_map, List.map_map, List.map_map]
    cases l <;> rfl
  have e2 := e1 ps
  have l1 : ((((ps.filter fun p => !decide (p.1 = p.2)).map (·.1)).map PyData.str)).length ≤ sizeLine := by
    rw [List.length_map, List.length_map]
    have := List.length_filter_le (fun p : Str × Str => !decide (p.1 = p.2)) ps
    omega
  generalize ((ps.filter fun p => !decide (p.1 = p.2)).map (·.1)).map PyData.str = R at *
  have fin : ∀ (m : Bool), (fLc m (seqI (fVar 0)) (gT 2 (gC (gN 1) (gC (gN 2) (gE)))) (fB (f2 (eqW true) (fVar 1) (fVar 2))) (fVar 1) [1, 2]) [some (.dat x), none, none] h = mkL m R h := fun m => by
    have so : seqI (fVar 0) [some (.dat x), none, none] h = some (ps.map (prW l), h) := xS (E := fVar 0) (x := x) rfl hx
    have e2' : lcL (gT 2 (gC (gN 1) (gC (gN 2) (gE)))) (fB (f2 (eqW true) (fVar 1) (fVar 2))) (fVar 1) (wipeE [some (.dat x), none, none] [1, 2]) (ps.map (prW l)) h = some (R, h) := e2
    unfold fLc
    simp only [so, obnd, e2']
    rw [if_pos l1]
  have lvM : leave true h (.ref h.length) (h ++ [some (.lst R)]) = some (.ref h.length, h ++ [some (.lst R)]) := leave_tail (rm := true) (h := h) (tl := []) (ds := R)
  exact ⟨fnM_rt (w := .dat (.list R)) (h' := h) (zR (fin false)) rfl leave_same', fnM_rt (rm := true) (w := .ref h.length) (h' := h ++ [some (MO.lst R)]) (zR ((fin true).trans (rfl : mkL true R h = some (.ref h.length, h ++ [some (MO.lst R)])))) rfl lvM⟩
theorem lists_call {ps : List (Str × Str)} {h : Hh} (hl : ps.length ≤ 1000) : m__law_lists 12 [.dat (cT ps)] h = some (.dat (cD true ps), h) := by
  have e : lsts (cT ps) = cD true ps := by
    show lsts (.tuple (ps.map prT)) = .list (ps.map (prW true))
    rw [← lsts_call ps]; rfl
  have d : PyData.depth (.tuple (ps.map prT)) ≤ 2 := depth_call ps
  rw [lists_ok 12 _ h (plain_call hl) (by show PyData.depth (.tuple (ps.map prT)) < 12; omega), e]
theorem lcL_filt {α : Type} {k : TM} {t : BM} {f : EM} {ρ : DL.Env} {h : Hh} (em g : α → D) (p : α → Bool) : ∀ {xs : List α}, (∀ x ∈ xs, ∃ ρ1, k (.dat (em x)) ρ h = some ρ1 ∧ t ρ1 h = some (p x, h) ∧ f ρ1 h = some (.dat (g x), h)) → lcL k t f ρ (xs.map em) h = some ((xs.filter p).map g, h)
  | [], _ => rfl
  | x :: xs, H => by
    obtain ⟨ρ1, e1, e2, e3⟩ := H x List.mem_cons_self
    have ih := lcL_filt em g p (xs := xs) fun y hy => H y (List.mem_cons_of_mem _ hy)
    rw [List.map_cons, lcL]
    simp only [e1, e2, obnd]
    cases hp : p x with
    | true =>
      rw [List.filter_cons_of_pos hp, List.map_cons]
      simp only [if_true, e3, ih]
    | false =>
      rw [List.filter_cons_of_neg (by simp [hp])]
      simp only [Bool.false_eq_true, if_false, ih]
theorem kv_show : ∀ l : List (Str × Str), TxtP l → PyData.showableKv (l.map fun p => (PyData.str p.1, PyData.str p.2)) = true ∧ ((PyData.shownKv (l.map fun p => (PyData.str p.1, PyData.str p.2))).map (·.length)).sum ≤ 2006 * l.length ∧ (PyData.shownKv (l.map fun p => (PyData.str p.1, PyData.str p.2))).length = l.length
  | [], _ => ⟨rfl, Nat.le_refl _, rfl⟩
  | p :: l, h => by
    obtain ⟨h1, h2, h3⟩ := kv_show l fun q hq => h q (List.mem_cons_of_mem _ hq)
    obtain ⟨t1, t2⟩ := h p List.mem_cons_self
    have r1 := StrLaws.reprText_len p.1 fun c hc => by have := t1.2 c hc; omega
    have r2 := StrLaws.reprText_len p.2 fun c hc => by have := t2.2 c hc; omega
    have l1 := t1.1
    have l2 := t2.1
    refine ⟨?_, ?_, ?_⟩
    · rw [List.map_cons, PyData.showableKv, PyData.showable, PyData.showable, h1]; rfl
    · rw [List.map_cons, PyData.shownKv, List.map_cons, List.sum_cons, List.length_cons, PyData.shown, PyData.shown, strLen_append, strLen_append]
      have c : (": " : Str).length = 2 := rfl
      rw [c]
      omega
    · rw [List.map_cons, PyData.shownKv, List.length_cons, List.length_cons, h3]
theorem sdic_tld (l : List (Str × Str)) : sdic (tld l) = l.map fun p => (PyData.str p.1, PyData.str p.2) := by
  unfold sdic tld
  rw [List.map_map]
  rfl
theorem rowS_tld2 (l : List (Str × Str)) : rowS ((sdic (tld l)).map (·.2)) = some (l.map (·.2)) := by
  rw [sdic_tld, List.map_map]
  have := rowS_strs (l.map (·.2))
  rw [List.map_map] at this
  exact this
theorem rowS_tld1 (l : List (Str × Str)) : rowS ((sdic (tld l)).map (·.1)) = some (l.map (·.1)) := by
  rw [sdic_tld, List.map_map]
  have := rowS_strs (l.map (·.1))
  rw [List.map_map] at this
  exact this
theorem reprD_ok {l : List (Str × Str)} {h : Hh} (tl : TxtP l) (hl : l.length ≤ 1000) : reprDW [.dat (dW l)] h = some (.dat (.str (PyData.dict (sdic (tld l))).shown), h) := by
  have hz : sizeLine = 16777216 := rfl
  obtain ⟨h1, h2, h3⟩ := kv_show l tl
  have a : (PyData.dict (sdic (tld l))).showable = true := by rw [PyData.showable, sdic_tld]; exact h1
  have b : (PyData.dict (sdic (tld l))).shown.length ≤ sizeLine := by
    rw [PyData.shown, sdic_tld]
    have := dictText_len_le (PyData.shownKv (l.map fun p => (PyData.str p.1, PyData.str p.2)))
    omega
  unfold reprDW
  simp only [deref, isT_sdic, Bool.false_eq_true, if_false, rowS_tld1, rowS_tld2, a, decide_eq_true b, Bool.and_self, if_true]
  rfl
theorem inV_ok {l : List (Str × Str)} {s : Str} {h : Hh} : inVW (.dat (.str s)) (.dat (dW l)) h = some (.dat (.bool (decide (s ∈ l.map (·.2)))), h) := by
  unfold inVW
  simp only [deref, isT_sdic, Bool.false_eq_true, if_false, rowS_tld2]
  rfl
theorem eq_text {s t : Str} {ρ : DL.Env} {A B : EM} {h : Hh} (ha : A ρ h = some (.dat (.str s), h)) (hb : B ρ h = some (.dat (.str t), h)) {neg : Bool} : fB (f2 (eqW neg) A B) ρ h = some (if neg = true then decide (s ≠ t) else decide (s = t), h) := by
  have := xB (x2 (f := eqW neg) ha hb (eqW_strs (neg := neg) (i := s) (j := t)))
  rw [this]
  cases neg <;> by_cases z : s = t <;> simp [z]
noncomputable def keT : BM := (bOr (fB (f2 (eqW true) (f2 idxW (fVar 19) (fC (.int 0))) (f2 idxW (fVar 19) (fC (.int 1))))) (fB (f2 (eqW false) (fA (m__law_take) (fCons (fVar 0) (fCons (fC (.int 2)) (fNil)))) (fC (.int 0)))))
theorem keep_ok {ρ : DL.Env} {b : Nat} (h0 : ∀ g, fVar 0 ρ g = some (.ref b, g)) (hρ : ∀ d : D, ∀ g, ∃ ρ1, gN 19 (.dat d) ρ g = some ρ1 ∧ (∀ g', fVar 19 ρ1 g' = some (.dat d, g')) ∧ ∀ g', fVar 0 ρ1 g' = some (.ref b, g')) : ∀ (ps : List (Str × Str)) (c : Nat) (h : Hh), BoxAt h b c → c + ps.length < 100000 →
    ∃ (tl : List (Str × Str)) (h' : Hh), lcL (gN 19) keT (fVar 19) ρ (ps.map prT) h = some (tl.map prT, h') ∧ tl.Sublist ps ∧ (∀ p ∈ ps, p.1 ≠ p.2 → p ∈ tl) ∧ BoxAt h' b (c + ps.length) ∧ Only b h h'
  | [], c, h, hb, _ => ⟨[], h, rfl, List.Sublist.refl _, (fun p hp => by cases hp), hb, Only.refl b h⟩
  | p :: ps, c, h, hb, hc => by
    rw [List.length_cons] at hc
    obtain ⟨ρ1, k, v19, v0⟩ := hρ (prT p) h
    have i0 : f2 idxW (fVar 19) (fC (.int 0)) ρ1 h = some (.dat (.str p.1), h) := x2 (v19 h) (B := fC (.int 0)) rfl rfl
    have i1 : f2 idxW (fVar 19) (fC (.int 1)) ρ1 h = some (.dat (.str p.2), h) := x2 (v19 h) (B := fC (.int 1)) rfl rfl
    have t1 := eq_text (neg := true) i0 i1
    rw [if_pos rfl] at t1
    by_cases z : p.1 = p.2
    · rw [decide_eq_false (fun q => q z)] at t1
      obtain ⟨r, g1, e1, r0, r1, b1, o1⟩ := take_ok (n := 2) hb (by omega) (by omega) (by omega)
      have t2 : fB (f2 (eqW false) (fA (m__law_take) (fCons (fVar 0) (fCons (fC (.int 2)) (fNil)))) (fC (.int 0))) ρ1 h = some (decide (r = 0), g1) := by
        have e0 : f2 (eqW false) (fA (m__law_take) (fCons (fVar 0) (fCons (fC (.int 2)) (fNil)))) (fC (.int 0)) ρ1 h = some (.dat (.bool (decide (r = 0))), g1) := x2 (xA (xC (v0 h) (xC (E := fC (.int 2)) rfl xN)) e1) (B := fC (.int 0)) rfl (eqW_ints (neg := false) (i := r) (j := 0))
        unfold fB
        simp only [e0, obnd]
      have tt : keT ρ1 h = some (decide (r = 0), g1) := by
        unfold keT bOr
        simp only [t1, obnd, Bool.false_eq_true, if_false, t2]
      obtain ⟨tl, h', e, sb, al, b2, o2⟩ := keep_ok h0 hρ ps (c + 1) g1 b1 (by omega)
      refine ⟨if decide (r = 0) = true then p :: tl else tl, h', ?_, ?_, ?_, b2.mono (by rw [List.length_cons]; omega), o1.trans o2⟩
      · rw [List.map_cons, lcL]
        simp only [k, tt, obnd]
        cases decide (r = 0) with
        | true => simp only [if_true, v19 g1, e, List.map_cons]
        | false => simp only [Bool.false_eq_true, if_false, e]
      · split
        · exact sb.cons_cons p
        · exact sb.cons p
      · intro q hq ne
        rcases List.mem_cons.mp hq with rfl | hq
        · exact absurd z ne
        · split
          · exact List.mem_cons_of_mem _ (al q hq ne)
          · exact al q hq ne
    · rw [decide_eq_true z] at t1
      have tt : keT ρ1 h = some (true, h) := by
        unfold keT bOr
        simp only [t1, obnd, if_true]
      obtain ⟨tl, h', e, sb, al, b2, o2⟩ := keep_ok h0 hρ ps c h hb (by omega)
      refine ⟨p :: tl, h', ?_, sb.cons_cons p, ?_, b2.mono (by rw [List.length_cons]; omega), o2⟩
      · rw [List.map_cons, lcL]
        simp only [k, tt, obnd, if_true, v19 h, e, List.map_cons]
      · intro q hq ne
        rcases List.mem_cons.mp hq with rfl | hq
        · exact List.mem_cons_self
        · exact List.mem_cons_of_mem _ (al q hq ne)
theorem ofL_keep {S : List Str} {ps tl : List (Str × Str)} (R : Rnd S ps) (sb : tl.Sublist ps) (al : ∀ p ∈ ps, p.1 ≠ p.2 → p ∈ tl) : ofL S tl = ps := by
  have nd := R.nd
  have ndt : (tl.map (·.1)).Nodup := nd.sublist (sb.map _)
  have e : ps = S.map fun s => (s, goal ps s) := by
    have := R.key
    have h1 : (ps.map (·.1)).map (fun s => (s, goal ps s)) = ps := by
      rw [List.map_map]
      refine (List.map_congr_left fun p hp => ?_).trans (List.map_id _)
      show (p.1, goal ps p.1) = p
      rw [goal_of nd p hp]
    rw [← this]
    exact h1.symm
  rw [e]
  unfold ofL
  refine List.map_congr_left fun s hs => ?_
  have hm : (s, goal ps s) ∈ ps := by
    have : (s, goal ps s) ∈ S.map fun s => (s, goal ps s) := List.mem_map.mpr ⟨s, hs, rfl⟩
    rw [← e] at this
    exact this
  congr 1
  by_cases z : (s, goal ps s) ∈ tl
  · exact goal_of ndt _ z
  · have st : s = goal ps s := Classical.byContradiction fun ne => z (al _ hm ne)
    rw [← st]
    unfold goal
    have : tl.lookup s = none := by
      rw [List.lookup_eq_none_iff]
      intro q hq
      have ne : s ≠ q.1 := fun e2 => by
        have h1 := goal_of nd q (sb.subset hq)
        have : q = (s, goal ps s) := Prod.ext e2.symm (by rw [← h1, ← e2])
        exact z (this ▸ hq)
      simpa using ne
    rw [this]
    rfl
theorem ofL_none (S : List Str) : ofL S [] = S.map fun s => (s, s) := rfl
theorem ofL_one (S : List Str) (a t : Str) : ofL S [(a, t)] = S.map fun s => (s, if s = a then t else s) := by
  unfold ofL
  refine List.map_congr_left fun s _ => ?_
  rw [goal_one]
theorem good_map {S : List Str} {f : Str → Str} (so : Sor S) (pos : 0 < S.length) (few : S.length ≤ 30) (nam : ∀ s ∈ S, NameOk s) (hf : ∀ s ∈ S, f s ∈ S) : GoodC (S.map fun s => (s, f s)) := by
  have e : (S.map fun s => (s, f s)).map (·.1) = S := by rw [List.map_map]; exact List.map_id S
  refine ⟨by rw [List.length_map]; exact pos, by rw [List.length_map]; exact few, fun p hp => ?_, by rw [e]; exact so.nd, by rw [e]; exact so.pw, fun p hp => ?_⟩
  · obtain ⟨s, hs, rfl⟩ := List.mem_map.mp hp
    exact ⟨nam s hs, nam _ (hf s hs)⟩
  · obtain ⟨s, hs, rfl⟩ := List.mem_map.mp hp
    rw [e]
    exact hf s hs
theorem grp_filt {S : List Str} {ps : List (Str × Str)} (R : Rnd S ps) (t : Str) : grp ps t = S.filter fun s => decide (goal ps s = t) := by
  unfold grp
  rw [← R.key, List.filter_map]
  congr 1
  refine List.filter_congr fun p hp => ?_
  show _ = decide (goal ps p.1 = t)
  rw [goal_of R.nd p hp]
theorem goers_filt {S : List Str} {ps : List (Str × Str)} (R : Rnd S ps) : (ps.filter fun p => !decide (p.1 = p.2)).map (·.1) = S.filter fun s => decide (goal ps s ≠ s) := by
  rw [← R.key, List.filter_map]
  congr 1
  refine List.filter_congr fun p hp => ?_
  show _ = decide (goal ps p.1 ≠ p.1)
  rw [goal_of R.nd p hp]
  by_cases z : p.1 = p.2
  · simp [z]
  · have : p.2 ≠ p.1 := fun e => z e.symm
    simp [z, this]
theorem heads_filt {S hs : List Str} {ps : List (Str × Str)} (R : Rnd S ps) (nd : hs.Nodup) (pw : hs.Pairwise fun a b => leT a b = true) (hm : ∀ t, t ∈ hs ↔ ∃ p ∈ ps, p.2 = t) : hs = S.filter fun s => decide (s ∈ ps.map (·.2)) := by
  refine Sor.eq ⟨nd, pw⟩ ⟨R.sor.nd.filter _, R.sor.pw.sublist List.filter_sublist⟩ fun t => ?_
  rw [hm, List.mem_filter, decide_eq_true_eq, List.mem_map]
  exact ⟨fun ⟨p, hp, e⟩ => ⟨e ▸ R.tgt p hp, p, hp, e⟩, fun ⟨_, p, hp, e⟩ => ⟨p, hp, e⟩⟩
theorem thaw4 {i : Nat} {f : BM} {ρ : DL.Env} {g : Hh} {l1 l2 l3 l4 : List D} {b : Bool} (er : ρ[i]? = some (some (.pack [.inl g.length, .inl (g.length + 1), .inl (g.length + 2), .inl (g.length + 3)]))) (hn : ∀ n, g.length ≤ n → (ρ.set i none).any (isR n) = false) (ok : g.all okM = true)
    (e : f (ρ.set i (some (.dat (.list [.list l1, .list l2, .list l3, .list l4])))) (g ++ [none, none, none, none]) = some (b, g ++ [none, none, none, none])) :
    bThaw i f ρ (g ++ [some (.lst l1), some (.lst l2), some (.lst l3), some (.lst l4)]) = some (b, g ++ [some (.lst l1), some (.lst l2), some (.lst l3), some (.lst l4)]) := by
  have ek : killG [g.length, g.length + 1, g.length + 2, g.length + 3] (g ++ [some (MO.lst l1), some (.lst l2), some (.lst l3), some (.lst l4)]) = g ++ [none, none, none, none] := by simp [killG, List.set_append]
  have eb : backG [g.length, g.length + 1, g.length + 2, g.length + 3] (g ++ [some (MO.lst l1), some (.lst l2), some (.lst l3), some (.lst l4)]) (g ++ [none, none, none, none]) = g ++ [some (.lst l1), some (.lst l2), some (.lst l3), some (.lst l4)] := by simp [backG, List.set_append]
  have h1 : (g ++ [some (MO.lst l1), some (.lst l2), some (.lst l3), some (.lst l4)])[g.length]? = some (some (.lst l1)) := by simp
  have h2 : (g ++ [some (MO.lst l1), some (.lst l2), some (.lst l3), some (.lst l4)])[g.length + 1]? = some (some (.lst l2)) := by simp
  have h3 : (g ++ [some (MO.lst l1), some (.lst l2), some (.lst l3), some (.lst l4)])[g.length + 2]? = some (some (.lst l3)) := by simp
  have h4 : (g ++ [some (MO.lst l1), some (.lst l2), some (.lst l3), some (.lst l4)])[g.length + 3]? = some (some (.lst l4)) := by simp
  have lo : (g ++ [none, none, none, none] : Hh).length = (g ++ [some (MO.lst l1), some (.lst l2), some (.lst l3), some (.lst l4)]).length ∧ (g ++ [none, none, none, none] : Hh).all okM = true := by
    refine ⟨by simp, ?_⟩
    rw [List.all_append, ok]
    rfl
  unfold bThaw
  simp only [er, openP, h1, h2, h3, h4, ek, e, List.any_cons, List.any_nil, hn _ (Nat.le_refl _), hn _ (Nat.le_succ _), hn _ (Nat.le_add_right g.length 2), hn _ (Nat.le_add_right g.length 3), Bool.or_false, Bool.false_eq_true, if_false]
  rw [if_pos lo, eb]
noncomputable def moB : SM := (sExpr (fM isL appendW (fVar 17) (fCons (fC (.str "more")) (fNil))))
def Pl (B : Nat) (L : Hh) : Prop := ∀ o ∈ L, ∃ ds : List D, o = some (.lst ds) ∧ noLs ds = true ∧ ds.length ≤ B
theorem Pl.ok {B : Nat} {L : Hh} (h : Pl B L) : L.all okM = true := by
  rw [List.all_eq_true]
  intro o ho
  obtain ⟨ds, rfl, n, _⟩ := h o ho
  exact n
abbrev E03 (b : Nat) (a1 a2 a4 a5 a6 a8 a9 a10 a11 a12 a13 a14 a15 a16 : D) (v3 v7 v17 : Option W) : DL.Env := [some (.ref b), some (.dat a1), some (.dat a2), v3, some (.dat a4), some (.dat a5), some (.dat a6), v7, some (.dat a8), some (.dat a9), some (.dat a10), some (.dat a11), some (.dat a12), some (.dat a13), some (.dat a14), some (.dat a15), some (.dat a16), v17, none, none, none]
section
variable {b : Nat} {a1 a2 a4 a5 a6 a8 a9 a10 a11 a12 a13 a14 a15 a16 : D}
theorem more_loop {v3 v7 : Option W} {g : Hh} : ∀ (ps : List (Sum Nat D)) (L : Hh) (B : Nat) (v17 : Option W), (∀ p ∈ ps, ∃ k, p = .inl (g.length + k) ∧ k < L.length) → Pl B L → B + ps.length ≤ 100000 → (∀ m, g.length + L.length ≤ m → isR m v17 = false) →
    ∃ (L' : Hh) (w17 : Option W), forP (gN 17) moB ps (E03 b a1 a2 a4 a5 a6 a8 a9 a10 a11 a12 a13 a14 a15 a16 v3 v7 v17) (g ++ L) = some (.nx (E03 b a1 a2 a4 a5 a6 a8 a9 a10 a11 a12 a13 a14 a15 a16 v3 v7 w17), g ++ L') ∧ L'.length = L.length ∧ Pl (B + ps.length) L' ∧ (∀ m, g.length + L.length ≤ m → isR m w17 = false)
  | [], L, B, v17, _, hL, _, hv => ⟨L, v17, rfl, rfl, hL, hv⟩
  | p :: ps, L, B, v17, hp, hL, hB, hv => by
    have hz : sizeLine = 16777216 := rfl
    rw [List.length_cons] at hB
    obtain ⟨k, rfl, hk⟩ := hp p List.mem_cons_self
    obtain ⟨ds, eo, nn, dl⟩ := hL L[k] (List.getElem_mem hk)
    have at_ : (g ++ L)[g.length + k]? = some (some (.lst ds)) := by
      rw [List.getElem?_append_right (by omega), show g.length + k - g.length = k by omega, List.getElem?_eq_getElem hk, eo]
    have st : (g ++ L).set (g.length + k) (some (.lst (ds ++ [.str "more"]))) = g ++ L.set k (some (.lst (ds ++ [.str "more"]))) := by
      rw [List.set_append, if_neg (by omega), show g.length + k - g.length = k by omega]
    have pl : Pl (B + 1) (L.set k (some (.lst (ds ++ [.str "more"])))) := fun o ho => by
      rcases List.mem_or_eq_of_mem_set ho with h | rfl
      · obtain ⟨d2, a, c, e⟩ := hL o h
        exact ⟨d2, a, c, by omega⟩
      · exact ⟨_, rfl, noLs_app nn rfl, by rw [List.length_append, List.length_singleton]; omega⟩
    obtain ⟨L', w17, e, e1, e2, e3⟩ := more_loop ps (L.set k (some (.lst (ds ++ [.str "more"])))) (B + 1) (some (.ref (g.length + k))) (fun q hq => by
      obtain ⟨k2, a, c⟩ := hp q (List.mem_cons_of_mem _ hq)
      exact ⟨k2, a, by rw [List.length_set]; exact c⟩) pl (by omega) (fun m hm => by rw [List.length_set] at hm; exact decide_eq_false (by omega))
    rw [List.length_set] at e1 e3
    refine ⟨L', w17, ?_, e1, (fun o ho => by
      obtain ⟨d2, a, c, e⟩ := e2 o ho
      exact ⟨d2, a, c, by rw [List.length_cons]; omega⟩), e3⟩
    have iw : itW (g ++ L) (.inl (g.length + k)) = some (.ref (g.length + k)) := by
      unfold itW
      simp only [at_]
    have k1 : gN 17 (.ref (g.length + k)) (E03 b a1 a2 a4 a5 a6 a8 a9 a10 a11 a12 a13 a14 a15 a16 v3 v7 v17) (g ++ L) = some (E03 b a1 a2 a4 a5 a6 a8 a9 a10 a11 a12 a13 a14 a15 a16 v3 v7 (some (.ref (g.length + k)))) := rfl
    have ap := zAppE (A := fVar 17) (E := fC (.str "more")) (ρ := E03 b a1 a2 a4 a5 a6 a8 a9 a10 a11 a12 a13 a14 a15 a16 v3 v7 (some (.ref (g.length + k)))) (n := g.length + k) (ds := ds) (d := .str "more") (h := g ++ L) rfl at_ rfl at_ (by omega)
    rw [st] at ap
    have ap : moB (E03 b a1 a2 a4 a5 a6 a8 a9 a10 a11 a12 a13 a14 a15 a16 v3 v7 (some (.ref (g.length + k)))) (g ++ L) = some (.nx (E03 b a1 a2 a4 a5 a6 a8 a9 a10 a11 a12 a13 a14 a15 a16 v3 v7 (some (.ref (g.length + k)))), g ++ L.set k (some (.lst (ds ++ [.str "more"])))) := ap
    unfold forP
    simp only [iw, k1, ap]
    exact e
noncomputable def tu03 : SM :=
    (sSeq (sAsg (fA packW (fCons (fA (m_groups__M) (fCons (fVar 8) (fNil))) (fCons (fA (kwM 1 [0] (m_groups__M)) (fCons (fA (m__law_lists 12) (fCons (fVar 8) (fNil))) (fNil))) (fCons (fA (m_goers__M) (fCons (fVar 8) (fNil))) (fCons (fA (kwM 1 [0] (m_goers__M)) (fCons (fA (m__law_lists 12) (fCons (fVar 8) (fNil))) (fNil))) (fNil)))))) (gN 3))
    (sSeq (sIf (bThaw 3 (bNot (fB (fA (m__law_same 12) (fCons (fVar 3) (fCons (fA (lstW false) (fCons (fVar 5) (fCons (fVar 5) (fCons (fVar 6) (fCons (fVar 6) (fNil)))))) (fNil))))))) (sRet (fC (.bool false))) (sSkip))
    (sForP (seqP (fVar 3)) (gN 17) moB)))
theorem tu_ok {ps : List (Str × Str)} {L5 L6 : List D} {v3 v7 v17 : Option W} {g : Hh} (hl : ps.length ≤ 1000) (p1 : ∀ h, m_groups__M [.dat (cT ps)] h = some (.ref h.length, h ++ [some (.lst L5)])) (p2 : ∀ h, m_groups__M [.dat (cD true ps)] h = some (.ref h.length, h ++ [some (.lst L5)])) (p3 : ∀ h, m_goers__M [.dat (cT ps)] h = some (.ref h.length, h ++ [some (.lst L6)])) (p4 : ∀ h, m_goers__M [.dat (cD true ps)] h = some (.ref h.length, h ++ [some (.lst L6)]))
    (sm : ∀ h, m__law_same 12 [.dat (.list [.list L5, .list L5, .list L6, .list L6]), .dat (.list [.list L5, .list L5, .list L6, .list L6])] h = some (.dat (.bool true), h)) (n5 : noLs L5 = true) (n6 : noLs L6 = true) (l5 : L5.length ≤ 1000) (l6 : L6.length ≤ 1000) (hb : b < g.length) (ok : g.all okM = true) (h7 : ∀ m, isR m v7 = false) (h17 : ∀ m, g.length ≤ m → isR m v17 = false) :
    ∃ (w3 w17 : Option W) (g' : Hh), tu03 (E03 b a1 a2 a4 (.list L5) (.list L6) (cT ps) a9 a10 a11 a12 a13 a14 a15 a16 v3 v7 v17) g = some (.nx (E03 b a1 a2 a4 (.list L5) (.list L6) (cT ps) a9 a10 a11 a12 a13 a14 a15 a16 w3 v7 w17), g ++ g') ∧ g'.all okM = true ∧ (∀ m, (g ++ g').length ≤ m → isR m w17 = false) := by
  have hz : sizeLine = 16777216 := rfl
  have c4 : 4 ≤ sizeLine := by decide
  have k1 : ∀ h, kwM 1 [0] m_groups__M [.dat (cD true ps)] h = some (.ref h.length, h ++ [some (.lst L5)]) := fun h => (show kwM 1 [0] m_groups__M [.dat (cD true ps)] h = m_groups__M [.dat (cD true ps)] h from rfl).trans (p2 h)
  have k2 : ∀ h, kwM 1 [0] m_goers__M [.dat (cD true ps)] h = some (.ref h.length, h ++ [some (.lst L6)]) := fun h => (show kwM 1 [0] m_goers__M [.dat (cD true ps)] h = m_goers__M [.dat (cD true ps)] h from rfl).trans (p4 h)
  let L : Hh := [some (.lst L5), some (.lst L5), some (.lst L6), some (.lst L6)]
  let V3 : Option W := some (.pack [.inl g.length, .inl (g.length + 1), .inl (g.length + 2), .inl (g.length + 3)])
  have pk : ∀ (n1 n2 n3 n4 : Nat) (h : Hh), packW [.ref n1, .ref n2, .ref n3, .ref n4] h = some (.pack [.inl n1, .inl n2, .inl n3, .inl n4], h) := fun n1 n2 n3 n4 h => by
    unfold packW
    show (if 4 ≤ sizeLine then some (W.pack [.inl n1, .inl n2, .inl n3, .inl n4], h) else none) = some (W.pack [.inl n1, .inl n2, .inl n3, .inl n4], h)
    rw [if_pos c4]
  have ep : fA packW (fCons (fA (m_groups__M) (fCons (fVar 8) (fNil))) (fCons (fA (kwM 1 [0] (m_groups__M)) (fCons (fA (m__law_lists 12) (fCons (fVar 8) (fNil))) (fNil))) (fCons (fA (m_goers__M) (fCons (fVar 8) (fNil))) (fCons (fA (kwM 1 [0] (m_goers__M)) (fCons (fA (m__law_lists 12) (fCons (fVar 8) (fNil))) (fNil))) (fNil))))) (E03 b a1 a2 a4 (.list L5) (.list L6) (cT ps) a9 a10 a11 a12 a13 a14 a15 a16 v3 v7 v17) g = some (.pack [.inl g.length, .inl (g.length + 1), .inl (g.length + 2), .inl (g.length + 3)], g ++ L) := by
    have q := xA (m := packW) (xC (xA (xC (E := fVar 8) (ρ := E03 b a1 a2 a4 (.list L5) (.list L6) (cT ps) a9 a10 a11 a12 a13 a14 a15 a16 v3 v7 v17) (h := g) rfl xN) (p1 g)) (xC (xA (xC (xA (xC (E := fVar 8) rfl xN) (lists_call hl)) xN) (k1 _)) (xC (xA (xC (E := fVar 8) rfl xN) (p3 _)) (xC (xA (xC (xA (xC (E := fVar 8) rfl xN) (lists_call hl)) xN) (k2 _)) xN)))) (pk _ _ _ _ _)
    rw [q]
    simp [L]
  have tA : bThaw 3 (bNot (fB (fA (m__law_same 12) (fCons (fVar 3) (fCons (fA (lstW false) (fCons (fVar 5) (fCons (fVar 5) (fCons (fVar 6) (fCons (fVar 6) (fNil)))))) (fNil)))))) (E03 b a1 a2 a4 (.list L5) (.list L6) (cT ps) a9 a10 a11 a12 a13 a14 a15 a16 V3 v7 v17) (g ++ L) = some (false, g ++ L) := by
    refine thaw4 (i := 3) rfl (fun m hm => ?_) ok ?_
    · have q0 : isR m (some (.ref b)) = false := decide_eq_false (by omega)
      have kd : ∀ d : D, isR m (some (.dat d)) = false := fun _ => rfl
      have kn : isR m none = false := rfl
      simp only [E03, List.set_cons_zero, List.set_cons_succ, List.any_cons, List.any_nil, q0, h7 m, h17 m hm, kd, kn, Bool.or_false]
    · exact xT (xA (xC (E := fVar 3) rfl (xC (xA (xC (E := fVar 5) rfl (xC (E := fVar 5) rfl (xC (E := fVar 6) rfl (xC (E := fVar 6) rfl xN)))) (xLst (ds := [.list L5, .list L5, .list L6, .list L6]) rfl c4)) xN)) (sm _))
  have pl : Pl 1000 L := fun o ho => by
    simp only [L, List.mem_cons, List.not_mem_nil, or_false] at ho
    rcases ho with rfl | rfl | rfl | rfl
    · exact ⟨L5, rfl, n5, l5⟩
    · exact ⟨L5, rfl, n5, l5⟩
    · exact ⟨L6, rfl, n6, l6⟩
    · exact ⟨L6, rfl, n6, l6⟩
  obtain ⟨L', w17, el, ll, pl', i17⟩ := more_loop (b := b) (a1 := a1) (a2 := a2) (a4 := a4) (a5 := .list L5) (a6 := .list L6) (a8 := cT ps) (a9 := a9) (a10 := a10) (a11 := a11) (a12 := a12) (a13 := a13) (a14 := a14) (a15 := a15) (a16 := a16) (v3 := V3) (v7 := v7) (g := g) [.inl g.length, .inl (g.length + 1), .inl (g.length + 2), .inl (g.length + 3)] L 1000 v17 (fun p hp => by
    simp only [List.mem_cons, List.not_mem_nil, or_false] at hp
    rcases hp with rfl | rfl | rfl | rfl
    · exact ⟨0, rfl, by show 0 < 4; omega⟩
    · exact ⟨1, rfl, by show 1 < 4; omega⟩
    · exact ⟨2, rfl, by show 2 < 4; omega⟩
    · exact ⟨3, rfl, by show 3 < 4; omega⟩) pl (by show 1000 + 4 ≤ _; omega) (fun m hm => h17 m (by omega))
  refine ⟨V3, w17, L', ?_, pl'.ok, fun m hm => i17 m (by rw [List.length_append, ll] at hm; exact hm)⟩
  unfold tu03
  refine (zA (ρ1 := E03 b a1 a2 a4 (.list L5) (.list L6) (cT ps) a9 a10 a11 a12 a13 a14 a15 a16 V3 v7 v17) ep rfl).trans ?_
  refine (zI tA).trans ?_
  have sq : seqP (fVar 3) (E03 b a1 a2 a4 (.list L5) (.list L6) (cT ps) a9 a10 a11 a12 a13 a14 a15 a16 V3 v7 v17) (g ++ L) = some ([.inl g.length, .inl (g.length + 1), .inl (g.length + 2), .inl (g.length + 3)], g ++ L) := rfl
  unfold sForP
  simp only [sq, sbnd]
  exact el
end
theorem idx_goal {ps : List (Str × Str)} {S : List Str} (R : Rnd S ps) {s : Str} (hs : s ∈ S) {h : Hh} : idxW (.dat (dW ps)) (.dat (.str s)) h = some (.dat (.str (goal ps s)), h) := by
  have g := R.get hs
  unfold idxW
  simp only [deref, g]
  rfl
theorem same_rowsL {d : D} {h : Hh} (hp : plainD d = true) (hd : d.depth < 12) : m__law_same 12 [.dat d, .dat d] h = some (.dat (.bool true), h) := same_refl 12 d h hp hd
theorem mul2 (d : D) (h : Hh) : mulW false (.dat (.list [d])) (.dat (.int 2)) h = some (.dat (.list [d, d]), h) := rfl
section
variable {cr S : List Str} {ps : List (Str × Str)} (R : Rnd S ps) (pS : cr.Perm S) (sS : sortS cr = S)
include R pS sS
theorem people_right_ok {mate : Str} (hm : mate ∈ S) {h : Hh} : m__law_people_right [.dat (.list (cr.map .str)), .dat (cT ps), .dat (.str mate)] h = some (.dat (.bool true), h) := by
  have hz : sizeLine = 16777216 := rfl
  have c1 : 1 ≤ sizeLine := by decide
  have c2 : 2 ≤ sizeLine := by decide
  have rf := R.few
  have lp := R.len
  have lc := pS.length_eq
  have tc : Txts cr := fun s hs => R.txt s (pS.mem_iff.mp hs)
  have hx : IsSeq (cT ps) (ps.map (prW false)) := .inr (by show PyData.tuple (ps.map prT) = _; rw [prW_false])
  have hy : IsSeq (cD true ps) (ps.map (prW true)) := .inl rfl
  have d1 := dict_call (ps := ps) (h := h) (by rw [lp]; exact R.pos) R.nd
  have e1 := people_ok (h := h) hx (by omega)
  have e2 := people_ok (h := h) hy (by omega)
  rw [R.key] at e1 e2
  have e3 := sortW_strs (x := .list (cr.map .str)) (h := h) (.inl rfl) tc
  rw [sS] at e3
  let ρ (v : Option W) : DL.Env := [some (.dat (.list (cr.map .str))), some (.dat (cT ps)), some (.dat (.str mate)), some (.dat (dW ps)), v]
  have w1 : ∀ s, s ∈ S → m_whom [.dat (cT ps), .dat (.str s)] h = some (.dat (.str (goal ps s)), h) := fun s hs => whom_ok hx R.call R.sor.nd (by omega) hs
  have w2 : kwM 2 [1, 0] m_whom [.dat (.str mate), .dat (cD true ps)] h = some (.dat (.str (goal ps mate)), h) := (show kwM 2 [1, 0] m_whom [.dat (.str mate), .dat (cD true ps)] h = m_whom [.dat (cD true ps), .dat (.str mate)] h from rfl).trans (whom_ok hy R.call R.sor.nd (by omega) hm)
  have k2 : kwM 1 [0] m_people [.dat (cD true ps)] h = some (.dat (.tuple (S.map .str)), h) := (show kwM 1 [0] m_people [.dat (cD true ps)] h = m_people [.dat (cD true ps)] h from rfl).trans e2
  have ls := lists_call (ps := ps) (h := h) (by omega)
  have pr : plainD (.tuple (S.map PyData.str)) = true := plain_row (by omega)
  have dr : (PyData.tuple (S.map .str)).depth = 1 := depth_row S
  have s1 : m__law_same 12 [.dat (.list [.tuple (S.map .str), .tuple (S.map .str)]), .dat (.list [.tuple (S.map .str), .tuple (S.map .str)])] h = some (.dat (.bool true), h) := same_rowsL (by rw [plainD, plainDs, plainDs, plainDs, pr]; rfl) (by rw [PyData.depth, PyData.depthAll, PyData.depthAll, PyData.depthAll, dr]; omega)
  have l1 : lcL (gN 4) bYes (fA (m_whom) (fCons (fVar 1) (fCons (fVar 4) (fNil)))) (ρ none) (cr.map .str) h = some (cr.map fun s => PyData.str (goal ps s), h) := lcL_list PyData.str _ fun s hs => ⟨ρ (some (.dat (.str s))), rfl, xA (xC (E := fVar 1) rfl (xC (E := fVar 4) rfl xN)) (w1 s (pS.mem_iff.mp hs))⟩
  have l2 : lcL (gN 4) bYes (f2 idxW (fVar 3) (fVar 4)) (ρ none) (cr.map .str) h = some (cr.map fun s => PyData.str (goal ps s), h) := lcL_list PyData.str _ fun s hs => ⟨ρ (some (.dat (.str s))), rfl, x2 (A := fVar 3) (B := fVar 4) rfl rfl (idx_goal R (pS.mem_iff.mp hs))⟩
  have em : (cr.map fun s => PyData.str (goal ps s)) = (cr.map (goal ps)).map .str := by rw [List.map_map]; rfl
  have s2 : m__law_same 12 [.dat (.list (cr.map fun s => PyData.str (goal ps s))), .dat (.list (cr.map fun s => PyData.str (goal ps s)))] h = some (.dat (.bool true), h) := by
    rw [em]
    exact same_rowsL (by rw [plainD, plain_strs, List.length_map, List.length_map, decide_eq_true (by omega)]; rfl) (by rw [PyData.depth, depth_strs]; omega)
  have s3 : m__law_same 12 [.dat (.str (goal ps mate)), .dat (.str (goal ps mate))] h = some (.dat (.bool true), h) := same_rowsL rfl (by rw [PyData.depth]; omega)
  unfold m__law_people_right
  refine fnM_rt (h' := h) (w := .dat (.bool true)) ?_ rfl leave_same'
  show sSeq _ _ [some (.dat (.list (cr.map .str))), some (.dat (cT ps)), some (.dat (.str mate)), none, none] h = _
  refine (zA (ρ1 := ρ none) (xA (xC (E := fVar 1) rfl xN) d1) rfl).trans ?_
  refine (zI (xT (xA (xC (xA (xC (xA (xC (E := fVar 1) rfl xN) e1) (xC (xA (xC (xA (xC (E := fVar 1) rfl xN) ls) xN) k2) xN)) (xLst (ds := [.tuple (S.map .str), .tuple (S.map .str)]) rfl c2)) (xC (x2 (f := mulW false) (xA (xC (xA (xC (xA (xC (E := fVar 0) rfl xN) e3) xN) (xTup (.inl rfl))) xN) (xLst (ds := [.tuple (S.map .str)]) rfl c1)) (B := fC (.int 2)) rfl (mul2 _ _)) xN)) s1))).trans ?_
  refine (zI (xT (xA (xC (xL (vs := [4]) (xS (E := fVar 0) (x := .list (cr.map .str)) rfl (.inl rfl)) l1 (by rw [List.length_map]; omega)) (xC (xL (vs := [4]) (xS (E := fVar 0) (x := .list (cr.map .str)) rfl (.inl rfl)) l2 (by rw [List.length_map]; omega)) xN)) s2))).trans ?_
  exact zR (xA (xC (xA (xC (E := fVar 2) rfl (xC (xA (xC (E := fVar 1) rfl xN) ls) xN)) w2) (xC (x2 (A := fVar 3) (B := fVar 2) rfl rfl (idx_goal R hm)) xN)) s3)
end
theorem box_b {h l : Hh} {b c : Nat} (x : BoxAt h b c) : BoxAt (h ++ l) b c := by
  have lb := x.lt
  obtain ⟨d, s, k, e, r⟩ := x
  exact ⟨d, s, k, by rw [List.getElem?_append_left lb]; exact e, r⟩
theorem all_app {g l : Hh} (a : g.all okM = true) (b : l.all okM = true) : (g ++ l).all okM = true := by rw [List.all_append, a, b]; rfl
theorem lots_plain {S : List Str} {g : Str → List Str} : ∀ l : List Str, (∀ s ∈ l, (g s).length ≤ 1000) → plainDs (l.map fun s => PyData.tuple [.str s, .tuple ((g s).map .str)]) = true ∧ PyData.depthAll (l.map fun s => PyData.tuple [.str s, .tuple ((g s).map .str)]) ≤ 2 ∧ noLs (l.map fun s => PyData.tuple [.str s, .tuple ((g s).map .str)]) = true
  | [], _ => ⟨rfl, by rw [List.map_nil, PyData.depthAll]; omega, rfl⟩
  | s :: l, h => by
    obtain ⟨a, b, c⟩ := lots_plain (S := S) (g := g) l fun t ht => h t (List.mem_cons_of_mem _ ht)
    have p1 : plainD (.tuple ((g s).map PyData.str)) = true := plain_row (h s List.mem_cons_self)
    have d1 : (PyData.tuple ((g s).map .str)).depth = 1 := depth_row (g s)
    have ps : plainD (.str s) = true := rfl
    have d0 : (PyData.str s).depth = 0 := by rw [PyData.depth]
    have n1 : noL (.tuple ((g s).map PyData.str)) = true := by rw [noL]; exact noLs_strs _
    refine ⟨?_, ?_, ?_⟩
    · rw [List.map_cons, plainDs, a, plainD, plainDs, plainDs, plainDs, p1, ps]; rfl
    · rw [List.map_cons, PyData.depthAll, PyData.depth, PyData.depthAll, PyData.depthAll, PyData.depthAll, d1, d0]; omega
    · rw [List.map_cons, noLs, c, noL, noLs, noLs, noLs, n1]; rfl
theorem right_ok (h : Hh) (b c : Nat) (hk : OkA h) (hb : BoxAt h b c) (hc : c ≤ 5 * 200) : ∃ h', m__law_right [.ref b] h = some (.dat (.bool true), h') ∧ BoxAt h' b (c + 200) ∧ OkA h' := by
  have hz : sizeLine = 16777216 := rfl
  have c1 : 1 ≤ sizeLine := by decide
  have c2 : 2 ≤ sizeLine := by decide
  have c3 : 3 ≤ sizeLine := by decide
  have c4 : 4 ≤ sizeLine := by decide
  have c6 : 6 ≤ sizeLine := by decide
  obtain ⟨cr, h1, e1, crew, b1, o1⟩ := crew_ok (most := 12) hb (by omega) (by omega) (by omega)
  have fk := crew.folk
  have lx : IsSeq (PyData.list (cr.map .str)) (cr.map .str) := .inl rfl
  have ly : IsSeq (PyData.tuple (cr.map .str)) (cr.map .str) := .inr rfl
  have l12 := fk.le
  have tc := fk.txts
  obtain ⟨ps, h2, e2, pf, pt, b2, o2⟩ := ask_ok lx tc b1 (by omega) fk.pos (by omega)
  obtain ⟨S, hS⟩ : ∃ S, S = sortS cr := ⟨_, rfl⟩
  have pS : cr.Perm S := by rw [hS]; exact (sortS_perm cr).symm
  have so : Sor S := ⟨pS.nodup_iff.mp fk.nd, by rw [hS]; exact sortS_pw cr⟩
  have lS := pS.length_eq
  rw [← hS] at pf
  have R : Rnd S ps := ⟨so, by have := fk.pos; omega, by omega, fun s hs => tc s (pS.mem_iff.mpr hs), pf, fun p hp => pS.mem_iff.mp (pt p hp)⟩
  have lp := R.len
  have e3 := sortW_strs (h := h2) lx tc
  rw [← hS] at e3
  obtain ⟨dm, h3, e4, mm, b3, o3⟩ := of_ok lx b2 (by omega) (by rw [List.length_map]; exact fk.pos) (by rw [List.length_map]; omega)
  obtain ⟨mate, mc, rfl⟩ := List.mem_map.mp mm
  obtain ⟨dn, h4, e5, mn, b4, o4⟩ := of_ok lx b3 (by omega) (by rw [List.length_map]; exact fk.pos) (by rw [List.length_map]; omega)
  obtain ⟨near, nc, rfl⟩ := List.mem_map.mp mn
  have mS := pS.mem_iff.mp mc
  have nS := pS.mem_iff.mp nc
  -- those kept
  let own := S.map fun s => (s, s)
  let evr := S.map fun s => (s, near)
  let wlk := S.map fun s => (s, if s = mate then near else s)
  let K : D := .str (PyData.list [.list (cr.map .str), cT ps]).shown
  have tps : TxtP ps := R.call.txts R.txt
  have kp : ∀ g, reprW [.dat (.list [.list (cr.map .str), cT ps])] g = some (.dat K, g) := fun g => by
    refine repr_ok rfl ?_ ?_ ?_
    · rw [txD, txDs, txDs, txDs, txD, tx_strs tc, tx_call tps]; rfl
    · have dc : (cT ps).depth ≤ 2 := depth_call ps
      have h2 : (PyData.list (cr.map .str)).depth = 1 := by rw [PyData.depth, depth_strs]
      rw [PyData.depth, PyData.depthAll, PyData.depthAll, PyData.depthAll, h2]
      omega
    · have cc : costD (cT ps) ≤ 2013003 := cost_call tps (by omega)
      have := cost_strs tc
      rw [costD, costDs, costDs, costDs, costD]
      omega
  have rp : ∀ (ρ : DL.Env) (g : Hh), fVar 1 ρ g = some (.dat (.list (cr.map .str)), g) → fVar 8 ρ g = some (.dat (cT ps), g) → fA reprW (fCons (fA (lstW false) (fCons (fVar 1) (fCons (fVar 8) (fNil)))) (fNil)) ρ g = some (.dat K, g) := fun ρ g a b => xA (xC (xA (xC a (xC b xN)) (xLst (ds := [.list (cr.map .str), cT ps]) rfl c2)) xN) (kp g)
  -- calls by hand
  have st1 : ∀ g, m_stay [.dat (.list (cr.map .str))] g = some (.dat (cT own), g) := fun g => by have := stay_ok (h := g) lx tc (by omega); rwa [← hS] at this
  have st2 : ∀ g, kwM 1 [0] m_stay [.dat (.tuple (cr.map .str))] g = some (.dat (cT own), g) := fun g => (show kwM 1 [0] m_stay [.dat (.tuple (cr.map .str))] g = m_stay [.dat (.tuple (cr.map .str))] g from rfl).trans (by have := stay_ok (h := g) ly tc (by omega); rwa [← hS] at this)
  have al1 : ∀ g, m_all_to [.dat (.list (cr.map .str)), .dat (.str near)] g = some (.dat (cT evr), g) := fun g => by have := all_to_ok (h := g) lx nc tc (by omega); rwa [← hS] at this
  have al2 : ∀ g, kwM 2 [1, 0] m_all_to [.dat (.str near), .dat (.tuple (cr.map .str))] g = some (.dat (cT evr), g) := fun g => (show kwM 2 [1, 0] m_all_to [.dat (.str near), .dat (.tuple (cr.map .str))] g = m_all_to [.dat (.tuple (cr.map .str)), .dat (.str near)] g from rfl).trans (by have := all_to_ok (h := g) ly nc tc (by omega); rwa [← hS] at this)
  have go1 : ∀ g, m_going [.dat (.list (cr.map .str)), .dat (.str mate), .dat (.str near)] g = some (.dat (cT wlk), g) := fun g => by have := going_ok (h := g) lx tc (by omega) mc nc; rwa [← hS, ofL_one] at this
  have go2 : ∀ g, kwM 3 [2, 1, 0] m_going [.dat (.str near), .dat (.str mate), .dat (.tuple (cr.map .str))] g = some (.dat (cT wlk), g) := fun g => (show kwM 3 [2, 1, 0] m_going [.dat (.str near), .dat (.str mate), .dat (.tuple (cr.map .str))] g = m_going [.dat (.tuple (cr.map .str)), .dat (.str mate), .dat (.str near)] g from rfl).trans (by have := going_ok (h := g) ly tc (by omega) mc nc; rwa [← hS, ofL_one] at this)
  have nam : ∀ s ∈ S, NameOk s := fun s hs => fk.nam s (pS.mem_iff.mpr hs)
  have g1 : GoodC own := good_map (f := fun s => s) so R.pos R.few nam fun s hs => hs
  have g2 : GoodC evr := good_map (f := fun _ => near) so R.pos R.few nam fun s hs => nS
  have g3 : GoodC wlk := good_map (f := fun s => if s = mate then near else s) so R.pos R.few nam fun s hs => by
    show (if s = mate then near else s) ∈ S
    split
    · exact nS
    · exact hs
  let six : List D := [cT own, cT own, cT evr, cT evr, cT wlk, cT wlk]
  have pl : ∀ f : Str → Str, plainD (cT (S.map fun s => (s, f s))) = true ∧ (cT (S.map fun s => (s, f s))).depth ≤ 2 := fun f => ⟨plain_call (by rw [List.length_map]; omega), depth_call _⟩
  have s6 : ∀ g, m__law_same 12 [.dat (.list six), .dat (.list six)] g = some (.dat (.bool true), g) := fun g => by
    have a := pl fun s => s
    have b := pl fun _ => near
    have d := pl fun s => if s = mate then near else s
    refine same_rowsL ?_ ?_
    · show plainD (.list [cT own, cT own, cT evr, cT evr, cT wlk, cT wlk]) = true
      rw [plainD, plainDs, plainDs, plainDs, plainDs, plainDs, plainDs, plainDs]
      have a1 : plainD (cT own) = true := a.1
      have b1 : plainD (cT evr) = true := b.1
      have d1 : plainD (cT wlk) = true := d.1
      rw [a1, b1, d1]; rfl
    · show PyData.depth (.list [cT own, cT own, cT evr, cT evr, cT wlk, cT wlk]) < 12
      have a1 : (cT own).depth ≤ 2 := a.2
      have b1 : (cT evr).depth ≤ 2 := b.2
      have d1 : (cT wlk).depth ≤ 2 := d.2
      rw [PyData.depth, PyData.depthAll, PyData.depthAll, PyData.depthAll, PyData.depthAll, PyData.depthAll, PyData.depthAll, PyData.depthAll]
      omega
  -- environments
  let E (a2 v3 a4 v5 v6 a13 a14 a15 a16 v18 v19 : Option W) : DL.Env := [some (.ref b), some (.dat (.list (cr.map .str))), a2, v3, a4, v5, v6, none, some (.dat (cT ps)), some (.dat (.list (S.map .str))), some (.dat (.str mate)), some (.dat (.str near)), some (.dat K), a13, a14, a15, a16, none, v18, v19, none]
  have oA := (((o1.trans o2).trans o3).trans o4)
  have t18 : ∀ {a2 v3 a4 v5 v6 a13 a14 a15 a16 : Option W} {f : Str → Str} {F : EM}, (∀ s, s ∈ S → F (E a2 v3 a4 v5 v6 a13 a14 a15 a16 (some (.dat (.str s))) none) h4 = some (.dat (.str (f s)), h4)) → fA tupleW (fCons (fLc false (seqI (fVar 9)) (gN 18) (bYes) (fA tupW (fCons (fVar 18) (fCons F (fNil)))) [18]) (fNil)) (E a2 v3 a4 v5 v6 a13 a14 a15 a16 none none) h4 = some (.dat (cT (S.map fun s => (s, f s))), h4) := fun {a2 v3 a4 v5 v6 a13 a14 a15 a16 f F} hF => by
    have lc := lcL_list (k := gN 18) (f := fA tupW (fCons (fVar 18) (fCons F (fNil)))) (ρ := E a2 v3 a4 v5 v6 a13 a14 a15 a16 none none) (h := h4) PyData.str (fun s => prT (s, f s)) (xs := S) fun s hs => ⟨E a2 v3 a4 v5 v6 a13 a14 a15 a16 (some (.dat (.str s))) none, rfl, xA (xC (E := fVar 18) rfl (xC (hF s hs) xN)) (xTp (ds := [.str s, .str (f s)]) rfl c2)⟩
    have em : (S.map fun s => prT (s, f s)) = (S.map fun s => (s, f s)).map prT := by rw [List.map_map]; rfl
    rw [em] at lc
    exact xA (xC (xL (vs := [18]) (xS (E := fVar 9) (x := .list (S.map .str)) rfl (.inl rfl)) lc (by rw [List.length_map, List.length_map]; omega)) xN) (xTup (.inl rfl))
  let O := some (W.dat (cT own))
  let Ev := some (W.dat (cT evr))
  let Wk := some (W.dat (cT wlk))
  have wk : ∀ {v3 : Option W} (s : Str), s ∈ S → fIf (fB (f2 (eqW false) (fVar 18) (fVar 10))) (fVar 11) (fVar 18) (E none v3 none none none O Ev none none (some (.dat (.str s))) none) h4 = some (.dat (.str (if s = mate then near else s)), h4) := fun {v3} s hs => by
    have t := eq_text (neg := false) (s := s) (t := mate) (ρ := E none v3 none none none O Ev none none (some (.dat (.str s))) none) (h := h4) (A := fVar 18) (B := fVar 10) rfl rfl
    rw [if_neg (by simp)] at t
    unfold fIf
    simp only [t, obnd]
    by_cases z : s = mate
    · rw [if_pos z, decide_eq_true z]; rfl
    · rw [if_neg z, decide_eq_false z]; rfl
  -- some of the pairs
  let F3 : Option W := some (.dat (.list six))
  obtain ⟨tl, h5, e6, sb, alw, b5, o5⟩ := keep_ok (ρ := E Wk F3 none none none O Ev none none none none) (b := b) (fun g => rfl) (fun d g => ⟨E Wk F3 none none none O Ev none none none (some (.dat d)), rfl, fun g' => rfl, fun g' => rfl⟩) ps _ h4 b4 (by omega)
  have lt : tl.length ≤ ps.length := sb.length_le
  have ndt : (tl.map (·.1)).Nodup := R.nd.sublist (sb.map _)
  have oB := oA.trans o5
  have d4 := dict_prs (h := h5) ndt
  have d5 := dict_call (ps := ps) (h := h5) (by rw [lp]; exact R.pos) R.nd
  have tlt : TxtP tl := fun p hp => tps p (sb.subset hp)
  have rd := reprD_ok (h := h5) tlt (by omega)
  let K2 : D := .str (PyData.dict (sdic (tld tl))).shown
  have inS : ∀ p ∈ tl, p.1 ∈ cr ∧ p.2 ∈ cr := fun p hp => ⟨by
      have : p.1 ∈ ps.map (·.1) := List.mem_map.mpr ⟨p, sb.subset hp, rfl⟩
      rw [pf] at this
      exact pS.mem_iff.mpr this, pt p (sb.subset hp)⟩
  have co1 := call_of_ok (h := h5) (tl := tl) lx tc (by omega) inS (by omega)
  have co2 := call_of_ok (h := h5) (tl := tl) ly tc (by omega) inS (by omega)
  have co3 := call_of_ok (h := h5) (tl := []) lx tc (by omega) (fun p hp => by cases hp) (by simp)
  rw [← hS, ofL_keep R sb alw] at co1 co2
  rw [← hS, ofL_none] at co3
  have co2' : kwM 2 [1, 0] m_call_of [.dat (dW tl), .dat (.tuple (cr.map .str))] h5 = some (.dat (cT ps), h5) := (show kwM 2 [1, 0] m_call_of [.dat (dW tl), .dat (.tuple (cr.map .str))] h5 = m_call_of [.dat (.tuple (cr.map .str)), .dat (dW tl)] h5 from rfl).trans co2
  have sC : m__law_same 12 [.dat (.list [cT ps, cT ps, cT own]), .dat (.list [cT ps, cT ps, cT own])] h5 = some (.dat (.bool true), h5) := by
    have a1 : plainD (cT ps) = true := plain_call (by omega)
    have a2 : (cT ps).depth ≤ 2 := depth_call _
    have b1 : plainD (cT own) = true := (pl fun s => s).1
    have b2 : (cT own).depth ≤ 2 := (pl fun s => s).2
    refine same_rowsL (by rw [plainD, plainDs, plainDs, plainDs, plainDs, a1, b1]; rfl) ?_
    rw [PyData.depth, PyData.depthAll, PyData.depthAll, PyData.depthAll, PyData.depthAll]
    omega
  -- groups and goers
  let L5 : List D := (S.filter fun s => decide (s ∈ ps.map (·.2))).map fun t => .tuple [.str t, .tuple ((S.filter fun s => decide (goal ps s = t)).map .str)]
  let L6 : List D := (S.filter fun s => decide (goal ps s ≠ s)).map .str
  have hx : IsSeq (cT ps) (ps.map (prW false)) := .inr (by show PyData.tuple (ps.map prT) = _; rw [prW_false])
  have hy : IsSeq (cD true ps) (ps.map (prW true)) := .inl rfl
  have gr : ∀ {l : Bool} {y : D} (hy : IsSeq y (ps.map (prW l))) (g : Hh), m_groups__M [.dat y] g = some (.ref g.length, g ++ [some (.lst L5)]) := fun {l y} hy g => by
    obtain ⟨hs, nh, ph, hm, _, e⟩ := groupsL (h := g) hy (by omega)
    have : (hs.map fun t => PyData.tuple [.str t, .tuple ((grp ps t).map .str)]) = L5 := by
      rw [heads_filt R nh ph hm]
      exact List.map_congr_left fun t _ => by rw [grp_filt R]
    rw [this] at e
    exact e
  have gg : ∀ {l : Bool} {y : D} (hy : IsSeq y (ps.map (prW l))) (g : Hh), m_goers__M [.dat y] g = some (.ref g.length, g ++ [some (.lst L6)]) := fun {l y} hy g => by
    have e := (goersL (h := g) hy (by omega)).2
    rw [goers_filt R] at e
    exact e
  obtain ⟨p5, d5', n5⟩ := lots_plain (S := S) (g := fun t => S.filter fun s => decide (goal ps s = t)) (S.filter fun s => decide (s ∈ ps.map (·.2))) fun t _ => Nat.le_trans (List.length_filter_le _ _) (by omega)
  have l5 : L5.length ≤ 30 := by
    show (List.map _ _).length ≤ 30
    rw [List.length_map]
    exact Nat.le_trans (List.length_filter_le _ _) R.few
  have l6 : L6.length ≤ 30 := by
    show (List.map _ _).length ≤ 30
    rw [List.length_map]
    exact Nat.le_trans (List.length_filter_le _ _) R.few
  have pp5 : plainD (.list L5) = true := by rw [plainD, decide_eq_true (by omega), Bool.and_true]; exact p5
  have pp6 : plainD (.list L6) = true := by rw [plainD, decide_eq_true (by omega), Bool.and_true]; exact plain_strs _
  have dd5 : (PyData.list L5).depth ≤ 3 := by rw [PyData.depth]; have : PyData.depthAll L5 ≤ 2 := d5'; omega
  have dd6 : (PyData.list L6).depth ≤ 1 := by rw [PyData.depth]; have : PyData.depthAll L6 = 0 := depth_strs _; omega
  have sL : ∀ g, m__law_same 12 [.dat (.list [.list L5, .list L5, .list L6, .list L6]), .dat (.list [.list L5, .list L5, .list L6, .list L6])] g = some (.dat (.bool true), g) := fun g => by
    refine same_rowsL (by rw [plainD, plainDs, plainDs, plainDs, plainDs, plainDs, pp5, pp6]; rfl) ?_
    rw [PyData.depth, PyData.depthAll, PyData.depthAll, PyData.depthAll, PyData.depthAll, PyData.depthAll]
    omega
  let D4 := some (W.dat (dW tl))
  let D15 := some (W.dat (dW ps))
  let D16 := some (W.dat K2)
  let V5 := some (W.dat (.list L5))
  let V6 := some (W.dat (.list L6))
  have lots : lcL (gN 18) (fB (f2 inVW (fVar 18) (fVar 15))) (fA tupW (fCons (fVar 18) (fCons (fA tupleW (fCons (fLc false (seqI (fVar 9)) (gN 20) (fB (f2 (eqW false) (f2 idxW (fVar 15) (fVar 20)) (fVar 18))) (fVar 20) [20]) (fNil))) (fNil)))) (E Wk F3 D4 none none O Ev D15 D16 none none) (S.map .str) h5 = some (L5, h5) := by
    refine lcL_filt (k := gN 18) (t := fB (f2 inVW (fVar 18) (fVar 15))) (f := fA tupW (fCons (fVar 18) (fCons (fA tupleW (fCons (fLc false (seqI (fVar 9)) (gN 20) (fB (f2 (eqW false) (f2 idxW (fVar 15) (fVar 20)) (fVar 18))) (fVar 20) [20]) (fNil))) (fNil)))) (ρ := E Wk F3 D4 none none O Ev D15 D16 none none) (h := h5) PyData.str (fun t => PyData.tuple [.str t, .tuple ((S.filter fun s => decide (goal ps s = t)).map .str)]) (fun t => decide (t ∈ ps.map (·.2))) fun t ht => ⟨E Wk F3 D4 none none O Ev D15 D16 (some (.dat (.str t))) none, rfl, xB (x2 (f := inVW) (A := fVar 18) (B := fVar 15) rfl rfl inV_ok), ?_⟩
    have lc := lcL_filt (k := gN 20) (t := fB (f2 (eqW false) (f2 idxW (fVar 15) (fVar 20)) (fVar 18))) (f := fVar 20) (ρ := E Wk F3 D4 none none O Ev D15 D16 (some (.dat (.str t))) none) (h := h5) PyData.str PyData.str (fun s => decide (goal ps s = t)) (xs := S) fun s hs => ⟨[some (.ref b), some (.dat (.list (cr.map .str))), Wk, F3, D4, none, none, none, some (.dat (cT ps)), some (.dat (.list (S.map .str))), some (.dat (.str mate)), some (.dat (.str near)), some (.dat K), O, Ev, D15, D16, none, some (.dat (.str t)), none, some (.dat (.str s))], rfl, by
      have := eq_text (neg := false) (s := goal ps s) (t := t) (A := f2 idxW (fVar 15) (fVar 20)) (B := fVar 18) (ρ := [some (.ref b), some (.dat (.list (cr.map .str))), Wk, F3, D4, none, none, none, some (.dat (cT ps)), some (.dat (.list (S.map .str))), some (.dat (.str mate)), some (.dat (.str near)), some (.dat K), O, Ev, D15, D16, none, some (.dat (.str t)), none, some (.dat (.str s))]) (h := h5) (x2 (A := fVar 15) (B := fVar 20) rfl rfl (idx_goal R hs)) rfl
      rwa [if_neg (by simp)] at this, rfl⟩
    have fl : ((S.filter fun s => decide (goal ps s = t)).map PyData.str).length ≤ sizeLine := by
      rw [List.length_map]
      have := List.length_filter_le (fun s => decide (goal ps s = t)) S
      omega
    exact xA (xC (E := fVar 18) rfl (xC (xA (xC (xLcG (vs := [20]) (xS (E := fVar 9) (x := .list (S.map .str)) rfl (.inl rfl)) lc fl) xN) (xTup (.inl rfl))) xN)) (xTp (ds := [.str t, .tuple ((S.filter fun s => decide (goal ps s = t)).map .str)]) rfl c2)
  have gone : lcL (gN 18) (fB (f2 (eqW true) (f2 idxW (fVar 15) (fVar 18)) (fVar 18))) (fVar 18) (E Wk F3 D4 V5 none O Ev D15 D16 none none) (S.map .str) h5 = some (L6, h5) := by
    refine lcL_filt (k := gN 18) (t := fB (f2 (eqW true) (f2 idxW (fVar 15) (fVar 18)) (fVar 18))) (f := fVar 18) (ρ := E Wk F3 D4 V5 none O Ev D15 D16 none none) (h := h5) PyData.str PyData.str (fun s => decide (goal ps s ≠ s)) fun s hs => ⟨E Wk F3 D4 V5 none O Ev D15 D16 (some (.dat (.str s))) none, rfl, ?_, rfl⟩
    have := eq_text (neg := true) (s := goal ps s) (t := s) (A := f2 idxW (fVar 15) (fVar 18)) (B := fVar 18) (ρ := E Wk F3 D4 V5 none O Ev D15 D16 (some (.dat (.str s))) none) (h := h5) (x2 (A := fVar 15) (B := fVar 18) rfl rfl (idx_goal R hs)) rfl
    rwa [if_pos rfl] at this
  -- the two turns
  have k5 : OkA h5 := hk.only oB b5
  have bl5 := b5.lt
  obtain ⟨ρ', h6, e7, b6, on, k6, v3, v7, v17, i7, i17, rfl⟩ := forL_end (k := gN 7) (body := tu03) (fun n ρ g => BoxAt g b (c + 3 + 12 + (2 + 5 * cr.length) + 1 + 1 + ps.length) ∧ OnlyP b h g ∧ OkA g ∧ ∃ v3 v7 v17 : Option W, (∀ m, isR m v7 = false) ∧ (∀ m, g.length ≤ m → isR m v17 = false) ∧ ρ = E03 b (.list (cr.map .str)) (cT wlk) (dW tl) (.list L5) (.list L6) (cT ps) (.list (S.map .str)) (.str mate) (.str near) K (cT own) (cT evr) (dW ps) K2 v3 v7 v17)
    (ds := rngD 0 2) (ρ := E03 b (.list (cr.map .str)) (cT wlk) (dW tl) (.list L5) (.list L6) (cT ps) (.list (S.map .str)) (.str mate) (.str near) K (cT own) (cT evr) (dW ps) K2 F3 none none) (h := h5) ⟨b5.mono (by omega), oB.p, k5, F3, none, none, fun _ => rfl, fun _ _ => rfl, rfl⟩ (by
    rintro j d ej ρ g ⟨bx, on, kg, v3, v7, v17, i7, i17, rfl⟩
    obtain ⟨hj, rfl⟩ := rng_get ej
    obtain ⟨w3, w17, g', et, kg', j17⟩ := tu_ok (b := b) (a1 := .list (cr.map .str)) (a2 := cT wlk) (a4 := dW tl) (a9 := .list (S.map .str)) (a10 := .str mate) (a11 := .str near) (a12 := K) (a13 := cT own) (a14 := cT evr) (a15 := dW ps) (a16 := K2) (ps := ps) (L5 := L5) (L6 := L6) (v3 := v3) (v7 := some (.dat (.int (j : Int)))) (v17 := v17) (g := g) (by omega) (gr hx) (gr hy) (gg hx) (gg hy) sL n5 (noLs_strs _) (by omega) (by omega) bx.lt kg (fun _ => rfl) i17
    exact ⟨_, _, g ++ g', rfl, et, box_b bx, on.app, all_app kg kg', w3, some (.dat (.int (j : Int))), w17, fun _ => rfl, j17, rfl⟩)
  have pr := people_right_ok R pS (by rw [hS]) mS (h := h6)
  have ek := eqW_strs (neg := false) (i := (PyData.list [.list (cr.map .str), cT ps]).shown) (j := (PyData.list [.list (cr.map .str), cT ps]).shown) (h := h6)
  have ek2 := eqW_strs (neg := true) (i := (PyData.dict (sdic (tld tl))).shown) (j := (PyData.dict (sdic (tld tl))).shown) (h := h5)
  obtain ⟨h', lv, b', o'⟩ := leave_P (d := .bool true) hb b6 on
  refine ⟨h', ?_, b'.mono (by omega), hk.only o' b'⟩
  unfold m__law_right
  refine fnM_rt (h' := h6) (w := .dat (.bool true)) ?_ rfl lv
  show sSeq _ _ [some (.ref b), none, none, none, none, none, none, none, none, none, none, none, none, none, none, none, none, none, none, none, none] h = _
  refine (zA (ρ1 := [some (.ref b), some (.dat (.list (cr.map .str))), none, none, none, none, none, none, none, none, none, none, none, none, none, none, none, none, none, none, none]) (xA (xC (E := fVar 0) rfl (xC (E := fC (.int 12)) rfl xN)) e1) rfl).trans ?_
  refine (zA (w := .dat (.tuple [cT ps, .list (S.map .str)])) (h1 := h2) (ρ1 := [some (.ref b), some (.dat (.list (cr.map .str))), none, none, none, none, none, none, some (.dat (cT ps)), some (.dat (.list (S.map .str))), none, none, none, none, none, none, none, none, none, none, none]) (xA (xC (xA (xC (E := fVar 0) rfl (xC (E := fVar 1) rfl xN)) e2) (xC (xA (xC (E := fVar 1) rfl xN) e3) xN)) (xTp (ds := [cT ps, .list (S.map .str)]) rfl c2)) rfl).trans ?_
  refine (zA (w := .dat (.tuple [.str mate, .str near, K])) (h1 := h4) (ρ1 := E none none none none none none none none none none none) (xA (xC (xA (xC (E := fVar 0) rfl (xC (E := fVar 1) rfl xN)) e4) (xC (xA (xC (E := fVar 0) rfl (xC (E := fVar 1) rfl xN)) e5) (xC (rp _ h4 rfl rfl) xN))) (xTp (ds := [.str mate, .str near, K]) rfl c3)) rfl).trans ?_
  refine (zP (is := [13, 14]) (ρ1 := E none none none none none O Ev none none none none) (xC (t18 (f := fun s => s) (F := fVar 18) fun s _ => rfl) (xC (t18 (f := fun _ => near) (F := fVar 11) fun s _ => rfl) xN)) rfl rfl).trans ?_
  refine (zA (ρ1 := E Wk none none none none O Ev none none none none) (t18 (f := fun s => if s = mate then near else s) fun s hs => wk s hs) rfl).trans ?_
  refine (zA (ρ1 := E Wk (some (.dat (.list [cT own, cT own, cT evr, cT evr]))) none none none O Ev none none none none) (xA (xC (xA (xC (E := fVar 1) rfl xN) (st1 h4)) (xC (xA (xC (xA (xC (E := fVar 1) rfl xN) (xTup (.inl rfl))) xN) (st2 h4)) (xC (xA (xC (E := fVar 1) rfl (xC (E := fVar 11) rfl xN)) (al1 h4)) (xC (xA (xC (E := fVar 11) rfl (xC (xA (xC (E := fVar 1) rfl xN) (xTup (.inl rfl))) xN)) (al2 h4)) xN)))) (xLst (ds := [cT own, cT own, cT evr, cT evr]) rfl c4)) rfl).trans ?_
  refine (zA (ρ1 := E Wk F3 none none none O Ev none none none none) (x2 (A := fVar 3) rfl (xA (xC (xA (xC (E := fVar 1) rfl (xC (E := fVar 10) rfl (xC (E := fVar 11) rfl xN))) (go1 h4)) (xC (xA (xC (E := fVar 11) rfl (xC (E := fVar 10) rfl (xC (xA (xC (E := fVar 1) rfl xN) (xTup (.inl rfl))) xN))) (go2 h4)) xN)) (xLst (ds := [cT wlk, cT wlk]) rfl c2)) (xAdd (a := [cT own, cT own, cT evr, cT evr]) (b := [cT wlk, cT wlk]) (by show 6 ≤ sizeLine; exact c6))) rfl).trans ?_
  refine (zI (xT (xA (xC (E := fVar 3) rfl (xC (xA (xC (E := fVar 13) rfl (xC (E := fVar 13) rfl (xC (E := fVar 14) rfl (xC (E := fVar 14) rfl (xC (E := fVar 2) rfl (xC (E := fVar 2) rfl xN)))))) (xLst (ds := six) rfl c6)) xN)) (s6 h4)))).trans ?_
  have isC : lcL (gN 4) bYes (f2 (isW false) (fA (m_is_call) (fCons (fVar 4) (fNil))) (fC (.bool true))) (E Wk F3 none none none O Ev none none none none) six h4 = some (six.map fun _ => PyData.bool true, h4) := by
    have := lcL_list (k := gN 4) (f := f2 (isW false) (fA (m_is_call) (fCons (fVar 4) (fNil))) (fC (.bool true))) (ρ := E Wk F3 none none none O Ev none none none none) (h := h4) (fun d : D => d) (fun _ => PyData.bool true) (xs := six) fun d hd => by
      refine ⟨E Wk F3 (some (.dat d)) none none O Ev none none none none, rfl, ?_⟩
      have : m_is_call [.dat d] h4 = some (.dat (.bool true), h4) := by
        simp only [six, List.mem_cons, List.not_mem_nil, or_false] at hd
        rcases hd with rfl | rfl | rfl | rfl | rfl | rfl
        · exact is_call_ok g1
        · exact is_call_ok g1
        · exact is_call_ok g2
        · exact is_call_ok g2
        · exact is_call_ok g3
        · exact is_call_ok g3
      exact x2 (xA (xC (E := fVar 4) rfl xN) this) (B := fC (.bool true)) rfl rfl
    rwa [List.map_id'] at this
  have al : allW [.dat (.list (six.map fun _ => PyData.bool true))] h4 = some (.dat (.bool true), h4) := all_b (bs := [true, true, true, true, true, true]) rfl
  refine (zI (xT (xA (xC (xL (vs := [4]) (xS (E := fVar 3) (x := .list six) rfl (.inl rfl)) isC (by show 6 ≤ sizeLine; exact c6)) xN) al))).trans ?_
  refine (zA (ρ1 := E Wk F3 D4 none none O Ev none none none none) (xA (xC (xLcG (vs := [19]) (xS (E := fVar 8) (x := cT ps) (ds := ps.map prT) rfl (.inr rfl)) e6 (by rw [List.length_map]; omega)) xN) d4) rfl).trans ?_
  refine (zA (w := .dat (.tuple [dW ps, K2])) (ρ1 := E Wk F3 D4 none none O Ev D15 D16 none none) (xA (xC (xA (xC (E := fVar 8) rfl xN) d5) (xC (xA (xC (E := fVar 4) rfl xN) rd) xN)) (xTp (ds := [dW ps, K2]) rfl c2)) rfl).trans ?_
  refine (zI (xT (xA (xC (xA (xC (xA (xC (E := fVar 1) rfl (xC (E := fVar 4) rfl xN)) co1) (xC (xA (xC (E := fVar 4) rfl (xC (xA (xC (E := fVar 1) rfl xN) (xTup (.inl rfl))) xN)) co2') (xC (xA (xC (E := fVar 1) rfl (xC (E := fDn false) (w := .dat (dW [])) rfl xN)) co3) xN))) (xLst (ds := [cT ps, cT ps, cT own]) rfl c3)) (xC (xA (xC (E := fVar 8) rfl (xC (E := fVar 8) rfl (xC (E := fVar 13) rfl xN))) (xLst (ds := [cT ps, cT ps, cT own]) rfl c3)) xN)) sC))).trans ?_
  have tK := xB (x2 (f := eqW true) (xA (m := reprDW) (xC (E := fVar 4) (ρ := E Wk F3 D4 none none O Ev D15 D16 none none) (h := h5) rfl xN) rd) (B := fVar 16) rfl ek2)
  refine (zI (by simpa using tK)).trans ?_
  refine (zA (ρ1 := E Wk F3 D4 V5 none O Ev D15 D16 none none) (xLcG (vs := [18]) (xS (E := fVar 9) (x := .list (S.map .str)) rfl (.inl rfl)) lots (by omega)) rfl).trans ?_
  refine (zA (ρ1 := E Wk F3 D4 V5 V6 O Ev D15 D16 none none) (xLcG (vs := [18]) (xS (E := fVar 9) (x := .list (S.map .str)) rfl (.inl rfl)) gone (by omega)) rfl).trans ?_
  refine (zF (IT := rng1I (fCons (fC (.int 2)) (fNil))) (ds := rngD 0 2) (h1 := h5) rfl e7).trans ?_
  refine zR (xAnd (xA (xC (E := fVar 1) rfl (xC (E := fVar 8) rfl (xC (E := fVar 10) rfl xN))) pr) (x2 (rp _ h6 rfl rfl) (B := fVar 12) rfl ?_))
  rw [ek]
  simp
  rfl
theorem law_eq : m_law = lawM 5 m__law_right := rfl
theorem law_true (ns : List Int) (hl : ns.length ≤ 63) : ∃ h, m_law [.scr ns] [] = some (.dat (.bool true), h) := by
  rw [law_eq]
  exact law_okJ (J := OkA) (t := 5) (cost := 200) rfl (by omega) (by omega) (by decide) OkA.nil (fun h _ => ⟨fun i hi => by simp at hi, Nat.zero_le _⟩) (fun h x y k => k.app (okM_ints _ _ _)) (fun h b c k _ hb hc => right_ok h b c k hb hc) ns hl
end LW
set_option maxHeartbeats 4000000
namespace LW
open PySem PySem.Spec PyProof.Rows L2 DL
def topS (i : Nat) : Stmt := PySem.Challenge.pw_standby_k03_calls_as_they_are_made.main.body.getD i (.Pass ⟨0, 0, 0, 0⟩)
section
variable [HW] {K : PySem.W.Frag} {mg : Str → Option Value} {base : Heap}
abbrev s_is_name : Stmt := topS 5
abbrev N_is_name : List Str := ["thing", "sign"]
theorem sc_is_name : FnScope N_is_name ["thing"] (defScope s_is_name) := ⟨rfl, rfl, rfl, by decide +kernel, rfl, by decide +kernel, by decide +kernel⟩
theorem ok_is_name (f : Addr) (fd : FuncData) (F : Fun K "is_name" "is_name" s_is_name f fd) (hm : mg "is_name" = some (.ref f)) (B : Bi mg) (y_LONGEST_NAME : ∃ t, mg "LONGEST_NAME" = some (.int 6 t)) (y_LETTERS : ∃ t, mg "LETTERS" = some (.str "abcdefghijklmnopqrstuvwxyz" t))  : GD HW.P HW.w K mg base 1 "is_name" s_is_name ["thing"] m_is_name := gd_ok false F hm sc_is_name fun cdv A outer s H E hr =>
    ds_one (ds_ret (d_and (d_isi B.isinstance B.str bt_str (.inr (.inr (.inl rfl))) (dv 0 (pv 0))) (d_and (d_chain (op_le.or op_le_str) s_lt (op_le.or op_le_str) s_lt (d_int) (d_len B.len (da_cons (dv 0 (pv 0)) (da_nil))) (d_gint y_LONGEST_NAME)) (d_one (d_all rfl B.all (da_cons (d_lc false (own := [("sign", 1)]) rfl sc_is_name.nd (di_str (dv 0 (pv 0))) (blkOk_by (N := N_is_name) (sc := defScope s_is_name) (by decide +kernel)) (fun _ _ _ _ _ => dg_name 1 (pg_name (i := 1) sc_is_name.nd rfl (Or.inl rfl))) (fun _ _ _ _ _ => dts_nil) (fun _ _ _ _ _ => d_in' hr.room (dv 1 (pv 1)) (d_gstr y_LETTERS)) (by decide)) (da_nil)))))))
abbrev s_by_names : Stmt := topS 9
abbrev N_by_names : List Str := ["call", "who", "whom"]
theorem sc_by_names : FnScope N_by_names ["call"] (defScope s_by_names) := ⟨rfl, rfl, rfl, by decide +kernel, rfl, by decide +kernel, by decide +kernel⟩
theorem ok_by_names (f : Addr) (fd : FuncData) (F : Fun K "by_names" "by_names" s_by_names f fd) (hm : mg "by_names" = some (.ref f)) (B : Bi mg)   : GD HW.P HW.w K mg base 1 "by_names" s_by_names ["call"] m_by_names := gd_ok false F hm sc_by_names fun cdv A outer s H E hr =>
    ds_one (ds_ret (d_dc false (own := [("who", 1), ("whom", 2)]) rfl sc_by_names.nd (di_seq (dv 0 (pv 0))) (blkOk_by (N := N_by_names) (sc := defScope s_by_names) (by decide +kernel)) (fun _ _ _ _ _ => dg_tup rfl (dgs_cons (dg_name 1 (pg_name (i := 1) sc_by_names.nd rfl (Or.inl rfl))) (dgs_cons (dg_name 2 (pg_name (i := 2) sc_by_names.nd rfl (Or.inl rfl))) (dgs_nil)))) (fun _ _ _ _ _ => dts_nil) (fun _ _ _ _ _ => dv 1 (pv 1)) (fun _ _ _ _ _ => dv 2 (pv 2)) (by decide)))
abbrev s_people : Stmt := topS 10
abbrev N_people : List Str := ["call", "who", "whom"]
theorem sc_people : FnScope N_people ["call"] (defScope s_people) := ⟨rfl, rfl, rfl, by decide +kernel, rfl, by decide +kernel, by decide +kernel⟩
theorem ok_people (f : Addr) (fd : FuncData) (F : Fun K "people" "people" s_people f fd) (hm : mg "people" = some (.ref f)) (B : Bi mg)   : GD HW.P HW.w K mg base 1 "people" s_people ["call"] m_people := gd_ok false F hm sc_people fun cdv A outer s H E hr =>
    ds_one (ds_ret (d_tuple B.tuple (da_cons (d_lc false (own := [("who", 1), ("whom", 2)]) rfl sc_people.nd (di_seq (dv 0 (pv 0))) (blkOk_by (N := N_people) (sc := defScope s_people) (by decide +kernel)) (fun _ _ _ _ _ => dg_tup rfl (dgs_cons (dg_name 1 (pg_name (i := 1) sc_people.nd rfl (Or.inl rfl))) (dgs_cons (dg_name 2 (pg_name (i := 2) sc_people.nd rfl (Or.inl rfl))) (dgs_nil)))) (fun _ _ _ _ _ => dts_nil) (fun _ _ _ _ _ => dv 1 (pv 1)) (by decide)) (da_nil))))
abbrev s_stay : Stmt := topS 13
abbrev N_stay : List Str := ["names", "name"]
theorem sc_stay : FnScope N_stay ["names"] (defScope s_stay) := ⟨rfl, rfl, rfl, by decide +kernel, rfl, by decide +kernel, by decide +kernel⟩
theorem ok_stay (f : Addr) (fd : FuncData) (F : Fun K "stay" "stay" s_stay f fd) (hm : mg "stay" = some (.ref f)) (B : Bi mg)   : GD HW.P HW.w K mg base 1 "stay" s_stay ["names"] m_stay := gd_ok false F hm sc_stay fun cdv A outer s H E hr =>
    ds_one (ds_ret (d_tuple B.tuple (da_cons (d_lc false (own := [("name", 1)]) rfl sc_stay.nd (di_seq (d_sorted hr false B.sorted (da_cons (dv 0 (pv 0)) (da_nil)))) (blkOk_by (N := N_stay) (sc := defScope s_stay) (by decide +kernel)) (fun _ _ _ _ _ => dg_name 1 (pg_name (i := 1) sc_stay.nd rfl (Or.inl rfl))) (fun _ _ _ _ _ => dts_nil) (fun _ _ _ _ _ => d_tup (da_cons (dv 1 (pv 1)) (da_cons (dv 1 (pv 1)) (da_nil)))) (by decide)) (da_nil))))
abbrev s_groups : Stmt := topS 17
abbrev N_groups : List Str := ["call", "found", "who", "name"]
theorem sc_groups : FnScope N_groups ["call"] (defScope s_groups) := ⟨rfl, rfl, rfl, by decide +kernel, rfl, by decide +kernel, by decide +kernel⟩
theorem ok_groups__M (f : Addr) (fd : FuncData) (F : Fun K "groups" "groups" s_groups f fd) (hm : mg "groups" = some (.ref f)) (B : Bi mg)   : GD HW.P HW.w K mg base 1 "groups" s_groups ["call"] m_groups__M := gd_ok true F hm sc_groups fun cdv A outer s H E hr =>
    ds_cons (ds_set (ps_set (i := 1) sc_groups.nd rfl (Or.inr rfl) (d_dnew true)))
    (ds_cons (ds_for rfl PassesOwn.never (di_seq (dv 0 (pv 0))) (dg_tup rfl (dgs_cons (dg_name 2 (pg_name (i := 2) sc_groups.nd rfl (Or.inl rfl))) (dgs_cons (dg_name 3 (pg_name (i := 3) sc_groups.nd rfl (Or.inl rfl))) (dgs_nil))))
    (ds_one (ds_put hr (d_add false (d_dget hr (dv 1 (pv 1)) (dv 3 (pv 3)) (d_lst false (da_nil)) ⟨rfl, rfl, rfl, rfl⟩) (d_lst false (da_cons (dv 2 (pv 2)) (da_nil)))) (dv 1 (pv 1)) (dv 3 (pv 3)) (fun hu => ps_asg (d_add false (d_dget hr (dv 1 (pv 1)) (dv 3 (pv 3)) (d_lst false (da_nil)) ⟨rfl, rfl, rfl, rfl⟩) (d_lst false (da_cons (dv 2 (pv 2)) (da_nil)))) (pg_sub (dv 1 (pv 1)) (dv 3 (pv 3)) (set_dict hu))))))
    (ds_frz 1 (ds_one (ds_ret (d_lc true (own := [("name", 3)]) rfl sc_groups.nd (di_seq (d_sortD rfl false B.sorted (da_cons (dv 1 (pv 1)) (da_nil)))) (blkOk_by (N := N_groups) (sc := defScope s_groups) (by decide +kernel)) (fun _ _ _ _ _ => dg_name 3 (pg_name (i := 3) sc_groups.nd rfl (Or.inl rfl))) (fun _ _ _ _ _ => dts_nil) (fun _ _ _ _ _ => d_tup (da_cons (dv 3 (pv 3)) (da_cons (d_tuple B.tuple (da_cons (d_idx hr.room (dv 1 (pv 1)) (dv 3 (pv 3)) (fun _ _ => rfl)) (da_nil))) (da_nil)))) (by decide))))))
abbrev s_goers : Stmt := topS 18
abbrev N_goers : List Str := ["call", "who", "name"]
theorem sc_goers : FnScope N_goers ["call"] (defScope s_goers) := ⟨rfl, rfl, rfl, by decide +kernel, rfl, by decide +kernel, by decide +kernel⟩
theorem ok_goers__M (f : Addr) (fd : FuncData) (F : Fun K "goers" "goers" s_goers f fd) (hm : mg "goers" = some (.ref f)) (B : Bi mg)   : GD HW.P HW.w K mg base 1 "goers" s_goers ["call"] m_goers__M := gd_ok true F hm sc_goers fun cdv A outer s H E hr =>
    ds_one (ds_ret (d_lc true (own := [("who", 1), ("name", 2)]) rfl sc_goers.nd (di_seq (dv 0 (pv 0))) (blkOk_by (N := N_goers) (sc := defScope s_goers) (by decide +kernel)) (fun _ _ _ _ _ => dg_tup rfl (dgs_cons (dg_name 1 (pg_name (i := 1) sc_goers.nd rfl (Or.inl rfl))) (dgs_cons (dg_name 2 (pg_name (i := 2) sc_goers.nd rfl (Or.inl rfl))) (dgs_nil)))) (fun _ _ _ _ _ => dts_one (t_ne hr.room (dv 1 (pv 1)) (dv 2 (pv 2)))) (fun _ _ _ _ _ => dv 1 (pv 1)) (by decide)))
abbrev s__law_box : Stmt := topS 20
abbrev N__law_box : List Str := ["_law_script", "_law_k", "_law_cell"]
theorem sc__law_box : FnScope N__law_box ["_law_script", "_law_k"] (defScope s__law_box) := ⟨rfl, rfl, rfl, by decide +kernel, rfl, by decide +kernel, by decide +kernel⟩
theorem ok__law_box (f : Addr) (fd : FuncData) (F : Fun K "_law_box" "_law_box" s__law_box f fd) (hm : mg "_law_box" = some (.ref f)) (B : Bi mg)   : GD HW.P HW.w K mg base 1 "_law_box" s__law_box ["_law_script", "_law_k"] m__law_box := gd_ok true F hm sc__law_box fun cdv A outer s H E hr =>
    ds_cons (ds_set (ps_set (i := 2) sc__law_box.nd rfl (Or.inl rfl) (d_int)))
    (ds_cons (ds_if (t_lt (dv 1 (pv 1)) (d_len B.len (da_cons (dv 0 (pv 0)) (da_nil)))) (ds_one (ds_set (ps_set (i := 2) sc__law_box.nd rfl (Or.inl rfl) (d_idx hr.room (dv 0 (pv 0)) (dv 1 (pv 1)) (fun _ _ => rfl))))) (ds_nil))
    (ds_one (ds_ret (d_lst true (da_cons (d_mul false (d_abs B.abs (da_cons (dv 2 (pv 2)) (da_nil))) (d_intC B.int (da_cons (d_ge (d_abs B.abs (da_cons (dv 2 (pv 2)) (da_nil))) (d_pow (d_int) (d_int))) (da_nil)))) (da_cons (d_add false (d_add false (d_mod (dv 2 (pv 2)) (d_int)) (d_mul false (d_int) (dv 1 (pv 1)))) (d_int)) (da_cons (d_int) (da_nil))))))))
abbrev s__law_take : Stmt := topS 21
abbrev N__law_take : List Str := ["_law_box_here", "_law_bound", "_law_once", "_law_found"]
theorem sc__law_take : FnScope N__law_take ["_law_box_here", "_law_bound"] (defScope s__law_take) := ⟨rfl, rfl, rfl, by decide +kernel, rfl, by decide +kernel, by decide +kernel⟩
theorem ok__law_take (f : Addr) (fd : FuncData) (F : Fun K "_law_take" "_law_take" s__law_take f fd) (hm : mg "_law_take" = some (.ref f)) (B : Bi mg)   : GD HW.P HW.w K mg base 1 "_law_take" s__law_take ["_law_box_here", "_law_bound"] m__law_take := gd_ok false F hm sc__law_take fun cdv A outer s H E hr =>
    ds_cons (ds_if (t_gt (d_idx hr.room (dv 0 (pv 0)) (d_int) (fun _ _ => rfl)) (d_int)) (ds_cons (ds_set (ps_set (i := 3) sc__law_take.nd rfl (Or.inl rfl) (d_mod (d_idx hr.room (dv 0 (pv 0)) (d_int) (fun _ _ => rfl)) (dv 1 (pv 1)))))
    (ds_cons (ds_sub (d_div (d_idx hr.room (dv 0 (pv 0)) (d_int) (fun _ _ => rfl)) (dv 1 (pv 1))) (dv 0 (pv 0)) (d_int) (ps_asg (d_div (d_idx hr.room (dv 0 (pv 0)) (d_int) (fun _ _ => rfl)) (dv 1 (pv 1))) (pg_sub (dv 0 (pv 0)) (d_int) set_list)))
    (ds_one (ds_ret (dv 3 (pv 3)))))) (ds_nil))
    (ds_cons (ds_sub (d_add false (d_idx hr.room (dv 0 (pv 0)) (d_int) (fun _ _ => rfl)) (d_int)) (dv 0 (pv 0)) (d_int) (ps_asg (d_add false (d_idx hr.room (dv 0 (pv 0)) (d_int) (fun _ _ => rfl)) (d_int)) (pg_sub (dv 0 (pv 0)) (d_int) set_list)))
    (ds_cons (ds_set (ps_set (i := 2) sc__law_take.nd rfl (Or.inl rfl) (d_mod (d_pow (d_add false (d_idx hr.room (dv 0 (pv 0)) (d_int) (fun _ _ => rfl)) (d_mul false (d_int) (d_idx hr.room (dv 0 (pv 0)) (d_int) (fun _ _ => rfl)))) (d_int)) (d_int))))
    (ds_one (ds_ret (d_mod (d_div (d_mod (d_add false (d_mul false (dv 2 (pv 2)) (d_add false (d_mod (dv 2 (pv 2)) (d_int)) (d_int))) (d_mul false (d_idx hr.room (dv 0 (pv 0)) (d_int) (fun _ _ => rfl)) (d_int))) (d_int)) (d_int)) (dv 1 (pv 1)))))))
abbrev s_is_pair : Stmt := topS 7
abbrev N_is_pair : List Str := ["thing", "part"]
theorem sc_is_pair : FnScope N_is_pair ["thing"] (defScope s_is_pair) := ⟨rfl, rfl, rfl, by decide +kernel, rfl, by decide +kernel, by decide +kernel⟩
theorem ok_is_pair (f : Addr) (fd : FuncData) (F : Fun K "is_pair" "is_pair" s_is_pair f fd) (hm : mg "is_pair" = some (.ref f)) (B : Bi mg)  (g_is_name : GD HW.P HW.w K mg base 1 "is_name" s_is_name ["thing"] m_is_name) : GD HW.P HW.w K mg base 2 "is_pair" s_is_pair ["thing"] m_is_pair := gd_ok false F hm sc_is_pair fun cdv A outer s H E hr =>
    ds_one (ds_ret (d_and (d_isi B.isinstance B.tuple bt_tuple (.inr (.inr (.inr (.inr (.inl rfl))))) (dv 0 (pv 0))) (d_and (d_eq hr.room (d_len B.len (da_cons (dv 0 (pv 0)) (da_nil))) (d_int)) (d_one (d_all rfl B.all (da_cons (d_lc false (own := [("part", 1)]) rfl sc_is_pair.nd (di_seq (dv 0 (pv 0))) (blkOk_by (N := N_is_pair) (sc := defScope s_is_pair) (by decide +kernel)) (fun _ _ _ _ _ => dg_name 1 (pg_name (i := 1) sc_is_pair.nd rfl (Or.inl rfl))) (fun _ _ _ _ _ => dts_nil) (fun _ _ _ _ _ => d_call' g_is_name (hr.mono (by omega)) (da_cons (dv 1 (pv 1)) (da_nil)) (fun _ _ _ _ _ _ us hl => match us, hl with | [_], _ => rfl)) (by decide)) (da_nil)))))))
abbrev s__law_of : Stmt := topS 24
abbrev N__law_of : List Str := ["_law_box_here", "_law_some"]
theorem sc__law_of : FnScope N__law_of ["_law_box_here", "_law_some"] (defScope s__law_of) := ⟨rfl, rfl, rfl, by decide +kernel, rfl, by decide +kernel, by decide +kernel⟩
theorem ok__law_of (f : Addr) (fd : FuncData) (F : Fun K "_law_of" "_law_of" s__law_of f fd) (hm : mg "_law_of" = some (.ref f)) (B : Bi mg)  (g__law_take : GD HW.P HW.w K mg base 1 "_law_take" s__law_take ["_law_box_here", "_law_bound"] m__law_take) : GD HW.P HW.w K mg base 2 "_law_of" s__law_of ["_law_box_here", "_law_some"] m__law_of := gd_ok false F hm sc__law_of fun cdv A outer s H E hr =>
    ds_one (ds_ret (d_idx hr.room (dv 1 (pv 1)) (d_call' g__law_take (hr.mono (by omega)) (da_cons (dv 0 (pv 0)) (da_cons (d_len B.len (da_cons (dv 1 (pv 1)) (da_nil))) (da_nil))) (fun _ _ _ _ _ _ us hl => match us, hl with | [_, _], _ => rfl)) (fun _ _ => rfl)))
abbrev s__law_strewn : Stmt := topS 25
abbrev N__law_strewn : List Str := ["_law_box_here", "_law_some", "_law_found", "_law_item"]
theorem sc__law_strewn : FnScope N__law_strewn ["_law_box_here", "_law_some"] (defScope s__law_strewn) := ⟨rfl, rfl, rfl, by decide +kernel, rfl, by decide +kernel, by decide +kernel⟩
theorem ok__law_strewn (f : Addr) (fd : FuncData) (F : Fun K "_law_strewn" "_law_strewn" s__law_strewn f fd) (hm : mg "_law_strewn" = some (.ref f)) (B : Bi mg)  (g__law_take : GD HW.P HW.w K mg base 1 "_law_take" s__law_take ["_law_box_here", "_law_bound"] m__law_take) : GD HW.P HW.w K mg base 2 "_law_strewn" s__law_strewn ["_law_box_here", "_law_some"] m__law_strewn := gd_ok false F hm sc__law_strewn fun cdv A outer s H E hr =>
    ds_cons (ds_set (ps_set (i := 2) sc__law_strewn.nd rfl (Or.inl rfl) (d_lst true (da_nil))))
    (ds_cons (ds_for rfl PassesOwn.never (di_seq (dv 1 (pv 1))) (dg_name 3 (pg_name (i := 3) sc__law_strewn.nd rfl (Or.inl rfl)))
    (ds_one (ds_expr ((pe_bm PySem.F.plainAttrs_list PySem.F.slot_list_insert PySem.F.type_list_insert mt_insert (dv 2 (pv 2)) (da_cons (d_call' g__law_take (hr.mono (by omega)) (da_cons (dv 0 (pv 0)) (da_cons (d_add false (d_len B.len (da_cons (dv 2 (pv 2)) (da_nil))) (d_int)) (da_nil))) (fun _ _ _ _ _ _ us hl => match us, hl with | [_, _], _ => rfl)) (da_cons (dv 3 (pv 3)) (da_nil)))).weak (meth_imp s_insert)))))
    (ds_one (ds_ret (dv 2 (pv 2)))))
abbrev s_is_call : Stmt := topS 8
abbrev N_is_call : List Str := ["thing", "names", "who", "whom", "one", "other", "part"]
theorem sc_is_call : FnScope N_is_call ["thing"] (defScope s_is_call) := ⟨rfl, rfl, rfl, by decide +kernel, rfl, by decide +kernel, by decide +kernel⟩
theorem ok_is_call (f : Addr) (fd : FuncData) (F : Fun K "is_call" "is_call" s_is_call f fd) (hm : mg "is_call" = some (.ref f)) (B : Bi mg)  (g_is_pair : GD HW.P HW.w K mg base 2 "is_pair" s_is_pair ["thing"] m_is_pair) : GD HW.P HW.w K mg base 3 "is_call" s_is_call ["thing"] m_is_call := gd_ok false F hm sc_is_call fun cdv A outer s H E hr =>
    ds_cons (ds_if (PW.pt (dw_or (dt_not (dt_val (d_isi B.isinstance B.tuple bt_tuple (.inr (.inr (.inr (.inr (.inl rfl))))) (dv 0 (pv 0))))) (dw_or (t_eq hr.room (d_len B.len (da_cons (dv 0 (pv 0)) (da_nil))) (d_int)) (dw_or1 (dt_not (dt_val (d_all rfl B.all (da_cons (d_lc false (own := [("part", 6)]) rfl sc_is_call.nd (di_seq (dv 0 (pv 0))) (blkOk_by (N := N_is_call) (sc := defScope s_is_call) (by decide +kernel)) (fun _ _ _ _ _ => dg_name 6 (pg_name (i := 6) sc_is_call.nd rfl (Or.inl rfl))) (fun _ _ _ _ _ => dts_nil) (fun _ _ _ _ _ => d_call' g_is_pair (hr.mono (by omega)) (da_cons (dv 6 (pv 6)) (da_nil)) (fun _ _ _ _ _ _ us hl => match us, hl with | [_], _ => rfl)) (by decide)) (da_nil))))))))) (ds_one (ds_ret (d_bl))) (ds_nil))
    (ds_cons (ds_set (ps_set (i := 1) sc_is_call.nd rfl (Or.inr rfl) (d_lc false (own := [("who", 2), ("whom", 3)]) rfl sc_is_call.nd (di_seq (dv 0 (pv 0))) (blkOk_by (N := N_is_call) (sc := defScope s_is_call) (by decide +kernel)) (fun _ _ _ _ _ => dg_tup rfl (dgs_cons (dg_name 2 (pg_name (i := 2) sc_is_call.nd rfl (Or.inl rfl))) (dgs_cons (dg_name 3 (pg_name (i := 3) sc_is_call.nd rfl (Or.inl rfl))) (dgs_nil)))) (fun _ _ _ _ _ => dts_nil) (fun _ _ _ _ _ => dv 2 (pv 2)) (by decide))))
    (ds_cons (ds_if (dt_val (d_any rfl B.any (da_cons (d_lcB false (own := [("one", 4), ("other", 5)]) rfl sc_is_call.nd (di_zipB B.zip (da_cons (dv 1 (pv 1)) (da_cons (d_slice false (dv 1 (pv 1)) (do_some (d_int)) (do_none)) (da_nil)))) (blkOk_by (N := N_is_call) (sc := defScope s_is_call) (by decide +kernel)) (fun _ _ _ _ _ => dg_tupB rfl (dgs_cons (dg_name 4 (pg_name (i := 4) sc_is_call.nd rfl (Or.inl rfl))) (dgs_cons (dg_name 5 (pg_name (i := 5) sc_is_call.nd rfl (Or.inl rfl))) (dgs_nil)))) (fun _ _ _ _ _ => dts_nil) (fun _ _ _ _ _ => d_ge (dv 4 (pv 4)) (dv 5 (pv 5))) (by decide)) (da_nil)))) (ds_one (ds_ret (d_bl))) (ds_nil))
    (ds_one (ds_ret (d_all rfl B.all (da_cons (d_lc false (own := [("who", 2), ("whom", 3)]) rfl sc_is_call.nd (di_seq (dv 0 (pv 0))) (blkOk_by (N := N_is_call) (sc := defScope s_is_call) (by decide +kernel)) (fun _ _ _ _ _ => dg_tup rfl (dgs_cons (dg_name 2 (pg_name (i := 2) sc_is_call.nd rfl (Or.inl rfl))) (dgs_cons (dg_name 3 (pg_name (i := 3) sc_is_call.nd rfl (Or.inl rfl))) (dgs_nil)))) (fun _ _ _ _ _ => dts_nil) (fun _ _ _ _ _ => d_in' hr.room (dv 3 (pv 3)) (dv 1 (pv 1))) (by decide)) (da_nil)))))))
abbrev s_look_name : Stmt := topS 11
abbrev N_look_name : List Str := ["names", "name"]
theorem sc_look_name : FnScope N_look_name ["names", "name"] (defScope s_look_name) := ⟨rfl, rfl, rfl, by decide +kernel, rfl, by decide +kernel, by decide +kernel⟩
theorem ok_look_name (f : Addr) (fd : FuncData) (F : Fun K "look_name" "look_name" s_look_name f fd) (hm : mg "look_name" = some (.ref f)) (B : Bi mg)   : GD HW.P HW.w K mg base 3 "look_name" s_look_name ["names", "name"] m_look_name := gd_ok false F hm sc_look_name fun cdv A outer s H E hr =>
    ds_one (ds_if (t_notin hr.room (dv 1 (pv 1)) (dv 0 (pv 0))) (ds_one (ds_never)) (ds_nil))
abbrev s__law_crew : Stmt := topS 26
abbrev N__law_crew : List Str := ["_law_box_here", "_law_most", "_law_at", "_law_size", "_law_letters", "_law_pool", "_law_start", "_law_step", "_law_sign"]
theorem sc__law_crew : FnScope N__law_crew ["_law_box_here", "_law_most"] (defScope s__law_crew) := ⟨rfl, rfl, rfl, by decide +kernel, rfl, by decide +kernel, by decide +kernel⟩
theorem ok__law_crew (f : Addr) (fd : FuncData) (F : Fun K "_law_crew" "_law_crew" s__law_crew f fd) (hm : mg "_law_crew" = some (.ref f)) (B : Bi mg)  (g__law_strewn : GD HW.P HW.w K mg base 2 "_law_strewn" s__law_strewn ["_law_box_here", "_law_some"] m__law_strewn) (g__law_take : GD HW.P HW.w K mg base 1 "_law_take" s__law_take ["_law_box_here", "_law_bound"] m__law_take) : GD HW.P HW.w K mg base 3 "_law_crew" s__law_crew ["_law_box_here", "_law_most"] m__law_crew := gd_ok false F hm sc__law_crew fun cdv A outer s H E hr =>
    ds_cons (ds_par3 (ps_par3 (i := 3) (j := 4) (l := 5) rfl sc__law_crew.nd rfl rfl rfl (by decide) (by decide) (by decide) rfl rfl rfl (da_cons (d_add false (d_int) (d_call' g__law_take (hr.mono (by omega)) (da_cons (dv 0 (pv 0)) (da_cons (dv 1 (pv 1)) (da_nil))) (fun _ _ _ _ _ _ us hl => match us, hl with | [_, _], _ => rfl))) (da_cons (d_str) (da_cons (d_lst true (da_nil)) (da_nil)))) (by rfl)))
    (ds_cons (ds_par2 (ps_par (i := 6) (j := 7) rfl sc__law_crew.nd rfl rfl (by decide) rfl rfl (da_cons (d_call' g__law_take (hr.mono (by omega)) (da_cons (dv 0 (pv 0)) (da_cons (d_int) (da_nil))) (fun _ _ _ _ _ _ us hl => match us, hl with | [_, _], _ => rfl)) (da_cons (d_idx hr.room (d_lst false (da_cons (d_int) (da_cons (d_int) (da_cons (d_int) (da_nil))))) (d_call' g__law_take (hr.mono (by omega)) (da_cons (dv 0 (pv 0)) (da_cons (d_int) (da_nil))) (fun _ _ _ _ _ _ us hl => match us, hl with | [_, _], _ => rfl)) (fun _ _ => rfl)) (da_nil))) (by rfl)))
    (ds_cons (ds_for rfl PassesOwn.never (di_rng1 B.range (da_cons (dv 3 (pv 3)) (da_nil))) (dg_name 2 (pg_name (i := 2) sc__law_crew.nd rfl (Or.inl rfl)))
    (ds_cons (ds_set (ps_set (i := 8) sc__law_crew.nd rfl (Or.inl rfl) (d_idx hr.room (dv 4 (pv 4)) (d_mod (d_add false (dv 6 (pv 6)) (d_mul false (dv 7 (pv 7)) (d_div (dv 2 (pv 2)) (d_int)))) (d_int)) (fun _ _ => rfl))))
    (ds_one (ds_expr ((pe_bm PySem.F.plainAttrs_list PySem.F.slot_list_append PySem.F.type_list_append mt_append (dv 5 (pv 5)) (da_cons (d_add false (dv 8 (pv 8)) (d_idx hr.room (d_lst false (da_cons (d_str) (da_cons (d_str) (da_cons (d_str) (da_nil))))) (d_mul false (d_mod (dv 2 (pv 2)) (d_int)) (d_add false (d_int) (d_mod (dv 6 (pv 6)) (d_int)))) (fun _ _ => rfl))) (da_nil))).weak (meth_imp s_append))))))
    (ds_frz 5 (ds_one (ds_ret (d_call' g__law_strewn (hr.mono (by omega)) (da_cons (dv 0 (pv 0)) (da_cons (dv 5 (pv 5)) (da_nil))) (fun _ _ _ _ _ _ us hl => match us, hl with | [_, _], _ => rfl)))))))
abbrev s__law_ask : Stmt := topS 27
abbrev N__law_ask : List Str := ["_law_box_here", "_law_crew_here", "_law_found", "_law_folk", "_law_sort", "_law_some", "_law_swap", "_law_at", "_law_mate", "_law_seldom", "_law_any_one", "_law_near"]
theorem sc__law_ask : FnScope N__law_ask ["_law_box_here", "_law_crew_here"] (defScope s__law_ask) := ⟨rfl, rfl, rfl, by decide +kernel, rfl, by decide +kernel, by decide +kernel⟩
theorem ok__law_ask (f : Addr) (fd : FuncData) (F : Fun K "_law_ask" "_law_ask" s__law_ask f fd) (hm : mg "_law_ask" = some (.ref f)) (B : Bi mg)  (g__law_take : GD HW.P HW.w K mg base 1 "_law_take" s__law_take ["_law_box_here", "_law_bound"] m__law_take) (g__law_strewn : GD HW.P HW.w K mg base 2 "_law_strewn" s__law_strewn ["_law_box_here", "_law_some"] m__law_strewn) (g__law_of : GD HW.P HW.w K mg base 2 "_law_of" s__law_of ["_law_box_here", "_law_some"] m__law_of) : GD HW.P HW.w K mg base 3 "_law_ask" s__law_ask ["_law_box_here", "_law_crew_here"] m__law_ask := gd_ok false F hm sc__law_ask fun cdv A outer s H E hr =>
    ds_cons (ds_par2 (ps_par (i := 3) (j := 4) rfl sc__law_ask.nd rfl rfl (by decide) rfl rfl (da_cons (d_sorted hr false B.sorted (da_cons (dv 1 (pv 1)) (da_nil))) (da_cons (d_call' g__law_take (hr.mono (by omega)) (da_cons (dv 0 (pv 0)) (da_cons (d_int) (da_nil))) (fun _ _ _ _ _ _ us hl => match us, hl with | [_, _], _ => rfl)) (da_nil))) (by rfl)))
    (ds_cons (ds_par2 (ps_par (i := 5) (j := 6) rfl sc__law_ask.nd rfl rfl (by decide) rfl rfl (da_cons (d_slice false (d_call' g__law_strewn (hr.mono (by omega)) (da_cons (dv 0 (pv 0)) (da_cons (dv 3 (pv 3)) (da_nil))) (fun _ _ _ _ _ _ us hl => match us, hl with | [_, _], _ => rfl)) (do_none) (do_some (d_add false (d_int) (d_call' g__law_take (hr.mono (by omega)) (da_cons (dv 0 (pv 0)) (da_cons (d_int) (da_nil))) (fun _ _ _ _ _ _ us hl => match us, hl with | [_, _], _ => rfl))))) (da_cons (d_call' g__law_strewn (hr.mono (by omega)) (da_cons (dv 0 (pv 0)) (da_cons (dv 3 (pv 3)) (da_nil))) (fun _ _ _ _ _ _ us hl => match us, hl with | [_, _], _ => rfl)) (da_nil))) (by rfl)))
    (ds_cons (ds_set (ps_set (i := 2) sc__law_ask.nd rfl (Or.inl rfl) (d_lst true (da_nil))))
    (ds_cons (ds_for rfl PassesOwn.never (di_enumA B.enumerate (da_cons (dv 3 (pv 3)) (da_nil))) (dg_tup rfl (dgs_cons (dg_name 7 (pg_name (i := 7) sc__law_ask.nd rfl (Or.inl rfl))) (dgs_cons (dg_name 8 (pg_name (i := 8) sc__law_ask.nd rfl (Or.inl rfl))) (dgs_nil))))
    (ds_cons (ds_par2 (ps_par (i := 10) (j := 11) rfl sc__law_ask.nd rfl rfl (by decide) rfl rfl (da_cons (d_call' g__law_of (hr.mono (by omega)) (da_cons (dv 0 (pv 0)) (da_cons (dv 3 (pv 3)) (da_nil))) (fun _ _ _ _ _ _ us hl => match us, hl with | [_, _], _ => rfl)) (da_cons (d_call' g__law_of (hr.mono (by omega)) (da_cons (dv 0 (pv 0)) (da_cons (dv 5 (pv 5)) (da_nil))) (fun _ _ _ _ _ _ us hl => match us, hl with | [_, _], _ => rfl)) (da_nil))) (by rfl)))
    (ds_cons (ds_set (ps_set (i := 9) sc__law_ask.nd rfl (Or.inl rfl) (d_if (t_eq hr.room (d_call' g__law_take (hr.mono (by omega)) (da_cons (dv 0 (pv 0)) (da_cons (d_int) (da_nil))) (fun _ _ _ _ _ _ us hl => match us, hl with | [_, _], _ => rfl)) (d_int)) (dv 10 (pv 10)) (dv 8 (pv 8)))))
    (ds_one (ds_expr ((pe_bm PySem.F.plainAttrs_list PySem.F.slot_list_append PySem.F.type_list_append mt_append (dv 2 (pv 2)) (da_cons (d_tup (da_cons (dv 8 (pv 8)) (da_cons (d_idx hr.room (d_lst false (da_cons (dv 10 (pv 10)) (da_cons (dv 10 (pv 10)) (da_cons (dv 11 (pv 11)) (da_cons (dv 9 (pv 9)) (da_cons (d_idx hr.room (dv 6 (pv 6)) (dv 7 (pv 7)) (fun _ _ => rfl)) (da_cons (dv 11 (pv 11)) (da_nil)))))))) (dv 4 (pv 4)) (fun _ _ => rfl)) (da_nil)))) (da_nil))).weak (meth_imp s_append)))))))
    (ds_frz 2 (ds_one (ds_ret (d_tuple B.tuple (da_cons (dv 2 (pv 2)) (da_nil)))))))))
abbrev s_whom : Stmt := topS 12
abbrev N_whom : List Str := ["call", "name", "told"]
theorem sc_whom : FnScope N_whom ["call", "name"] (defScope s_whom) := ⟨rfl, rfl, rfl, by decide +kernel, rfl, by decide +kernel, by decide +kernel⟩
theorem ok_whom (f : Addr) (fd : FuncData) (F : Fun K "whom" "whom" s_whom f fd) (hm : mg "whom" = some (.ref f)) (B : Bi mg)  (g_by_names : GD HW.P HW.w K mg base 1 "by_names" s_by_names ["call"] m_by_names) (g_look_name : GD HW.P HW.w K mg base 3 "look_name" s_look_name ["names", "name"] m_look_name) : GD HW.P HW.w K mg base 4 "whom" s_whom ["call", "name"] m_whom := gd_ok false F hm sc_whom fun cdv A outer s H E hr =>
    ds_cons (ds_set (ps_set (i := 2) sc_whom.nd rfl (Or.inl rfl) (d_call' g_by_names (hr.mono (by omega)) (da_cons (dv 0 (pv 0)) (da_nil)) (fun _ _ _ _ _ _ us hl => match us, hl with | [_], _ => rfl))))
    (ds_cons (ds_expr (d_call' g_look_name (hr.mono (by omega)) (da_cons (dv 2 (pv 2)) (da_cons (dv 1 (pv 1)) (da_nil))) (fun _ _ _ _ _ _ us hl => match us, hl with | [_, _], _ => rfl)))
    (ds_one (ds_ret (d_idx hr.room (dv 2 (pv 2)) (dv 1 (pv 1)) (fun _ _ => rfl)))))
abbrev s_all_to : Stmt := topS 14
abbrev N_all_to : List Str := ["names", "name", "who"]
theorem sc_all_to : FnScope N_all_to ["names", "name"] (defScope s_all_to) := ⟨rfl, rfl, rfl, by decide +kernel, rfl, by decide +kernel, by decide +kernel⟩
theorem ok_all_to (f : Addr) (fd : FuncData) (F : Fun K "all_to" "all_to" s_all_to f fd) (hm : mg "all_to" = some (.ref f)) (B : Bi mg)  (g_look_name : GD HW.P HW.w K mg base 3 "look_name" s_look_name ["names", "name"] m_look_name) : GD HW.P HW.w K mg base 4 "all_to" s_all_to ["names", "name"] m_all_to := gd_ok false F hm sc_all_to fun cdv A outer s H E hr =>
    ds_cons (ds_expr (d_call' g_look_name (hr.mono (by omega)) (da_cons (dv 0 (pv 0)) (da_cons (dv 1 (pv 1)) (da_nil))) (fun _ _ _ _ _ _ us hl => match us, hl with | [_, _], _ => rfl)))
    (ds_one (ds_ret (d_tuple B.tuple (da_cons (d_lc false (own := [("who", 2)]) rfl sc_all_to.nd (di_seq (d_sorted hr false B.sorted (da_cons (dv 0 (pv 0)) (da_nil)))) (blkOk_by (N := N_all_to) (sc := defScope s_all_to) (by decide +kernel)) (fun _ _ _ _ _ => dg_name 2 (pg_name (i := 2) sc_all_to.nd rfl (Or.inl rfl))) (fun _ _ _ _ _ => dts_nil) (fun _ _ _ _ _ => d_tup (da_cons (dv 2 (pv 2)) (da_cons (dv 1 (pv 1)) (da_nil)))) (by decide)) (da_nil)))))
abbrev s_call_of : Stmt := topS 15
abbrev N_call_of : List Str := ["names", "told", "name", "who"]
theorem sc_call_of : FnScope N_call_of ["names", "told"] (defScope s_call_of) := ⟨rfl, rfl, rfl, by decide +kernel, rfl, by decide +kernel, by decide +kernel⟩
theorem ok_call_of (f : Addr) (fd : FuncData) (F : Fun K "call_of" "call_of" s_call_of f fd) (hm : mg "call_of" = some (.ref f)) (B : Bi mg)  (g_look_name : GD HW.P HW.w K mg base 3 "look_name" s_look_name ["names", "name"] m_look_name) : GD HW.P HW.w K mg base 4 "call_of" s_call_of ["names", "told"] m_call_of := gd_ok false F hm sc_call_of fun cdv A outer s H E hr =>
    ds_cons (ds_for rfl PassesOwn.never (di_seq (d_sortD rfl false B.sorted (da_cons (dv 1 (pv 1)) (da_nil)))) (dg_name 2 (pg_name (i := 2) sc_call_of.nd rfl (Or.inl rfl)))
    (ds_one (ds_expr (d_call' g_look_name (hr.mono (by omega)) (da_cons (dv 0 (pv 0)) (da_cons (dv 2 (pv 2)) (da_nil))) (fun _ _ _ _ _ _ us hl => match us, hl with | [_, _], _ => rfl)))))
    (ds_cons (ds_for rfl PassesOwn.never (di_seq (d_sortV hr rfl false B.sorted (dv 1 (pv 1)))) (dg_name 2 (pg_name (i := 2) sc_call_of.nd rfl (Or.inl rfl)))
    (ds_one (ds_expr (d_call' g_look_name (hr.mono (by omega)) (da_cons (dv 0 (pv 0)) (da_cons (dv 2 (pv 2)) (da_nil))) (fun _ _ _ _ _ _ us hl => match us, hl with | [_, _], _ => rfl)))))
    (ds_one (ds_ret (d_tuple B.tuple (da_cons (d_lc false (own := [("who", 3)]) rfl sc_call_of.nd (di_seq (d_sorted hr false B.sorted (da_cons (dv 0 (pv 0)) (da_nil)))) (blkOk_by (N := N_call_of) (sc := defScope s_call_of) (by decide +kernel)) (fun _ _ _ _ _ => dg_name 3 (pg_name (i := 3) sc_call_of.nd rfl (Or.inl rfl))) (fun _ _ _ _ _ => dts_nil) (fun _ _ _ _ _ => d_tup (da_cons (dv 3 (pv 3)) (da_cons (d_dget hr (dv 1 (pv 1)) (dv 3 (pv 3)) (dv 3 (pv 3)) ⟨rfl, rfl, rfl, rfl⟩) (da_nil)))) (by decide)) (da_nil))))))
abbrev s_going : Stmt := topS 16
abbrev N_going : List Str := ["names", "who", "name"]
theorem sc_going : FnScope N_going ["names", "who", "name"] (defScope s_going) := ⟨rfl, rfl, rfl, by decide +kernel, rfl, by decide +kernel, by decide +kernel⟩
theorem ok_going (f : Addr) (fd : FuncData) (F : Fun K "going" "going" s_going f fd) (hm : mg "going" = some (.ref f)) (B : Bi mg)  (g_look_name : GD HW.P HW.w K mg base 3 "look_name" s_look_name ["names", "name"] m_look_name) (g_call_of : GD HW.P HW.w K mg base 4 "call_of" s_call_of ["names", "told"] m_call_of) : GD HW.P HW.w K mg base 5 "going" s_going ["names", "who", "name"] m_going := gd_ok false F hm sc_going fun cdv A outer s H E hr =>
    ds_cons (ds_expr (d_call' g_look_name (hr.mono (by omega)) (da_cons (dv 0 (pv 0)) (da_cons (dv 1 (pv 1)) (da_nil))) (fun _ _ _ _ _ _ us hl => match us, hl with | [_, _], _ => rfl)))
    (ds_one (ds_ret (d_call' g_call_of (hr.mono (by omega)) (da_cons (dv 0 (pv 0)) (da_cons (d_dv false (ps := [(1, 2)]) (pps_cons (pv 1) (pv 2) (pps_nil)) rfl rfl (fun z => by cases z) (by decide)) (da_nil))) (fun _ _ _ _ _ _ us hl => match us, hl with | [_, _], _ => rfl))))
abbrev s__law_same : Stmt := topS 22
abbrev N__law_same : List Str := ["_law_found", "_law_due", "_law_mine", "_law_its"]
theorem sc__law_same : FnScope N__law_same ["_law_found", "_law_due"] (defScope s__law_same) := ⟨rfl, rfl, rfl, by decide +kernel, rfl, by decide +kernel, by decide +kernel⟩
theorem ok__law_same (f : Addr) (fd : FuncData) (F : Fun K "_law_same" "_law_same" s__law_same f fd) (hm : mg "_law_same" = some (.ref f)) (B : Bi mg)   : ∀ n : Nat, GD HW.P HW.w K mg base (n) "_law_same" s__law_same ["_law_found", "_law_due"] (m__law_same n)
  | 0 => GD.no F hm
  | n + 1 => have ih := ok__law_same f fd F hm B  n
    gd_ok false F hm sc__law_same fun cdv A outer s H E hr =>
    ds_cons (ds_if (dt_val (d_isi2 B.isinstance B.list bt_list (.inr (.inr (.inr (.inl rfl)))) B.tuple bt_tuple (.inr (.inr (.inr (.inr (.inl rfl))))) (dv 1 (pv 1)))) (ds_cons (ds_if (PW.pt (dw_or (t_ne hr.room (d_isi B.isinstance B.list bt_list (.inr (.inr (.inr (.inl rfl)))) (dv 0 (pv 0))) (d_isi B.isinstance B.list bt_list (.inr (.inr (.inr (.inl rfl)))) (dv 1 (pv 1)))) (dw_or1 (t_ne hr.room (d_isi B.isinstance B.tuple bt_tuple (.inr (.inr (.inr (.inr (.inl rfl))))) (dv 0 (pv 0))) (d_isi B.isinstance B.tuple bt_tuple (.inr (.inr (.inr (.inr (.inl rfl))))) (dv 1 (pv 1))))))) (ds_one (ds_ret (d_bl))) (ds_nil))
    (ds_cons (ds_if (t_ne hr.room (d_len B.len (da_cons (dv 0 (pv 0)) (da_nil))) (d_len B.len (da_cons (dv 1 (pv 1)) (da_nil)))) (ds_one (ds_ret (d_bl))) (ds_nil))
    (ds_one (ds_ret (d_all rfl B.all (da_cons (d_lc false (own := [("_law_mine", 2), ("_law_its", 3)]) rfl sc__law_same.nd (di_zip B.zip (da_cons (dv 0 (pv 0)) (da_cons (dv 1 (pv 1)) (da_nil)))) (blkOk_by (N := N__law_same) (sc := defScope s__law_same) (by decide +kernel)) (fun _ _ _ _ _ => dg_tup rfl (dgs_cons (dg_name 2 (pg_name (i := 2) sc__law_same.nd rfl (Or.inl rfl))) (dgs_cons (dg_name 3 (pg_name (i := 3) sc__law_same.nd rfl (Or.inl rfl))) (dgs_nil)))) (fun _ _ _ _ _ => dts_nil) (fun _ _ _ _ _ => d_call' ih hr (da_cons (dv 2 (pv 2)) (da_cons (dv 3 (pv 3)) (da_nil))) (fun _ _ _ _ _ _ us hl => match us, hl with | [_, _], _ => rfl)) (by decide)) (da_nil))))))) (ds_nil))
    (ds_cons (ds_if (PW.pt (dw_or (t_is (dv 1 (pv 1)) (d_non)) (dw_or1 (dt_val (d_isi B.isinstance B.str bt_str (.inr (.inr (.inl rfl))) (dv 1 (pv 1))))))) (ds_one (ds_ret (d_and (d_eq hr.room (dv 0 (pv 0)) (dv 1 (pv 1))) (d_one (d_eq hr.room (d_isi B.isinstance B.str bt_str (.inr (.inr (.inl rfl))) (dv 0 (pv 0))) (d_isi B.isinstance B.str bt_str (.inr (.inr (.inl rfl))) (dv 1 (pv 1)))))))) (ds_nil))
    (ds_one (ds_ret (d_and (d_isi B.isinstance B.int bt_int (.inl rfl) (dv 0 (pv 0))) (d_and (d_eq hr.room (d_isi B.isinstance B.bool bt_bool (.inr (.inl rfl)) (dv 0 (pv 0))) (d_isi B.isinstance B.bool bt_bool (.inr (.inl rfl)) (dv 1 (pv 1)))) (d_one (d_eq hr.room (dv 0 (pv 0)) (dv 1 (pv 1)))))))))
abbrev s__law_lists : Stmt := topS 23
abbrev N__law_lists : List Str := ["_law_matter", "_law_part"]
theorem sc__law_lists : FnScope N__law_lists ["_law_matter"] (defScope s__law_lists) := ⟨rfl, rfl, rfl, by decide +kernel, rfl, by decide +kernel, by decide +kernel⟩
theorem ok__law_lists (f : Addr) (fd : FuncData) (F : Fun K "_law_lists" "_law_lists" s__law_lists f fd) (hm : mg "_law_lists" = some (.ref f)) (B : Bi mg)   : ∀ n : Nat, GD HW.P HW.w K mg base (n) "_law_lists" s__law_lists ["_law_matter"] (m__law_lists n)
  | 0 => GD.no F hm
  | n + 1 => have ih := ok__law_lists f fd F hm B  n
    gd_ok false F hm sc__law_lists fun cdv A outer s H E hr =>
    ds_one (ds_ret (d_if (dt_val (d_isi2 B.isinstance B.list bt_list (.inr (.inr (.inr (.inl rfl)))) B.tuple bt_tuple (.inr (.inr (.inr (.inr (.inl rfl))))) (dv 0 (pv 0)))) (d_lc false (own := [("_law_part", 1)]) rfl sc__law_lists.nd (di_seq (dv 0 (pv 0))) (blkOk_by (N := N__law_lists) (sc := defScope s__law_lists) (by decide +kernel)) (fun _ _ _ _ _ => dg_name 1 (pg_name (i := 1) sc__law_lists.nd rfl (Or.inl rfl))) (fun _ _ _ _ _ => dts_nil) (fun _ _ _ _ _ => d_call' ih hr (da_cons (dv 1 (pv 1)) (da_nil)) (fun _ _ _ _ _ _ us hl => match us, hl with | [_], _ => rfl)) (by decide)) (dv 0 (pv 0))))
abbrev s__law_people_right : Stmt := topS 28
abbrev N__law_people_right : List Str := ["_law_crew_here", "_law_ask_here", "_law_mate", "_law_goal", "_law_sign"]
theorem sc__law_people_right : FnScope N__law_people_right ["_law_crew_here", "_law_ask_here", "_law_mate"] (defScope s__law_people_right) := ⟨rfl, rfl, rfl, by decide +kernel, rfl, by decide +kernel, by decide +kernel⟩
theorem ok__law_people_right (f : Addr) (fd : FuncData) (F : Fun K "_law_people_right" "_law_people_right" s__law_people_right f fd) (hm : mg "_law_people_right" = some (.ref f)) (B : Bi mg)  (g__law_same : GD HW.P HW.w K mg base 12 "_law_same" s__law_same ["_law_found", "_law_due"] (m__law_same 12)) (g_whom : GD HW.P HW.w K mg base 4 "whom" s_whom ["call", "name"] m_whom) (g_people : GD HW.P HW.w K mg base 1 "people" s_people ["call"] m_people) (g__law_lists : GD HW.P HW.w K mg base 12 "_law_lists" s__law_lists ["_law_matter"] (m__law_lists 12)) : GD HW.P HW.w K mg base 13 "_law_people_right" s__law_people_right ["_law_crew_here", "_law_ask_here", "_law_mate"] m__law_people_right := gd_ok false F hm sc__law_people_right fun cdv A outer s H E hr =>
    ds_cons (ds_set (ps_set (i := 3) sc__law_people_right.nd rfl (Or.inr rfl) (d_dictA rfl false B.dict (da_cons (dv 1 (pv 1)) (da_nil)))))
    (ds_cons (ds_if (dt_not (dt_val (d_call' g__law_same (hr.mono (by omega)) (da_cons (d_lst false (da_cons (d_call' g_people (hr.mono (by omega)) (da_cons (dv 1 (pv 1)) (da_nil)) (fun _ _ _ _ _ _ us hl => match us, hl with | [_], _ => rfl)) (da_cons (d_callK (ks := ["call"]) g_people (hr.mono (by omega)) (dk_cons (d_call' g__law_lists (hr.mono (by omega)) (da_cons (dv 1 (pv 1)) (da_nil)) (fun _ _ _ _ _ _ us hl => match us, hl with | [_], _ => rfl)) (dk_nil)) (fun _ _ _ _ _ _ us l hl hp => match us, hl with | [_], _ => by cases hp; rfl) rfl) (da_nil)))) (da_cons (d_mul false (d_lst false (da_cons (d_tuple B.tuple (da_cons (d_sorted hr false B.sorted (da_cons (dv 0 (pv 0)) (da_nil))) (da_nil))) (da_nil))) (d_int)) (da_nil))) (fun _ _ _ _ _ _ us hl => match us, hl with | [_, _], _ => rfl)))) (ds_one (ds_ret (d_bl))) (ds_nil))
    (ds_cons (ds_if (dt_not (dt_val (d_call' g__law_same (hr.mono (by omega)) (da_cons (d_lc false (own := [("_law_sign", 4)]) rfl sc__law_people_right.nd (di_seq (dv 0 (pv 0))) (blkOk_by (N := N__law_people_right) (sc := defScope s__law_people_right) (by decide +kernel)) (fun _ _ _ _ _ => dg_name 4 (pg_name (i := 4) sc__law_people_right.nd rfl (Or.inl rfl))) (fun _ _ _ _ _ => dts_nil) (fun _ _ _ _ _ => d_call' g_whom (hr.mono (by omega)) (da_cons (dv 1 (pv 1)) (da_cons (dv 4 (pv 4)) (da_nil))) (fun _ _ _ _ _ _ us hl => match us, hl with | [_, _], _ => rfl)) (by decide)) (da_cons (d_lc false (own := [("_law_sign", 4)]) rfl sc__law_people_right.nd (di_seq (dv 0 (pv 0))) (blkOk_by (N := N__law_people_right) (sc := defScope s__law_people_right) (by decide +kernel)) (fun _ _ _ _ _ => dg_name 4 (pg_name (i := 4) sc__law_people_right.nd rfl (Or.inl rfl))) (fun _ _ _ _ _ => dts_nil) (fun _ _ _ _ _ => d_idx hr.room (dv 3 (pv 3)) (dv 4 (pv 4)) (fun _ _ => rfl)) (by decide)) (da_nil))) (fun _ _ _ _ _ _ us hl => match us, hl with | [_, _], _ => rfl)))) (ds_one (ds_ret (d_bl))) (ds_nil))
    (ds_one (ds_ret (d_call' g__law_same (hr.mono (by omega)) (da_cons (d_callK (ks := ["name", "call"]) g_whom (hr.mono (by omega)) (dk_cons (dv 2 (pv 2)) (dk_cons (d_call' g__law_lists (hr.mono (by omega)) (da_cons (dv 1 (pv 1)) (da_nil)) (fun _ _ _ _ _ _ us hl => match us, hl with | [_], _ => rfl)) (dk_nil))) (fun _ _ _ _ _ _ us l hl hp => match us, hl with | [_, _], _ => by cases hp; rfl) rfl) (da_cons (d_idx hr.room (dv 3 (pv 3)) (dv 2 (pv 2)) (fun _ _ => rfl)) (da_nil))) (fun _ _ _ _ _ _ us hl => match us, hl with | [_, _], _ => rfl))))))
abbrev s__law_right : Stmt := topS 29
abbrev N__law_right : List Str := ["_law_box_here", "_law_crew_here", "_law_walk", "_law_found", "_law_some", "_law_lots", "_law_gone_ones", "_law_again", "_law_ask_here", "_law_folk", "_law_mate", "_law_near", "_law_kept", "_law_own", "_law_every", "_law_goal", "_law_before", "_law_part", "_law_sign", "_law_pair", "_law_its"]
theorem sc__law_right : FnScope N__law_right ["_law_box_here"] (defScope s__law_right) := ⟨rfl, rfl, rfl, by decide +kernel, rfl, by decide +kernel, by decide +kernel⟩
abbrev scope_128_16_128_172 : Scope := {kind := PySem.ScopeKind.function, names := [ (PySem.Str.ofString ".0", PySem.NameKind.local), (PySem.Str.ofString "_law_sign", PySem.NameKind.cell), (PySem.Str.ofString "tuple", PySem.NameKind.globalImplicit), (PySem.Str.ofString "_law_folk", PySem.NameKind.free), (PySem.Str.ofString "_law_goal", PySem.NameKind.free)], isGenerator := false, isCoroutine := false, more := [] : PySem.Scope }
theorem ok__law_right (f : Addr) (fd : FuncData) (F : Fun K "_law_right" "_law_right" s__law_right f fd) (hm : mg "_law_right" = some (.ref f)) (B : Bi mg)  (g__law_crew : GD HW.P HW.w K mg base 3 "_law_crew" s__law_crew ["_law_box_here", "_law_most"] m__law_crew) (g__law_ask : GD HW.P HW.w K mg base 3 "_law_ask" s__law_ask ["_law_box_here", "_law_crew_here"] m__law_ask) (g__law_of : GD HW.P HW.w K mg base 2 "_law_of" s__law_of ["_law_box_here", "_law_some"] m__law_of) (g_stay : GD HW.P HW.w K mg base 1 "stay" s_stay ["names"] m_stay) (g_all_to : GD HW.P HW.w K mg base 4 "all_to" s_all_to ["names", "name"] m_all_to) (g__law_same : GD HW.P HW.w K mg base 12 "_law_same" s__law_same ["_law_found", "_law_due"] (m__law_same 12)) (g__law_people_right : GD HW.P HW.w K mg base 13 "_law_people_right" s__law_people_right ["_law_crew_here", "_law_ask_here", "_law_mate"] m__law_people_right) (g_going : GD HW.P HW.w K mg base 5 "going" s_going ["names", "who", "name"] m_going) (g_groups__M : GD HW.P HW.w K mg base 1 "groups" s_groups ["call"] m_groups__M) (g_goers__M : GD HW.P HW.w K mg base 1 "goers" s_goers ["call"] m_goers__M) (g_call_of : GD HW.P HW.w K mg base 4 "call_of" s_call_of ["names", "told"] m_call_of) (g_is_call : GD HW.P HW.w K mg base 3 "is_call" s_is_call ["thing"] m_is_call) (g__law_lists : GD HW.P HW.w K mg base 12 "_law_lists" s__law_lists ["_law_matter"] (m__law_lists 12)) (g__law_take : GD HW.P HW.w K mg base 1 "_law_take" s__law_take ["_law_box_here", "_law_bound"] m__law_take) : GD HW.P HW.w K mg base 14 "_law_right" s__law_right ["_law_box_here"] m__law_right := gd_ok false F hm sc__law_right fun cdv A outer s H E hr =>
    ds_cons (ds_set (ps_set (i := 1) sc__law_right.nd rfl (Or.inl rfl) (d_call' g__law_crew (hr.mono (by omega)) (da_cons (dv 0 (pv 0)) (da_cons (d_int) (da_nil))) (fun _ _ _ _ _ _ us hl => match us, hl with | [_, _], _ => rfl))))
    (ds_cons (ds_asg (d_tup (da_cons (d_call' g__law_ask (hr.mono (by omega)) (da_cons (dv 0 (pv 0)) (da_cons (dv 1 (pv 1)) (da_nil))) (fun _ _ _ _ _ _ us hl => match us, hl with | [_, _], _ => rfl)) (da_cons (d_sorted hr false B.sorted (da_cons (dv 1 (pv 1)) (da_nil))) (da_nil)))) (dg_tup rfl (dgs_cons (dg_name 8 (pg_name (i := 8) sc__law_right.nd rfl (Or.inl rfl))) (dgs_cons (dg_name 9 (pg_name (i := 9) sc__law_right.nd rfl (Or.inr rfl))) (dgs_nil)))))
    (ds_cons (ds_asg (d_tup (da_cons (d_call' g__law_of (hr.mono (by omega)) (da_cons (dv 0 (pv 0)) (da_cons (dv 1 (pv 1)) (da_nil))) (fun _ _ _ _ _ _ us hl => match us, hl with | [_, _], _ => rfl)) (da_cons (d_call' g__law_of (hr.mono (by omega)) (da_cons (dv 0 (pv 0)) (da_cons (dv 1 (pv 1)) (da_nil))) (fun _ _ _ _ _ _ us hl => match us, hl with | [_, _], _ => rfl)) (da_cons (d_repr hr B.repr (da_cons (d_lst false (da_cons (dv 1 (pv 1)) (da_cons (dv 8 (pv 8)) (da_nil)))) (da_nil))) (da_nil))))) (dg_tup rfl (dgs_cons (dg_name 10 (pg_name (i := 10) sc__law_right.nd rfl (Or.inr rfl))) (dgs_cons (dg_name 11 (pg_name (i := 11) sc__law_right.nd rfl (Or.inr rfl))) (dgs_cons (dg_name 12 (pg_name (i := 12) sc__law_right.nd rfl (Or.inl rfl))) (dgs_nil))))))
    (ds_cons (ds_par2 (ps_par (i := 13) (j := 14) rfl sc__law_right.nd rfl rfl (by decide) rfl rfl (da_cons (d_tuple B.tuple (da_cons (d_lc false (own := [("_law_sign", 18)]) rfl sc__law_right.nd (di_seq (dv 9 (pv 9))) (blkOk_by (N := N__law_right) (sc := defScope s__law_right) (by decide +kernel)) (fun _ _ _ _ _ => dg_name 18 (pg_name (i := 18) sc__law_right.nd rfl (Or.inl rfl))) (fun _ _ _ _ _ => dts_nil) (fun _ _ _ _ _ => d_tup (da_cons (dv 18 (pv 18)) (da_cons (dv 18 (pv 18)) (da_nil)))) (by decide)) (da_nil))) (da_cons (d_tuple B.tuple (da_cons (d_lc false (own := [("_law_sign", 18)]) rfl sc__law_right.nd (di_seq (dv 9 (pv 9))) (blkOk_by (N := N__law_right) (sc := defScope s__law_right) (by decide +kernel)) (fun _ _ _ _ _ => dg_name 18 (pg_name (i := 18) sc__law_right.nd rfl (Or.inl rfl))) (fun _ _ _ _ _ => dts_nil) (fun _ _ _ _ _ => d_tup (da_cons (dv 18 (pv 18)) (da_cons (dv 11 (pv 11)) (da_nil)))) (by decide)) (da_nil))) (da_nil))) (by rfl)))
    (ds_cons (ds_set (ps_set (i := 2) sc__law_right.nd rfl (Or.inl rfl) (d_tuple B.tuple (da_cons (d_lc false (own := [("_law_sign", 18)]) rfl sc__law_right.nd (di_seq (dv 9 (pv 9))) (blkOk_by (N := N__law_right) (sc := defScope s__law_right) (by decide +kernel)) (fun _ _ _ _ _ => dg_name 18 (pg_name (i := 18) sc__law_right.nd rfl (Or.inl rfl))) (fun _ _ _ _ _ => dts_nil) (fun _ _ _ _ _ => d_tup (da_cons (dv 18 (pv 18)) (da_cons (d_if (t_eq hr.room (dv 18 (pv 18)) (dv 10 (pv 10))) (dv 11 (pv 11)) (dv 18 (pv 18))) (da_nil)))) (by decide)) (da_nil)))))
    (ds_cons (ds_set (ps_set (i := 3) sc__law_right.nd rfl (Or.inl rfl) (d_lst false (da_cons (d_call' g_stay (hr.mono (by omega)) (da_cons (dv 1 (pv 1)) (da_nil)) (fun _ _ _ _ _ _ us hl => match us, hl with | [_], _ => rfl)) (da_cons (d_callK (ks := ["names"]) g_stay (hr.mono (by omega)) (dk_cons (d_tuple B.tuple (da_cons (dv 1 (pv 1)) (da_nil))) (dk_nil)) (fun _ _ _ _ _ _ us l hl hp => match us, hl with | [_], _ => by cases hp; rfl) rfl) (da_cons (d_call' g_all_to (hr.mono (by omega)) (da_cons (dv 1 (pv 1)) (da_cons (dv 11 (pv 11)) (da_nil))) (fun _ _ _ _ _ _ us hl => match us, hl with | [_, _], _ => rfl)) (da_cons (d_callK (ks := ["name", "names"]) g_all_to (hr.mono (by omega)) (dk_cons (dv 11 (pv 11)) (dk_cons (d_tuple B.tuple (da_cons (dv 1 (pv 1)) (da_nil))) (dk_nil))) (fun _ _ _ _ _ _ us l hl hp => match us, hl with | [_, _], _ => by cases hp; rfl) rfl) (da_nil))))))))
    (ds_cons (ds_set (ps_set (i := 3) sc__law_right.nd rfl (Or.inl rfl) (d_add false (dv 3 (pv 3)) (d_lst false (da_cons (d_call' g_going (hr.mono (by omega)) (da_cons (dv 1 (pv 1)) (da_cons (dv 10 (pv 10)) (da_cons (dv 11 (pv 11)) (da_nil)))) (fun _ _ _ _ _ _ us hl => match us, hl with | [_, _, _], _ => rfl)) (da_cons (d_callK (ks := ["name", "who", "names"]) g_going (hr.mono (by omega)) (dk_cons (dv 11 (pv 11)) (dk_cons (dv 10 (pv 10)) (dk_cons (d_tuple B.tuple (da_cons (dv 1 (pv 1)) (da_nil))) (dk_nil)))) (fun _ _ _ _ _ _ us l hl hp => match us, hl with | [_, _, _], _ => by cases hp; rfl) rfl) (da_nil)))))))
    (ds_cons (ds_if (dt_not (dt_val (d_call' g__law_same (hr.mono (by omega)) (da_cons (dv 3 (pv 3)) (da_cons (d_lst false (da_cons (dv 13 (pv 13)) (da_cons (dv 13 (pv 13)) (da_cons (dv 14 (pv 14)) (da_cons (dv 14 (pv 14)) (da_cons (dv 2 (pv 2)) (da_cons (dv 2 (pv 2)) (da_nil)))))))) (da_nil))) (fun _ _ _ _ _ _ us hl => match us, hl with | [_, _], _ => rfl)))) (ds_one (ds_ret (d_bl))) (ds_nil))
    (ds_cons (ds_if (dt_not (dt_val (d_all rfl B.all (da_cons (d_lc false (own := [("_law_some", 4)]) rfl sc__law_right.nd (di_seq (dv 3 (pv 3))) (blkOk_by (N := N__law_right) (sc := defScope s__law_right) (by decide +kernel)) (fun _ _ _ _ _ => dg_name 4 (pg_name (i := 4) sc__law_right.nd rfl (Or.inl rfl))) (fun _ _ _ _ _ => dts_nil) (fun _ _ _ _ _ => d_is (d_call' g_is_call (hr.mono (by omega)) (da_cons (dv 4 (pv 4)) (da_nil)) (fun _ _ _ _ _ _ us hl => match us, hl with | [_], _ => rfl)) (d_bl)) (by decide)) (da_nil))))) (ds_one (ds_ret (d_bl))) (ds_nil))
    (ds_cons (ds_set (ps_set (i := 4) sc__law_right.nd rfl (Or.inl rfl) (d_dictA rfl false B.dict (da_cons (d_lc false (own := [("_law_pair", 19)]) rfl sc__law_right.nd (di_seq (dv 8 (pv 8))) (blkOk_by (N := N__law_right) (sc := defScope s__law_right) (by decide +kernel)) (fun _ _ _ _ _ => dg_name 19 (pg_name (i := 19) sc__law_right.nd rfl (Or.inl rfl))) (fun _ _ _ _ _ => dts_one (PW.pt (dw_or (t_ne hr.room (d_idx hr.room (dv 19 (pv 19)) (d_int) (fun _ _ => rfl)) (d_idx hr.room (dv 19 (pv 19)) (d_int) (fun _ _ => rfl))) (dw_or1 (t_eq hr.room (d_call' g__law_take (hr.mono (by omega)) (da_cons (dv 0 (pv 0)) (da_cons (d_int) (da_nil))) (fun _ _ _ _ _ _ us hl => match us, hl with | [_, _], _ => rfl)) (d_int)))))) (fun _ _ _ _ _ => dv 19 (pv 19)) (by decide)) (da_nil)))))
    (ds_cons (ds_asg (d_tup (da_cons (d_dictA rfl false B.dict (da_cons (dv 8 (pv 8)) (da_nil))) (da_cons (d_reprD hr B.repr (da_cons (dv 4 (pv 4)) (da_nil))) (da_nil)))) (dg_tup rfl (dgs_cons (dg_name 15 (pg_name (i := 15) sc__law_right.nd rfl (Or.inr rfl))) (dgs_cons (dg_name 16 (pg_name (i := 16) sc__law_right.nd rfl (Or.inl rfl))) (dgs_nil)))))
    (ds_cons (ds_if (dt_not (dt_val (d_call' g__law_same (hr.mono (by omega)) (da_cons (d_lst false (da_cons (d_call' g_call_of (hr.mono (by omega)) (da_cons (dv 1 (pv 1)) (da_cons (dv 4 (pv 4)) (da_nil))) (fun _ _ _ _ _ _ us hl => match us, hl with | [_, _], _ => rfl)) (da_cons (d_callK (ks := ["told", "names"]) g_call_of (hr.mono (by omega)) (dk_cons (dv 4 (pv 4)) (dk_cons (d_tuple B.tuple (da_cons (dv 1 (pv 1)) (da_nil))) (dk_nil))) (fun _ _ _ _ _ _ us l hl hp => match us, hl with | [_, _], _ => by cases hp; rfl) rfl) (da_cons (d_call' g_call_of (hr.mono (by omega)) (da_cons (dv 1 (pv 1)) (da_cons (d_dnew false) (da_nil))) (fun _ _ _ _ _ _ us hl => match us, hl with | [_, _], _ => rfl)) (da_nil))))) (da_cons (d_lst false (da_cons (dv 8 (pv 8)) (da_cons (dv 8 (pv 8)) (da_cons (dv 13 (pv 13)) (da_nil))))) (da_nil))) (fun _ _ _ _ _ _ us hl => match us, hl with | [_, _], _ => rfl)))) (ds_one (ds_ret (d_bl))) (ds_nil))
    (ds_cons (ds_if (t_ne hr.room (d_reprD hr B.repr (da_cons (dv 4 (pv 4)) (da_nil))) (dv 16 (pv 16))) (ds_one (ds_ret (d_bl))) (ds_nil))
    (ds_cons (ds_setLc false (own := [("_law_sign", 18)]) (i := 5) rfl sc__law_right.nd rfl rfl (sw_true rfl rfl rfl (by decide +kernel)) (di_seq (dv 9 (pv 9))) (blkOk_by (N := N__law_right) (sc := defScope s__law_right) (by decide +kernel)) (fun _ _ _ _ _ => dg_name 18 (pg_name (i := 18) sc__law_right.nd rfl (Or.inr rfl))) (fun _ _ _ _ _ => dts_one (t_inV rfl (dv 18 (pv 18)) (dv 15 (pv 15)))) (fun _ _ _ _ _ => d_tup (da_cons (dv 18 (pv 18)) (da_cons (d_tuple B.tuple (da_cons (d_lc false (own := [("_law_its", 20)]) rfl sc__law_right.nd (di_seq (dv 9 (pv 9))) (blk_re (blkOk_by (N := N__law_right) (sc := scope_128_16_128_172) (by decide +kernel))) (fun _ _ _ _ _ => dg_name 20 (pg_name (i := 20) sc__law_right.nd rfl (Or.inl rfl))) (fun _ _ _ _ _ => dts_one (t_eq hr.room (d_idx hr.room (dv 15 (pv 15)) (dv 20 (pv 20)) (fun _ _ => rfl)) (dv 18 (pv 18)))) (fun _ _ _ _ _ => dv 20 (pv 20)) (by decide)) (da_nil))) (da_nil)))) (by decide))
    (ds_cons (ds_setLc false (own := [("_law_sign", 18)]) (i := 6) rfl sc__law_right.nd rfl rfl (sw_true rfl rfl rfl (by decide +kernel)) (di_seq (dv 9 (pv 9))) (blkOk_by (N := N__law_right) (sc := defScope s__law_right) (by decide +kernel)) (fun _ _ _ _ _ => dg_name 18 (pg_name (i := 18) sc__law_right.nd rfl (Or.inl rfl))) (fun _ _ _ _ _ => dts_one (t_ne hr.room (d_idx hr.room (dv 15 (pv 15)) (dv 18 (pv 18)) (fun _ _ => rfl)) (dv 18 (pv 18)))) (fun _ _ _ _ _ => dv 18 (pv 18)) (by decide))
    (ds_cons (ds_for rfl PassesOwn.never (di_rng1 B.range (da_cons (d_int) (da_nil))) (dg_name 7 (pg_name (i := 7) sc__law_right.nd rfl (Or.inl rfl)))
    (ds_cons (ds_set (ps_set (i := 3) sc__law_right.nd rfl (Or.inl rfl) (d_pack (da_cons (d_call' g_groups__M (hr.mono (by omega)) (da_cons (dv 8 (pv 8)) (da_nil)) (fun _ _ _ _ _ _ us hl => match us, hl with | [_], _ => rfl)) (da_cons (d_callK (ks := ["call"]) g_groups__M (hr.mono (by omega)) (dk_cons (d_call' g__law_lists (hr.mono (by omega)) (da_cons (dv 8 (pv 8)) (da_nil)) (fun _ _ _ _ _ _ us hl => match us, hl with | [_], _ => rfl)) (dk_nil)) (fun _ _ _ _ _ _ us l hl hp => match us, hl with | [_], _ => by cases hp; rfl) rfl) (da_cons (d_call' g_goers__M (hr.mono (by omega)) (da_cons (dv 8 (pv 8)) (da_nil)) (fun _ _ _ _ _ _ us hl => match us, hl with | [_], _ => rfl)) (da_cons (d_callK (ks := ["call"]) g_goers__M (hr.mono (by omega)) (dk_cons (d_call' g__law_lists (hr.mono (by omega)) (da_cons (dv 8 (pv 8)) (da_nil)) (fun _ _ _ _ _ _ us hl => match us, hl with | [_], _ => rfl)) (dk_nil)) (fun _ _ _ _ _ _ us l hl hp => match us, hl with | [_], _ => by cases hp; rfl) rfl) (da_nil))))))))
    (ds_cons (ds_if (dt_thaw 3 (dt_not (dt_val (d_call' g__law_same (hr.mono (by omega)) (da_cons (dv 3 (pv 3)) (da_cons (d_lst false (da_cons (dv 5 (pv 5)) (da_cons (dv 5 (pv 5)) (da_cons (dv 6 (pv 6)) (da_cons (dv 6 (pv 6)) (da_nil)))))) (da_nil))) (fun _ _ _ _ _ _ us hl => match us, hl with | [_, _], _ => rfl))))) (ds_one (ds_ret (d_bl))) (ds_nil))
    (ds_one (ds_forP rfl PassesOwn.never (di_seqP (dv 3 (pv 3))) (dg_name 17 (pg_name (i := 17) sc__law_right.nd rfl (Or.inl rfl)))
    (ds_one (ds_expr ((pe_bm PySem.F.plainAttrs_list PySem.F.slot_list_append PySem.F.type_list_append mt_append (dv 17 (pv 17)) (da_cons (d_str) (da_nil))).weak (meth_imp s_append)))))))))
    (ds_one (ds_ret (d_and (d_call' g__law_people_right (hr.mono (by omega)) (da_cons (dv 1 (pv 1)) (da_cons (dv 8 (pv 8)) (da_cons (dv 10 (pv 10)) (da_nil)))) (fun _ _ _ _ _ _ us hl => match us, hl with | [_, _, _], _ => rfl)) (d_one (d_eq hr.room (d_repr hr B.repr (da_cons (d_lst false (da_cons (dv 1 (pv 1)) (da_cons (dv 8 (pv 8)) (da_nil)))) (da_nil))) (dv 12 (pv 12))))))))))))))))))))))
abbrev s_law : Stmt := topS 30
abbrev N_law : List Str := ["_law_script", "_law_k", "_law_box_here", "_law_turn"]
theorem sc_law : FnScope N_law ["_law_script"] (defScope s_law) := ⟨rfl, rfl, rfl, by decide +kernel, rfl, by decide +kernel, by decide +kernel⟩
theorem ok_law (f : Addr) (fd : FuncData) (F : Fun K "law" "law" s_law f fd) (hm : mg "law" = some (.ref f)) (B : Bi mg)  (g__law_box : GD HW.P HW.w K mg base 1 "_law_box" s__law_box ["_law_script", "_law_k"] m__law_box) (g__law_right : GD HW.P HW.w K mg base 14 "_law_right" s__law_right ["_law_box_here"] m__law_right) : FnG HW.P HW.w K mg base CX0 15 f fd ["_law_script"] (spD m_law) := fng_ok false F sc_law fun cdv A outer s H E hr =>
    ds_cons (ds_for rfl PassesOwn.never (di_rng1 B.range (da_cons (d_max rfl B.max (da_cons (d_int) (da_cons (d_min rfl B.min (da_cons (d_int) (da_cons (d_len B.len (da_cons (dv 0 (pv 0)) (da_nil))) (da_nil)))) (da_nil)))) (da_nil))) (dg_name 1 (pg_name (i := 1) sc_law.nd rfl (Or.inl rfl)))
    (ds_cons (ds_set (ps_set (i := 2) sc_law.nd rfl (Or.inr rfl) (d_call' g__law_box (hr.mono (by omega)) (da_cons (dv 0 (pv 0)) (da_cons (dv 1 (pv 1)) (da_nil))) (fun _ _ _ _ _ _ us hl => match us, hl with | [_, _], _ => rfl))))
    (ds_one (ds_if (dt_not (dt_val (d_all rfl B.all (da_cons (d_lc false (own := [("_law_turn", 3)]) rfl sc_law.nd (di_rng1 B.range (da_cons (d_int) (da_nil))) (blkOk_by (N := N_law) (sc := defScope s_law) (by decide +kernel)) (fun _ _ _ _ _ => dg_name 3 (pg_name (i := 3) sc_law.nd rfl (Or.inl rfl))) (fun _ _ _ _ _ => dts_nil) (fun _ _ _ _ _ => d_call' g__law_right (hr.mono (by omega)) (da_cons (dv 2 (pv 2)) (da_nil)) (fun _ _ _ _ _ _ us hl => match us, hl with | [_], _ => rfl)) (by decide)) (da_nil))))) (ds_one (ds_ret (d_bl))) (ds_nil)))))
    (ds_one (ds_ret (d_bl)))
end
theorem all_mk {l : PySem.W.OpenLaw} {w : World} {K : PySem.W.Frag} {h : Heap} {mg : Str → Option Value} {fa f0 f1 f2 f3 f4 f5 f6 f7 f8 f9 f10 f11 f12 f13 f14 f15 f16 f17 f18 f19 f20 f21 f22 f23 : Addr} (X : K.In h) (G : h.Ns mainGlobals mg) (hfa : mg "law" = some (.ref fa))
    {od0 od1 od2 od3 od4 od5 od6 od7 od8 od9 od10 od11 od12 od13 od14 od15 od16 od17 od18 od19 od20 od21 od22 od23 an0 an1 an2 an3 an4 an5 an6 an7 an8 an9 an10 an11 an12 an13 an14 an15 an16 an17 an18 an19 an20 an21 an22 an23 : Option Addr} {sl0 sl1 sl2 sl3 sl4 sl5 sl6 sl7 sl8 sl9 sl10 sl11 sl12 sl13 sl14 sl15 sl16 sl17 sl18 sl19 sl20 sl21 sl22 sl23 : Array (Option Value)} {oc0 oc1 oc2 oc3 oc4 oc5 oc6 oc7 oc8 oc9 oc10 oc11 oc12 oc13 oc14 oc15 oc16 oc17 oc18 oc19 oc20 oc21 oc22 oc23 kV0 kV1 kV2 kV3 kV4 kV5 kV6 kV7 kV8 kV9 kV10 kV11 kV12 kV13 kV14 kV15 kV16 kV17 kV18 kV19 kV20 kV21 kV22 kV23 dc0 dc1 dc2 dc3 dc4 dc5 dc6 dc7 dc8 dc9 dc10 dc11 dc12 dc13 dc14 dc15 dc16 dc17 dc18 dc19 dc20 dc21 dc22 dc23 pm0 pm1 pm2 pm3 pm4 pm5 pm6 pm7 pm8 pm9 pm10 pm11 pm12 pm13 pm14 pm15 pm16 pm17 pm18 pm19 pm20 pm21 pm22 pm23 cd0 cd1 cd2 cd3 cd4 cd5 cd6 cd7 cd8 cd9 cd10 cd11 cd12 cd13 cd14 cd15 cd16 cd17 cd18 cd19 cd20 cd21 cd22 cd23 ct0 ct1 ct2 ct3 ct4 ct5 ct6 ct7 ct8 ct9 ct10 ct11 ct12 ct13 ct14 ct15 ct16 ct17 ct18 ct19 ct20 ct21 ct22 ct23 : Value}
    (a0 : PySem.W.nsIn K mainGlobals "is_name" = some (some (.ref f0))) (l0 : K.lookup f0 = some ⟨oc0, od0, .func (PySem.W.fnOf "is_name" "is_name" (defArgs s_is_name) (defBody s_is_name) (defScope s_is_name) .none kV0 dc0 pm0 an0 cd0 ct0), sl0⟩) (c0 : PySem.W.codeIn K cd0 "is_name" = true) (k0 : PySem.W.keepIn K (.ref f0) = true)
    (a1 : PySem.W.nsIn K mainGlobals "is_pair" = some (some (.ref f1))) (l1 : K.lookup f1 = some ⟨oc1, od1, .func (PySem.W.fnOf "is_pair" "is_pair" (defArgs s_is_pair) (defBody s_is_pair) (defScope s_is_pair) .none kV1 dc1 pm1 an1 cd1 ct1), sl1⟩) (c1 : PySem.W.codeIn K cd1 "is_pair" = true) (k1 : PySem.W.keepIn K (.ref f1) = true)
    (a2 : PySem.W.nsIn K mainGlobals "is_call" = some (some (.ref f2))) (l2 : K.lookup f2 = some ⟨oc2, od2, .func (PySem.W.fnOf "is_call" "is_call" (defArgs s_is_call) (defBody s_is_call) (defScope s_is_call) .none kV2 dc2 pm2 an2 cd2 ct2), sl2⟩) (c2 : PySem.W.codeIn K cd2 "is_call" = true) (k2 : PySem.W.keepIn K (.ref f2) = true)
    (a3 : PySem.W.nsIn K mainGlobals "by_names" = some (some (.ref f3))) (l3 : K.lookup f3 = some ⟨oc3, od3, .func (PySem.W.fnOf "by_names" "by_names" (defArgs s_by_names) (defBody s_by_names) (defScope s_by_names) .none kV3 dc3 pm3 an3 cd3 ct3), sl3⟩) (c3 : PySem.W.codeIn K cd3 "by_names" = true) (k3 : PySem.W.keepIn K (.ref f3) = true)
    (a4 : PySem.W.nsIn K mainGlobals "people" = some (some (.ref f4))) (l4 : K.lookup f4 = some ⟨oc4, od4, .func (PySem.W.fnOf "people" "people" (defArgs s_people) (defBody s_people) (defScope s_people) .none kV4 dc4 pm4 an4 cd4 ct4), sl4⟩) (c4 : PySem.W.codeIn K cd4 "people" = true) (k4 : PySem.W.keepIn K (.ref f4) = true)
    (a5 : PySem.W.nsIn K mainGlobals "look_name" = some (some (.ref f5))) (l5 : K.lookup f5 = some ⟨oc5, od5, .func (PySem.W.fnOf "look_name" "look_name" (defArgs s_look_name) (defBody s_look_name) (defScope s_look_name) .none kV5 dc5 pm5 an5 cd5 ct5), sl5⟩) (c5 : PySem.W.codeIn K cd5 "look_name" = true) (k5 : PySem.W.keepIn K (.ref f5) = true)
    (a6 : PySem.W.nsIn K mainGlobals "whom" = some (some (.ref f6))) (l6 : K.lookup f6 = some ⟨oc6, od6, .func (PySem.W.fnOf "whom" "whom" (defArgs s_whom) (defBody s_whom) (defScope s_whom) .none kV6 dc6 pm6 an6 cd6 ct6), sl6⟩) (c6 : PySem.W.codeIn K cd6 "whom" = true) (k6 : PySem.W.keepIn K (.ref f6) = true)
    (a7 : PySem.W.nsIn K mainGlobals "stay" = some (some (.ref f7))) (l7 : K.lookup f7 = some ⟨oc7, od7, .func (PySem.W.fnOf "stay" "stay" (defArgs s_stay) (defBody s_stay) (defScope s_stay) .none kV7 dc7 pm7 an7 cd7 ct7), sl7⟩) (c7 : PySem.W.codeIn K cd7 "stay" = true) (k7 : PySem.W.keepIn K (.ref f7) = true)
    (a8 : PySem.W.nsIn K mainGlobals "all_to" = some (some (.ref f8))) (l8 : K.lookup f8 = some ⟨oc8, od8, .func (PySem.W.fnOf "all_to" "all_to" (defArgs s_all_to) (defBody s_all_to) (defScope s_all_to) .none kV8 dc8 pm8 an8 cd8 ct8), sl8⟩) (c8 : PySem.W.codeIn K cd8 "all_to" = true) (k8 : PySem.W.keepIn K (.ref f8) = true)
    (a9 : PySem.W.nsIn K mainGlobals "call_of" = some (some (.ref f9))) (l9 : K.lookup f9 = some ⟨oc9, od9, .func (PySem.W.fnOf "call_of" "call_of" (defArgs s_call_of) (defBody s_call_of) (defScope s_call_of) .none kV9 dc9 pm9 an9 cd9 ct9), sl9⟩) (c9 : PySem.W.codeIn K cd9 "call_of" = true) (k9 : PySem.W.keepIn K (.ref f9) = true)
    (a10 : PySem.W.nsIn K mainGlobals "going" = some (some (.ref f10))) (l10 : K.lookup f10 = some ⟨oc10, od10, .func (PySem.W.fnOf "going" "going" (defArgs s_going) (defBody s_going) (defScope s_going) .none kV10 dc10 pm10 an10 cd10 ct10), sl10⟩) (c10 : PySem.W.codeIn K cd10 "going" = true) (k10 : PySem.W.keepIn K (.ref f10) = true)
    (a11 : PySem.W.nsIn K mainGlobals "groups" = some (some (.ref f11))) (l11 : K.lookup f11 = some ⟨oc11, od11, .func (PySem.W.fnOf "groups" "groups" (defArgs s_groups) (defBody s_groups) (defScope s_groups) .none kV11 dc11 pm11 an11 cd11 ct11), sl11⟩) (c11 : PySem.W.codeIn K cd11 "groups" = true) (k11 : PySem.W.keepIn K (.ref f11) = true)
    (a12 : PySem.W.nsIn K mainGlobals "goers" = some (some (.ref f12))) (l12 : K.lookup f12 = some ⟨oc12, od12, .func (PySem.W.fnOf "goers" "goers" (defArgs s_goers) (defBody s_goers) (defScope s_goers) .none kV12 dc12 pm12 an12 cd12 ct12), sl12⟩) (c12 : PySem.W.codeIn K cd12 "goers" = true) (k12 : PySem.W.keepIn K (.ref f12) = true)
    (a13 : PySem.W.nsIn K mainGlobals "_law_box" = some (some (.ref f13))) (l13 : K.lookup f13 = some ⟨oc13, od13, .func (PySem.W.fnOf "_law_box" "_law_box" (defArgs s__law_box) (defBody s__law_box) (defScope s__law_box) .none kV13 dc13 pm13 an13 cd13 ct13), sl13⟩) (c13 : PySem.W.codeIn K cd13 "_law_box" = true) (k13 : PySem.W.keepIn K (.ref f13) = true)
    (a14 : PySem.W.nsIn K mainGlobals "_law_take" = some (some (.ref f14))) (l14 : K.lookup f14 = some ⟨oc14, od14, .func (PySem.W.fnOf "_law_take" "_law_take" (defArgs s__law_take) (defBody s__law_take) (defScope s__law_take) .none kV14 dc14 pm14 an14 cd14 ct14), sl14⟩) (c14 : PySem.W.codeIn K cd14 "_law_take" = true) (k14 : PySem.W.keepIn K (.ref f14) = true)
    (a15 : PySem.W.nsIn K mainGlobals "_law_same" = some (some (.ref f15))) (l15 : K.lookup f15 = some ⟨oc15, od15, .func (PySem.W.fnOf "_law_same" "_law_same" (defArgs s__law_same) (defBody s__law_same) (defScope s__law_same) .none kV15 dc15 pm15 an15 cd15 ct15), sl15⟩) (c15 : PySem.W.codeIn K cd15 "_law_same" = true) (k15 : PySem.W.keepIn K (.ref f15) = true)
    (a16 : PySem.W.nsIn K mainGlobals "_law_lists" = some (some (.ref f16))) (l16 : K.lookup f16 = some ⟨oc16, od16, .func (PySem.W.fnOf "_law_lists" "_law_lists" (defArgs s__law_lists) (defBody s__law_lists) (defScope s__law_lists) .none kV16 dc16 pm16 an16 cd16 ct16), sl16⟩) (c16 : PySem.W.codeIn K cd16 "_law_lists" = true) (k16 : PySem.W.keepIn K (.ref f16) = true)
    (a17 : PySem.W.nsIn K mainGlobals "_law_of" = some (some (.ref f17))) (l17 : K.lookup f17 = some ⟨oc17, od17, .func (PySem.W.fnOf "_law_of" "_law_of" (defArgs s__law_of) (defBody s__law_of) (defScope s__law_of) .none kV17 dc17 pm17 an17 cd17 ct17), sl17⟩) (c17 : PySem.W.codeIn K cd17 "_law_of" = true) (k17 : PySem.W.keepIn K (.ref f17) = true)
    (a18 : PySem.W.nsIn K mainGlobals "_law_strewn" = some (some (.ref f18))) (l18 : K.lookup f18 = some ⟨oc18, od18, .func (PySem.W.fnOf "_law_strewn" "_law_strewn" (defArgs s__law_strewn) (defBody s__law_strewn) (defScope s__law_strewn) .none kV18 dc18 pm18 an18 cd18 ct18), sl18⟩) (c18 : PySem.W.codeIn K cd18 "_law_strewn" = true) (k18 : PySem.W.keepIn K (.ref f18) = true)
    (a19 : PySem.W.nsIn K mainGlobals "_law_crew" = some (some (.ref f19))) (l19 : K.lookup f19 = some ⟨oc19, od19, .func (PySem.W.fnOf "_law_crew" "_law_crew" (defArgs s__law_crew) (defBody s__law_crew) (defScope s__law_crew) .none kV19 dc19 pm19 an19 cd19 ct19), sl19⟩) (c19 : PySem.W.codeIn K cd19 "_law_crew" = true) (k19 : PySem.W.keepIn K (.ref f19) = true)
    (a20 : PySem.W.nsIn K mainGlobals "_law_ask" = some (some (.ref f20))) (l20 : K.lookup f20 = some ⟨oc20, od20, .func (PySem.W.fnOf "_law_ask" "_law_ask" (defArgs s__law_ask) (defBody s__law_ask) (defScope s__law_ask) .none kV20 dc20 pm20 an20 cd20 ct20), sl20⟩) (c20 : PySem.W.codeIn K cd20 "_law_ask" = true) (k20 : PySem.W.keepIn K (.ref f20) = true)
    (a21 : PySem.W.nsIn K mainGlobals "_law_people_right" = some (some (.ref f21))) (l21 : K.lookup f21 = some ⟨oc21, od21, .func (PySem.W.fnOf "_law_people_right" "_law_people_right" (defArgs s__law_people_right) (defBody s__law_people_right) (defScope s__law_people_right) .none kV21 dc21 pm21 an21 cd21 ct21), sl21⟩) (c21 : PySem.W.codeIn K cd21 "_law_people_right" = true) (k21 : PySem.W.keepIn K (.ref f21) = true)
    (a22 : PySem.W.nsIn K mainGlobals "_law_right" = some (some (.ref f22))) (l22 : K.lookup f22 = some ⟨oc22, od22, .func (PySem.W.fnOf "_law_right" "_law_right" (defArgs s__law_right) (defBody s__law_right) (defScope s__law_right) .none kV22 dc22 pm22 an22 cd22 ct22), sl22⟩) (c22 : PySem.W.codeIn K cd22 "_law_right" = true) (k22 : PySem.W.keepIn K (.ref f22) = true)
    (a23 : PySem.W.nsIn K mainGlobals "law" = some (some (.ref f23))) (l23 : K.lookup f23 = some ⟨oc23, od23, .func (PySem.W.fnOf "law" "law" (defArgs s_law) (defBody s_law) (defScope s_law) .none kV23 dc23 pm23 an23 cd23 ct23), sl23⟩) (c23 : PySem.W.codeIn K cd23 "law" = true) (k23 : PySem.W.keepIn K (.ref f23) = true)
    (z_len : PySem.W.nsIn K mainGlobals "len" = some none)
    (z_abs : PySem.W.nsIn K mainGlobals "abs" = some none)
    (z_int : PySem.W.nsIn K mainGlobals "int" = some none)
    (z_max : PySem.W.nsIn K mainGlobals "max" = some none)
    (z_min : PySem.W.nsIn K mainGlobals "min" = some none)
    (z_all : PySem.W.nsIn K mainGlobals "all" = some none)
    (z_any : PySem.W.nsIn K mainGlobals "any" = some none)
    (z_sum : PySem.W.nsIn K mainGlobals "sum" = some none)
    (z_tuple : PySem.W.nsIn K mainGlobals "tuple" = some none)
    (z_list : PySem.W.nsIn K mainGlobals "list" = some none)
    (z_dict : PySem.W.nsIn K mainGlobals "dict" = some none)
    (z_sorted : PySem.W.nsIn K mainGlobals "sorted" = some none)
    (z_isinstance : PySem.W.nsIn K mainGlobals "isinstance" = some none)
    (z_str : PySem.W.nsIn K mainGlobals "str" = some none)
    (z_bool : PySem.W.nsIn K mainGlobals "bool" = some none)
    (z_range : PySem.W.nsIn K mainGlobals "range" = some none)
    (z_enumerate : PySem.W.nsIn K mainGlobals "enumerate" = some none)
    (z_zip : PySem.W.nsIn K mainGlobals "zip" = some none)
    (z_reversed : PySem.W.nsIn K mainGlobals "reversed" = some none)
    (z_repr : PySem.W.nsIn K mainGlobals "repr" = some none)
    (z_set : PySem.W.nsIn K mainGlobals "set" = some none)
    {tk_LETTERS : Tok} (y_LETTERS : PySem.W.nsIn K mainGlobals "LETTERS" = some (some (.str "abcdefghijklmnopqrstuvwxyz" tk_LETTERS)))
    {tk_LONGEST_NAME : Tok} (y_LONGEST_NAME : PySem.W.nsIn K mainGlobals "LONGEST_NAME" = some (some (.int 6 tk_LONGEST_NAME)))
    : ∃ (fd : FuncData) (os : List (Option (Str × Addr × Addr))) (m : FM), (∀ (s : Shared) (v : Value), BindsTo s fd ⟨[v], []⟩ [("_law_script", v)]) ∧ (∀ t ∈ os.filterMap id, (∃ y ∈ ([] : List Str), PySem.W.tabIn K y = some (t.2.1, t.2.2)) ∧ K.lookup t.2.2 = none) ∧ ((os.filterMap id).map (·.2.2)).Nodup ∧ (∀ base : Heap, K.In base → base.Ns mainGlobals mg → (∀ t ∈ os.filterMap id, LamX.TabB base mg t.2.1 t.2.2) → FnG l.prog w K mg base CX0 15 fa fd ["_law_script"] (@spD (HW.mk l.prog w) m)) ∧ ∀ ns : List Int, ns.length ≤ 63 → ∃ h', m [.scr ns] (tabsO os) = some (.dat (.bool true), h') := by
  letI : HW := HW.mk l.prog w
  have e := hfa.symm.trans (PySem.W.mg_of X G a23)
  cases e
  have B : Bi mg := ⟨PySem.W.mg_none_of X G z_len, PySem.W.mg_none_of X G z_abs, PySem.W.mg_none_of X G z_int, PySem.W.mg_none_of X G z_max, PySem.W.mg_none_of X G z_min, PySem.W.mg_none_of X G z_all, PySem.W.mg_none_of X G z_any, PySem.W.mg_none_of X G z_sum, PySem.W.mg_none_of X G z_tuple, PySem.W.mg_none_of X G z_list, PySem.W.mg_none_of X G z_dict, PySem.W.mg_none_of X G z_sorted, PySem.W.mg_none_of X G z_isinstance, PySem.W.mg_none_of X G z_str, PySem.W.mg_none_of X G z_bool, PySem.W.mg_none_of X G z_range, PySem.W.mg_none_of X G z_enumerate, PySem.W.mg_none_of X G z_zip, PySem.W.mg_none_of X G z_reversed, PySem.W.mg_none_of X G z_repr, PySem.W.mg_none_of X G z_set⟩
  have F0 := fun_mk (st := s_is_name) l0 c0 k0
  have F1 := fun_mk (st := s_is_pair) l1 c1 k1
  have F2 := fun_mk (st := s_is_call) l2 c2 k2
  have F3 := fun_mk (st := s_by_names) l3 c3 k3
  have F4 := fun_mk (st := s_people) l4 c4 k4
  have F5 := fun_mk (st := s_look_name) l5 c5 k5
  have F6 := fun_mk (st := s_whom) l6 c6 k6
  have F7 := fun_mk (st := s_stay) l7 c7 k7
  have F8 := fun_mk (st := s_all_to) l8 c8 k8
  have F9 := fun_mk (st := s_call_of) l9 c9 k9
  have F10 := fun_mk (st := s_going) l10 c10 k10
  have F11 := fun_mk (st := s_groups) l11 c11 k11
  have F12 := fun_mk (st := s_goers) l12 c12 k12
  have F13 := fun_mk (st := s__law_box) l13 c13 k13
  have F14 := fun_mk (st := s__law_take) l14 c14 k14
  have F15 := fun_mk (st := s__law_same) l15 c15 k15
  have F16 := fun_mk (st := s__law_lists) l16 c16 k16
  have F17 := fun_mk (st := s__law_of) l17 c17 k17
  have F18 := fun_mk (st := s__law_strewn) l18 c18 k18
  have F19 := fun_mk (st := s__law_crew) l19 c19 k19
  have F20 := fun_mk (st := s__law_ask) l20 c20 k20
  have F21 := fun_mk (st := s__law_people_right) l21 c21 k21
  have F22 := fun_mk (st := s__law_right) l22 c22 k22
  have F23 := fun_mk (st := s_law) l23 c23 k23
  refine ⟨PySem.W.fnOf "law" "law" (defArgs s_law) (defBody s_law) (defScope s_law) .none kV23 dc23 pm23 an23 cd23 ct23, [], m_law, fun s v => .of_eq rfl, (fun t ht => by cases ht), List.nodup_nil, fun base _ _ _ => ?_, law_true⟩
  have g__law_box := ok__law_box (base := base) _ _ F13 (PySem.W.mg_of X G a13) B 
  have g__law_take := ok__law_take (base := base) _ _ F14 (PySem.W.mg_of X G a14) B 
  have g__law_strewn := ok__law_strewn (base := base) _ _ F18 (PySem.W.mg_of X G a18) B g__law_take
  have g__law_crew := ok__law_crew (base := base) _ _ F19 (PySem.W.mg_of X G a19) B g__law_strewn g__law_take
  have g__law_of := ok__law_of (base := base) _ _ F17 (PySem.W.mg_of X G a17) B g__law_take
  have g__law_ask := ok__law_ask (base := base) _ _ F20 (PySem.W.mg_of X G a20) B g__law_take g__law_strewn g__law_of
  have g_stay := ok_stay (base := base) _ _ F7 (PySem.W.mg_of X G a7) B 
  have g_look_name := ok_look_name (base := base) _ _ F5 (PySem.W.mg_of X G a5) B 
  have g_all_to := ok_all_to (base := base) _ _ F8 (PySem.W.mg_of X G a8) B g_look_name
  have g_call_of := ok_call_of (base := base) _ _ F9 (PySem.W.mg_of X G a9) B g_look_name
  have g_going := ok_going (base := base) _ _ F10 (PySem.W.mg_of X G a10) B g_look_name g_call_of
  have g__law_same := ok__law_same (base := base) _ _ F15 (PySem.W.mg_of X G a15) B  12
  have g_is_name := ok_is_name (base := base) _ _ F0 (PySem.W.mg_of X G a0) B ⟨_, PySem.W.mg_of X G y_LONGEST_NAME⟩ ⟨_, PySem.W.mg_of X G y_LETTERS⟩
  have g_is_pair := ok_is_pair (base := base) _ _ F1 (PySem.W.mg_of X G a1) B g_is_name
  have g_is_call := ok_is_call (base := base) _ _ F2 (PySem.W.mg_of X G a2) B g_is_pair
  have g_groups__M := ok_groups__M (base := base) _ _ F11 (PySem.W.mg_of X G a11) B 
  have g__law_lists := ok__law_lists (base := base) _ _ F16 (PySem.W.mg_of X G a16) B  12
  have g_goers__M := ok_goers__M (base := base) _ _ F12 (PySem.W.mg_of X G a12) B 
  have g_people := ok_people (base := base) _ _ F4 (PySem.W.mg_of X G a4) B 
  have g_by_names := ok_by_names (base := base) _ _ F3 (PySem.W.mg_of X G a3) B 
  have g_whom := ok_whom (base := base) _ _ F6 (PySem.W.mg_of X G a6) B g_by_names g_look_name
  have g__law_people_right := ok__law_people_right (base := base) _ _ F21 (PySem.W.mg_of X G a21) B g__law_same g_whom g_people g__law_lists
  have g__law_right := ok__law_right (base := base) _ _ F22 (PySem.W.mg_of X G a22) B g__law_crew g__law_ask g__law_of g_stay g_all_to g__law_same g__law_people_right g_going g_groups__M g_goers__M g_call_of g_is_call g__law_lists g__law_take
  exact ok_law (base := base) _ _ F23 (PySem.W.mg_of X G a23) B g__law_box g__law_right
end LW
open PySem PySem.W PyProof.Rows
set_option maxRecDepth 100000 in
set_option maxHeartbeats 0 in
theorem PySem.Challenge.cw_standby_k03_calls_as_they_are_made_holds : PySem.Challenge.rw_standby_k03_calls_as_they_are_made.Holds := by
  w_on; o_law; k_head; (case hw => w_witness2)
  k_fill
  refine DL.walk_gO (l := PySem.Challenge.rw_standby_k03_calls_as_they_are_made) (k := 15) (x := "_law_script") (xs := []) rfl rfl ⟨rfl, by decide, by decide⟩ (fun w h Y => by first | exact PySem.W.kIn_of Y | exact PySem.W.km_in_of Y) ?nl (fun x hx => by cases hx) ?F
  case nl => intro w; first | rfl | kernel_rfl | decide +kernel
  case F =>
    intro w mg fa h KX G hmg
    refine' LW.all_mk KX G hmg ?a0 ?l0 ?c0 ?k0 ?a1 ?l1 ?c1 ?k1 ?a2 ?l2 ?c2 ?k2 ?a3 ?l3 ?c3 ?k3 ?a4 ?l4 ?c4 ?k4 ?a5 ?l5 ?c5 ?k5 ?a6 ?l6 ?c6 ?k6 ?a7 ?l7 ?c7 ?k7 ?a8 ?l8 ?c8 ?k8 ?a9 ?l9 ?c9 ?k9 ?a10 ?l10 ?c10 ?k10 ?a11 ?l11 ?c11 ?k11 ?a12 ?l12 ?c12 ?k12 ?a13 ?l13 ?c13 ?k13 ?a14 ?l14 ?c14 ?k14 ?a15 ?l15 ?c15 ?k15 ?a16 ?l16 ?c16 ?k16 ?a17 ?l17 ?c17 ?k17 ?a18 ?l18 ?c18 ?k18 ?a19 ?l19 ?c19 ?k19 ?a20 ?l20 ?c20 ?k20 ?a21 ?l21 ?c21 ?k21 ?a22 ?l22 ?c22 ?k22 ?a23 ?l23 ?c23 ?k23 ?z_len ?z_abs ?z_int ?z_max ?z_min ?z_all ?z_any ?z_sum ?z_tuple ?z_list ?z_dict ?z_sorted ?z_isinstance ?z_str ?z_bool ?z_range ?z_enumerate ?z_zip ?z_reversed ?z_repr ?z_set ?y_LETTERS ?y_LONGEST_NAME
    (case a0 => k_is); (case l0 => k_is); (case c0 => k_is); (case k0 => k_is)
    (case a1 => k_is); (case l1 => k_is); (case c1 => k_is); (case k1 => k_is)
    (case a2 => k_is); (case l2 => k_is); (case c2 => k_is); (case k2 => k_is)
    (case a3 => k_is); (case l3 => k_is); (case c3 => k_is); (case k3 => k_is)
    (case a4 => k_is); (case l4 => k_is); (case c4 => k_is); (case k4 => k_is)
    (case a5 => k_is); (case l5 => k_is); (case c5 => k_is); (case k5 => k_is)
    (case a6 => k_is); (case l6 => k_is); (case c6 => k_is); (case k6 => k_is)
    (case a7 => k_is); (case l7 => k_is); (case c7 => k_is); (case k7 => k_is)
    (case a8 => k_is); (case l8 => k_is); (case c8 => k_is); (case k8 => k_is)
    (case a9 => k_is); (case l9 => k_is); (case c9 => k_is); (case k9 => k_is)
    (case a10 => k_is); (case l10 => k_is); (case c10 => k_is); (case k10 => k_is)
    (case a11 => k_is); (case l11 => k_is); (case c11 => k_is); (case k11 => k_is)
    (case a12 => k_is); (case l12 => k_is); (case c12 => k_is); (case k12 => k_is)
    (case a13 => k_is); (case l13 => k_is); (case c13 => k_is); (case k13 => k_is)
    (case a14 => k_is); (case l14 => k_is); (case c14 => k_is); (case k14 => k_is)
    (case a15 => k_is); (case l15 => k_is); (case c15 => k_is); (case k15 => k_is)
    (case a16 => k_is); (case l16 => k_is); (case c16 => k_is); (case k16 => k_is)
    (case a17 => k_is); (case l17 => k_is); (case c17 => k_is); (case k17 => k_is)
    (case a18 => k_is); (case l18 => k_is); (case c18 => k_is); (case k18 => k_is)
    (case a19 => k_is); (case l19 => k_is); (case c19 => k_is); (case k19 => k_is)
    (case a20 => k_is); (case l20 => k_is); (case c20 => k_is); (case k20 => k_is)
    (case a21 => k_is); (case l21 => k_is); (case c21 => k_is); (case k21 => k_is)
    (case a22 => k_is); (case l22 => k_is); (case c22 => k_is); (case k22 => k_is)
    (case a23 => k_is); (case l23 => k_is); (case c23 => k_is); (case k23 => k_is)
    (case z_len => k_is); (case z_abs => k_is); (case z_int => k_is); (case z_max => k_is); (case z_min => k_is); (case z_all => k_is); (case z_any => k_is); (case z_sum => k_is); (case z_tuple => k_is); (case z_list => k_is); (case z_dict => k_is); (case z_sorted => k_is); (case z_isinstance => k_is); (case z_str => k_is); (case z_bool => k_is); (case z_range => k_is); (case z_enumerate => k_is); (case z_zip => k_is); (case z_reversed => k_is); (case z_repr => k_is); (case z_set => k_is)
    (case y_LETTERS => k_is)
    (case y_LONGEST_NAME => k_is)
