import PyProof.Rows.All
import Wide.All
import OpenK.AllK
import Wide.FinOn
import HandS.Lambda
import HandS.ForMost
import HandS.Small
import HandS.Iter
import HandS.TupAny
import HandS.TupLe
import HandS.More
import HandS.IsInst
import HandS.Strs
import KE.SortData
import HandS.Style
import HandS.Deep
import HandS.Zip
import HandS.Rev
import HandS.NoneIn
import HandS.DictComp
import HandS.Defaults
import PyProof.ReprRoads
import KE.KRevSl
import HandS.Text
import HandS.Ends
import KE.GoesEnum
import KE.KDictZip
import KE.SortKeyHeap
import KE.KSortKey
import HandS.EndTab
import HandS.SetTxt0
import HandS.Set
import HandS.TupSets
import KE.KDictSum
import PyProof.AutoIntOps
import HandS.List
import KE.KDictList
import KE.DataMinMax
import PyProof.Rows.CountFlat
import HandS.RaiseMore
import HandS.Call
import KE.KEqNest
import HandS.DictEq
import HandS.OwnEq
import KE.KDictPairs
import KE.KDictWalk
import HandS.Exc
import HandS.ExcOwn
import HandS.ExcIs
import KE.KExcIs
import HandS.Finally
import KE.KUnpackStar
import HandS.ExcInit
import KE.KExcLine
import HandS.Zip0
import OpenK.KOps
import HandS.SetFor
import KE.KDictCopyH
import PyProof.SeqRoads2
import HandS.DictTup
import PyProof.InstNe
import KE.KCallOwn
import HandS.ExcValue
import KE.DatumOrd
import PySem.Challenge.RW_standby_k56_words_from_row_to_row
set_option Elab.async false
set_option linter.all false
set_option maxRecDepth 100000
set_option maxRecDepth 100000
set_option maxHeartbeats 4000000
namespace DL
open PySem PySem.Spec PyProof.Rows L2
class HW where
  P : Program
  w : World
def HWX [HW] (X : Cx) : Prop := HW.P = X.prog ∧ HW.w = X.w
abbrev KA := List Key × Addr × V
def KR : List KA → List (List Key × Addr × Value) → Prop := Paired fun p q => p.1 = q.1 ∧ p.2.1 = q.2.1 ∧ RelV p.2.2 q.2.2
def dtP (P : Program) (w : World) (a : Addr) (ks : List KA) (h : Heap) : Prop := ks.length ≤ sizeLine ∧ (a == sysModules) = false ∧ ∃ xs : List (List Key × Addr × Value), KR ks xs ∧
  ∃ o es ep, h.get? a = some o ∧ o.ExactDict ∧ o.data = .dict es ep ∧ es.toList = xs.map (entryOfKey (tupleKind (mixKind P w))) ∧ (xs.map (·.1)).Nodup
abbrev dtO [HW] (a : Addr) (ks : List KA) : HO := .ext (dtP HW.P HW.w a ks)
def KX (H : Hp) (ks : List KA) : Prop := ∀ p ∈ ks, Rd H p.2.1 (.tup (p.1.map kV))
def atA (ks : List KA) (k : List Key) : Option (Addr × V) := (ks.find? fun x => decide (x.1 = k)).map (·.2)
def valA (ks : List KA) (k : List Key) : Option V := (atA ks k).map (·.2)
def replA (k : List Key) (v : V) (p : KA) : KA := if p.1 = k then (p.1, p.2.1, v) else p
def putA (ks : List KA) (k : List Key) (b : Addr) (v : V) : List KA := if (atA ks k).isSome = true then ks.map (replA k v) else ks ++ [(k, b, v)]
section
variable {P : Program} {w : World} {H : Hp} {h : Heap} {a : Addr}
theorem KR.len {ks : List KA} {xs : List (List Key × Addr × Value)} (r : KR ks xs) : ks.length = xs.length := Paired.length r
theorem KR.at_ {k : List Key} : ∀ {ks : List KA} {xs : List (List Key × Addr × Value)}, KR ks xs → RelO (valA ks k) ((atKey xs k).map (·.2)) ∧ (atA ks k).isSome = (atKey xs k).isSome
  | _, _, .nil => ⟨trivial, rfl⟩
  | (k1, q1, v1) :: ks, (k2, q2, u2) :: xs, .cons ⟨e1, e2, r⟩ t => by
    have e1 : k1 = k2 := e1
    subst e1
    have ih := KR.at_ (k := k) t
    unfold valA atA atKey at ih ⊢
    simp only [List.find?_cons]
    by_cases e : k1 = k
    · simp only [e, decide_true, Option.map_some]
      exact ⟨r, rfl⟩
    · simp only [e, decide_false]
      exact ih
theorem key_ofR {ks : List Key} (ok : HOk P w H h) (e : Rd H a (.tup (ks.map kV))) : (tupleKind (mixKind P w)).is h ks a := by
  obtain ⟨_, its, r, o, h1, h2, n, h3⟩ := (show ObjOk P w H h a (.tup (ks.map kV)) from rd_of ok e)
  exact ⟨o, its.toArray, n, h1, h2, h3, by simpa using items_are r⟩
theorem dtx_of {ks : List KA} (ok : HOk P w H h) (e : dtP P w a ks h) (hk : KX H ks) : ks.length ≤ sizeLine ∧ (a == sysModules) = false ∧ ∃ xs, KR ks xs ∧ h.DictOfH (tupleKind (mixKind P w)) a xs := by
  obtain ⟨z, y, xs, r, o, es, ep, h1, h2, h3, h4, h5⟩ := e
  refine ⟨z, y, xs, r, o, es, ep, h1, h2, h3, h4, fun x hx => ?_, h5⟩
  have all : ∀ {l : List KA} {m : List (List Key × Addr × Value)}, KR l m → KX H l → ∀ x ∈ m, (tupleKind (mixKind P w)).is h x.1 x.2.1 := by
    intro l m q
    induction q with
    | nil => intro _ x hx; exact nomatch hx
    | @cons p q ps qs hq t ih =>
      intro hk x hx
      rcases List.mem_cons.mp hx with e | hx
      · subst e
        have := hk p List.mem_cons_self
        rw [hq.1, hq.2.1] at this
        exact key_ofR ok this
      · exact ih (fun p hp => hk p (List.mem_cons_of_mem _ hp)) x hx
  exact all r hk x hx
theorem KR.repl (k : List Key) {v : V} {u : Value} (rv : RelV v u) : ∀ {ks : List KA} {xs : List (List Key × Addr × Value)}, KR ks xs → KR (ks.map (replA k v)) (xs.map (putAt k u))
  | _, _, .nil => .nil
  | p :: ks, q :: xs, .cons ⟨e1, e2, r⟩ t => by
    rw [List.map_cons, List.map_cons]
    refine .cons ?_ (KR.repl k rv t)
    unfold replA putAt
    by_cases e : p.1 = k
    · rw [if_pos e, if_pos (e1.symm.trans e)]; exact ⟨e1, e2, rv⟩
    · rw [if_neg e, if_neg fun z => e (e1.trans z)]; exact ⟨e1, e2, r⟩
theorem KR.put {ks : List KA} {xs : List (List Key × Addr × Value)} (r : KR ks xs) (k : List Key) (b : Addr) {v : V} {u : Value} (rv : RelV v u) : KR (putA ks k b v) (storedH xs k b u) := by
  unfold putA storedH
  rw [(r.at_ (k := k)).2]
  by_cases q : (atKey xs k).isSome = true
  · rw [if_pos q, if_pos q]; exact r.repl k rv
  · rw [if_neg q, if_neg q]; exact Paired.snoc r ⟨rfl, rfl, rv⟩
theorem length_putA (ks : List KA) (k : List Key) (b : Addr) (v : V) : (putA ks k b v).length ≤ ks.length + 1 := by
  unfold putA
  split <;> simp
theorem KX.put {ks : List KA} (hk : KX H ks) {k : List Key} {b : Addr} (v : V) (eb : Rd H b (.tup (k.map kV))) : KX H (putA ks k b v) := by
  intro p hp
  unfold putA at hp
  split at hp
  · obtain ⟨q, hq, rfl⟩ := List.mem_map.mp hp
    have := hk q hq
    unfold replA
    split
    · exact this
    · exact this
  · rcases List.mem_append.mp hp with z | z
    · exact hk p z
    · rcases List.mem_singleton.mp z with rfl
      exact eb
theorem KX.nil : KX H [] := fun p hp => nomatch hp
theorem dtx_empty (h : Heap) (hb : sysModules < h.objs.size) : dtP P w h.objs.size [] (h.push { cls := .type "dict", data := .dict #[] }) :=
  ⟨Nat.zero_le _, beq_eq_false_iff_ne.mpr (Ne.symm (Nat.ne_of_lt hb)), [], .nil, _, #[], 0, Heap.get?_push_size _ rfl, ⟨rfl, rfl, rfl⟩, rfl, rfl, List.nodup_nil⟩
theorem dtx_ok0 {P' : Program} {w' : World} {H' : Hp} {ks : List KA} (e : dtP P w a ks h) : ObjOk P' w' H' h a (.ext (dtP P w a ks)) := by
  refine ⟨e, ?_, fun h1 h2 p k => ?_⟩
  · obtain ⟨_, _, _, _, o, _, _, h1, _⟩ := e
    exact ⟨o, h1⟩
  · obtain ⟨z, y, xs, r, o, es, ep, g1, g2⟩ := p
    exact ⟨z, y, xs, r, o, es, ep, k _ g1, g2⟩
theorem dtx_ok {H' : Hp} {ks : List KA} (e : dtP P w a ks h) : ObjOk P w H' h a (.ext (dtP P w a ks)) := dtx_ok0 e
theorem dtx_rd {φ : Heap → Prop} (ok : HOk P w H h) (e : Rd H a (.ext φ)) : φ h := (show ObjOk P w H h a (.ext φ) from rd_of ok e).1
end
section
variable [HW] {X : Cx} {pins : List (Addr × Obj)} {σ : L2.St} {H : Hp} {s : Shared} {a b : Addr} {ks : List KA} {k : List Key} {v : V} {r : Value} {A : Around} {E : Value → Shared → Prop}
theorem dtxI (W : HWX X) (I : Inv X pins σ H s) (e : Rd H a (dtO a ks)) (hk : KX H ks) : ks.length ≤ sizeLine ∧ (a == sysModules) = false ∧ ∃ xs, KR ks xs ∧ s.heap.DictOfH (tupleKind (mixKind X.prog X.w)) a xs := by
  unfold dtO at e
  rw [W.1, W.2] at e
  exact dtx_of I.hok (dtx_rd I.hok e) hk
theorem dtx_getItem {Q : Value → Shared → Prop} (hu : A.units + 1 < cLine) (W : HWX X) (I : Inv X pins σ H s) (e : Rd H a (dtO a ks)) (hk : KX H ks) (eb : Rd H b (.tup (k.map kV))) (l : valA ks k = some v) (h : ∀ w' s', Inv X pins σ H s' → RelV v w' → Q w' s') :
    wpAny (model X.prog X.w) A (getItem (.ref a) (.ref b)) Q E s := by
  obtain ⟨z, hd, xs, rel, dd⟩ := dtxI W I e hk
  obtain ⟨w', hw, rw'⟩ := RelO.some_of (v := v) (o := (atKey xs k).map (·.2)) (by have := (rel.at_ (k := k)).1; rw [l] at this; exact this)
  obtain ⟨p, hp, hp2⟩ := Option.map_eq_some_iff.mp hw
  refine wpAny_getItem_heap (tupleKind_room_in1 hu) (key_ofR I.hok eb) dd hp ?_
  rw [hp2]
  exact h w' _ (I.tok _) rw'
theorem valA_some {ks : List KA} {k : List Key} : (valA ks k).isSome = (atA ks k).isSome := by unfold valA; rw [Option.isSome_map]
theorem dtx_notIn {Q : Value → Shared → Prop} (hu : A.units + 1 < cLine) (W : HWX X) (I : Inv X pins σ H s) (e : Rd H a (dtO a ks)) (hk : KX H ks) (eb : Rd H b (.tup (k.map kV))) (h : ∀ s', Inv X pins σ H s' → Q (.bool (!(valA ks k).isSome)) s') :
    wpAny (model X.prog X.w) A (compareOp .NotIn (.ref b) (.ref a)) Q E s := by
  obtain ⟨z, hd, xs, rel, dd⟩ := dtxI W I e hk
  refine wpAny_notIn_heap (tupleKind_room_in1 hu) (key_ofR I.hok eb) hd dd ?_
  rw [← (rel.at_ (k := k)).2, ← valA_some]
  exact h _ (I.tok _)
theorem dtx_write {h' : Heap} {t' : Nat} {xs : List (List Key × Addr × Value)} (W : HWX X) (I : Inv X pins σ H s) (e : H a = some (dtO a ks)) (rv : RelV v r) (hz : ks.length < sizeLine) (hd : (a == sysModules) = false) (rel : KR ks xs)
    (dd' : h'.DictOfH (tupleKind (mixKind X.prog X.w)) a (storedH xs k b r)) (hs : Heap.SameBut a s.heap h') : Inv X pins σ (upd H a (dtO a (putA ks k b v))) { s with heap := h', toks := t' } := by
  obtain ⟨q, es, ep, hq, h2, h3, h4, _, h5⟩ := dd'
  have hl : (putA ks k b v).length ≤ sizeLine := by have := length_putA ks k b v; omega
  refine d_write I (by rw [e]; exact True.intro) hs ⟨q, hq⟩ ?_
  have : dtP X.prog X.w a (putA ks k b v) h' := ⟨hl, hd, _, rel.put k b rv, q, es, ep, hq, h2, h3, h4, h5⟩
  rw [← W.1, ← W.2] at this ⊢
  exact dtx_ok this
theorem dtx_setItem {Q : Unit → Shared → Prop} (hu : A.units + 1 < cLine) (W : HWX X) (I : Inv X pins σ H s) (e : H a = some (dtO a ks)) (hk : KX H ks) (eb : Rd H b (.tup (k.map kV))) (hz : ks.length < sizeLine) (rv : RelV v r)
    (h : ∀ s', Inv X pins σ (upd H a (dtO a (putA ks k b v))) s' → Q () s') : wpAny (model X.prog X.w) A (setItem (.ref a) (.ref b) r) Q E s := by
  obtain ⟨z, hd, xs, rel, dd⟩ := dtxI W I (.inl e) hk
  have hzx : xs.length ≤ sizeLine := by rw [← rel.len]; exact z
  exact wpAny_setItem_heap (hsz := hzx) (tupleKind_room_in1 hu) (key_ofR I.hok eb) dd fun h' dd' hs => h _ (dtx_write W I e rv hz hd rel dd' hs)
theorem KX.to {H' : Hp} (hk : KX H ks) (f : ∀ q o, (∃ p ∈ ks, p.2.1 = q) → H q = some o → H' q = some o) : KX H' ks := fun p hp => by
  rcases hk p hp with e | ⟨o, e⟩
  · exact .inl (f _ _ ⟨p, hp, rfl⟩ e)
  · exact .inr ⟨o, f _ _ ⟨p, hp, rfl⟩ e⟩
def DGetX (H : Hp) (a : Addr) (y : V) (r : Option V) : Prop := DGet H a y r ∨ ∃ ks k b, Rd H a (dtO a ks) ∧ KX H ks ∧ y = .ref b ∧ Rd H b (.tup (k.map kV)) ∧ r = valA ks k
theorem dx_getItem {y : V} {u : Value} {Q : Value → Shared → Prop} (hu : A.units + 1 < cLine) (W : HWX X) (I : Inv X pins σ H s) (g : DGetX H a y (some v)) (ry : RelV y u) (h : ∀ w' s', Inv X pins σ H s' → RelV v w' → Q w' s') :
    wpAny (model X.prog X.w) A (getItem (.ref a) u) Q E s := by
  rcases g with g | ⟨ks, k, b, e, hk, ey, eb, l⟩
  · exact d_getItem hu I g ry h
  · subst ey
    cases (show u = Value.ref b from ry)
    exact dtx_getItem hu W I e hk eb l.symm h
theorem dx_notIn {y : V} {u : Value} {o : Option V} {Q : Value → Shared → Prop} (hu : A.units + 1 < cLine) (W : HWX X) (I : Inv X pins σ H s) (g : DGetX H a y o) (ry : RelV y u) (h : ∀ s', Inv X pins σ H s' → Q (.bool (!o.isSome)) s') :
    wpAny (model X.prog X.w) A (compareOp .NotIn u (.ref a)) Q E s := by
  rcases g with g | ⟨ks, k, b, e, hk, ey, eb, l⟩
  · exact d_notIn hu I g ry h
  · subst ey l
    cases (show u = Value.ref b from ry)
    exact dtx_notIn hu W I e hk eb h
theorem dx_typeIs {y : V} {o : Option V} (W : HWX X) (I : Inv X pins σ H s) (g : DGetX H a y o) : s.TypeIs (.ref a) "dict" := by
  rcases g with g | ⟨ks, k, b, e, hk, _, _, _⟩
  · exact dict_typeIs I g
  · obtain ⟨_, _, xs, _, dd⟩ := dtxI W I e hk
    exact dd.typeIs
end
section
variable [HW] {X : Cx}
def rPutX : TSet := fun o i v H Q => ∃ a ks k b, o = .ref a ∧ i = .ref b ∧ H a = some (dtO a ks) ∧ KX H ks ∧ Rd H b (.tup (k.map kV)) ∧ ks.length < sizeLine ∧ Q (upd H a (dtO a (putA ks k b v)))
theorem set_dictX (hu : X.A.units + 1 < cLine) (W : HWX X) : PSet X rPutX := by
  intro pins s σ H o i v ov iv u Q I ro ri rv h
  obtain ⟨a, ks, k, b, rfl, rfl, e, hk, eb, hz, q⟩ := h
  cases (show ov = Value.ref a from ro)
  cases (show iv = Value.ref b from ri)
  exact dtx_setItem hu W I e hk eb hz rv fun s' I' => ⟨_, I', q⟩
def tDNewX : TE := fun _ H Q => ∀ p, H p = none → Q (.ref p) (upd H p (dtO p []))
theorem pe_dnewX (W : HWX X) {pos : Pos} : PE X (.Dict [] [] pos) tDNewX := ⟨fun pins s σ H Q I h => by
  refine wpAny_Dict_empty ⟨.ref s.heap.objs.size, _, I.laid (a := s.heap.objs.size) (o := dtO s.heap.objs.size []) (t' := s.toks) (fun _ _ q => Heap.get?_push_of_some _ q) (Nat.le_refl _) ?_, rfl, h _ (I.hok.fresh (Nat.le_refl _))⟩
  have := dtx_empty (P := X.prog) (w := X.w) s.heap I.big
  rw [← W.1, ← W.2] at this ⊢
  exact dtx_ok this⟩
def IsDX (H : Hp) (a : Addr) : Prop := IsD H a ∨ ∃ ks, Rd H a (dtO a ks)
theorem isDX_at {pins : List (Addr × Obj)} {σ : L2.St} {H : Hp} {s : Shared} {a : Addr} (I : Inv X pins σ H s) (d : IsDX H a) :
    s.TypeIs (.ref a) "dict" ∧ (∀ b, Value.ref a = .ref b → ∃ ob, s.heap.get? b = some ob ∧ ob.dict = none) ∧ (a == sysModules) = false := by
  rcases d with d | ⟨ks, e⟩
  · exact isD_at I d
  · unfold dtO at e
    obtain ⟨_, hd, xs, _, ob, es, ep, h1, h2, _⟩ := dtx_rd I.hok e
    refine ⟨⟨ob, h1, h2.1⟩, fun b q => ?_, hd⟩
    cases q
    exact ⟨ob, h1, h2.2.1⟩
theorem dx_get {pins : List (Addr × Obj)} {σ : L2.St} {H : Hp} {s : Shared} {a : Addr} {y d : V} {u r : Value} {o : Option V} {A : Around} {E : Value → Shared → Prop} {Q : Value → Shared → Prop} (hu : A.units + 1 < cLine) (W : HWX X) (I : Inv X pins σ H s) (g : DGetX H a y o) (ry : RelV y u) :
    (∀ (rd : RelV d r), (∀ w' s', Inv X pins σ H s' → RelV (o.getD d) w' → Q w' s') → wpAny (model X.prog X.w) A (call (.builtin "dict.get") [.ref a, u, r]) Q E s) ∧
    ((∀ w' s', Inv X pins σ H s' → RelV (o.getD .non) w' → Q w' s') → wpAny (model X.prog X.w) A (call (.builtin "dict.get") [.ref a, u]) Q E s) := by
  rcases g with g | ⟨ks, k, b, e, hk, ey, eb, l⟩
  · exact ⟨fun rd h => d_get2 hu I g ry rd h, fun h => d_get1 hu I g ry h⟩
  · subst ey
    cases (show u = Value.ref b from ry)
    obtain ⟨z, hd, xs, rel, dd⟩ := dtxI W I e hk
    have q := (rel.at_ (k := k)).1
    rw [← l] at q
    refine ⟨fun rd h => call_meetsIn PySem.F.slot_dict_get dd.typeIs PySem.F.entry_dict_get (PySem.F.args_dict_get_3 _ _ _) (meetsH_dict_get_default (tupleKind (mixKind X.prog X.w)) a b hd r) ⟨tupleKind_room_in1 hu, k, xs, key_ofR I.hok eb, dd, h _ _ (I.tok _) (q.getD rd)⟩,
      fun h => call_meetsIn PySem.F.slot_dict_get dd.typeIs PySem.F.entry_dict_get (PySem.F.args_dict_get_2 _ _) (meetsH_dict_get (tupleKind (mixKind X.prog X.w)) a b hd) ⟨tupleKind_room_in1 hu, k, xs, key_ofR I.hok eb, dd, h _ _ (I.tok _) (q.getD rfl)⟩⟩
variable {o e f : Expr} {apos cpos : Pos} {td ty tx : TE}
def tDGetX2 (td ty tx : TE) : TE := fun σ H Q => td σ H fun x H1 => ∃ a, x = .ref a ∧ IsDX H1 a ∧ ty σ H1 fun y H2 => tx σ H2 fun z H3 => ∃ ov, DGetX H3 a y ov ∧ Q (ov.getD z) H3
theorem pe_dgetX2 (hu : X.A.units + 1 < cLine) (W : HWX X) (ho : PE X o td) (he : PE X e ty) (hf : PE X f tx) (m : M2 X o "get" apos e f cpos) : PE X (.Call (.Attribute o "get" apos) [e, f] [] cpos) (tDGetX2 td ty tx) := by
  refine ⟨fun pins s σ H Q I h => ?_⟩
  refine wpAny_Call_method m.base m.few m.line PySem.F.plainAttrs_dict PySem.F.slot_dict_get PySem.F.type_dict_get (thn (ho.run pins s σ H _ I h) fun u s1 ⟨x, H1, I1, rx, a, ex, d, q1⟩ => ?_)
  subst ex
  obtain rfl : u = Value.ref a := rx
  obtain ⟨t1, t2, _⟩ := isDX_at I1 d
  refine ⟨t1, t2, ?_⟩
  rw [m.trees]
  refine Calls.callWith_builtin rfl (Calls.evalArgs_plain (Calls.spliced_cons (thn (he.run pins s1 σ H1 _ I1 q1) fun iv s2 ⟨y, H2, I2, ry, q2⟩ =>
    Calls.spliced_cons (thn (hf.run pins s2 σ H2 _ I2 q2) fun fv s3 ⟨z, H3, I3, rz, ov, g, q3⟩ => Calls.spliced_nil ?_))))
  exact (dx_get hu W I3 g ry).1 rz fun w' s4 I4 rw' => ⟨_, H3, I4, rw', q3⟩
end
section
variable [HW] {X : Cx} {pins : List (Addr × Obj)} {σ : L2.St} {H : Hp} {s : Shared} {d : Addr} {o : Obj} {ks : List KA}
theorem KR.get : ∀ {ks : List KA} {xs : List (List Key × Addr × Value)} {i : Nat} {k : List Key} {q : Addr} {v : V}, KR ks xs → ks[i]? = some (k, q, v) → ∃ u, xs[i]? = some (k, q, u) ∧ RelV v u
  | _, _, _, _, _, _, .nil, e => by simp at e
  | _, (k', q', u') :: _, 0, _, _, _, .cons ⟨e1, e2, r⟩ _, e => by
    simp at e; subst e
    have e1 : _ = k' := e1
    have e2 : _ = q' := e2
    subst e1 e2
    exact ⟨u', rfl, r⟩
  | _, _, i + 1, _, _, _, .cons _ t, e => by
    obtain ⟨u, h1, h2⟩ := KR.get (i := i) t (by simpa using e)
    exact ⟨u, by simpa using h1, h2⟩
theorem frzX (I : Inv X pins σ H s) (h : H d = some (.frz o (dtO d ks))) :
    (d == sysModules) = false ∧ s.heap.get? d = some o ∧ o.ExactDict ∧ ∃ (es : Array DictEntry) (ep : Nat), o.data = .dict es ep ∧ es.size = ks.length ∧
      ∀ (i : Nat) (k : List Key) (q : Addr) (v : V), ks[i]? = some (k, q, v) → ∃ en : DictEntry, es[i]? = some en ∧ en.key = .ref q := by
  unfold dtO at h
  obtain ⟨hd, hp, _⟩ := I.hok d _ h
  obtain ⟨z, hs, xs, pr, o', es, ep, ho, hx, hdt, he, _⟩ := hp
  rw [hd] at ho
  cases ho
  refine ⟨hs, hd, hx, es, ep, hdt, ?_, fun i k q v e => ?_⟩
  · have l1 : es.size = xs.length := size_of_entries he
    have l2 : ks.length = xs.length := pr.len
    omega
  · obtain ⟨u, hb, _⟩ := pr.get e
    have q' := entry_at he i
    rw [hb] at q'
    exact ⟨_, q', rfl⟩
def Itkx (d : Addr) (o : Obj) (ks : List KA) : It :=
  ⟨fun i H => H d = some (.frz o (dtO d ks)) ∧ i < ks.length, fun i H x H' => H' = H ∧ ∃ (k : List Key) (q : Addr) (v : V), ks[i]? = some (k, q, v) ∧ x = .ref q, fun i H => H d = some (.frz o (dtO d ks)) ∧ ks.length ≤ i⟩
theorem turn_keysX {P : Program} {w : World} {K : PySem.W.Frag} {tg : Expr} {es : Array DictEntry} {ep : Nat} (it : Addr) (hod : o.data = .dict es ep) : Turn P w K tg (Itkx d o ks) [it] it (fun i h => h.IsKeyIter it d i ks.length ep) where
  mem := by simp
  obj := fun i h st b hb => by
    have e : b = it := by simpa using hb
    subst e
    obtain ⟨oi, e, c, dd⟩ := st
    exact ⟨oi, e, fun v z => by rw [dd] at z; cases z⟩
  keep := fun i h h' st k => st.at fun oi e => k it (by simp) oi e
  item := by
    intro X hP hw hK hc i pins s σ H E I hf st hg
    subst hP hw hK
    obtain ⟨hd, hi⟩ := hg
    obtain ⟨f0, f1, f2, f3, f4, f5⟩ := hf it (by simp)
    obtain ⟨hs, hgd, hx, es', ep', hdt, hsz, ent⟩ := frzX I hd
    obtain ⟨rfl, rfl⟩ := dict_ep hod hdt
    obtain ⟨⟨k, q, v⟩, hkv⟩ : ∃ p, ks[i]? = some p := ⟨ks[i], List.getElem?_eq_getElem hi⟩
    obtain ⟨en, hen, hkey⟩ := ent i k q v hkv
    refine next_key_item st hgd hdt hsz hen fun h' st' sb => ?_
    have I1 : Inv X pins σ H { s with heap := h' } := I.turned (t' := s.toks) (fun b ob hb e => (sb.2 b hb).trans e) f0 f1 f3 f4 f5
    obtain ⟨oi, e, c, dd⟩ := id st'
    exact ⟨en.key, rfl, go_of (s := { s with heap := h' }) e c dd (by decide) ⟨.ref q, H, I1, hkey, ⟨rfl, k, q, v, hkv, rfl⟩, st', fun b hb => (hf b hb).1⟩⟩
  done := by
    intro X hP hw hK hc i pins s σ H E I hf st hg
    subst hP hw hK
    obtain ⟨hd, hi⟩ := hg
    obtain ⟨f0, f1, f2, f3, f4, f5⟩ := hf it (by simp)
    obtain ⟨hs, hgd, hx, es', ep', hdt, hsz, ent⟩ := frzX I hd
    obtain ⟨rfl, rfl⟩ := dict_ep hod hdt
    exact next_key_end (I.ok.hd hc) st hgd hdt hsz hi fun h' eb => ⟨rfl, I.turned (t' := s.toks) (fun b ob hb e => eb b ob hb e) f0 f1 f3 f4 f5⟩
  self := fun A i s Q E st h => by
    refine wpAny_pyIter_slot st.typeIs F.slot_dict_keyiterator_iter (wpAny_call_entry F.slot_dict_keyiterator_iter st.typeIs F.entry_dict_keyiterator_iter ?_ (F.args_dict_keyiterator_iter_1 _))
    show wpAny _ _ (ret (.ref it)) _ _ s
    exact wpAny_pure ⟨_, rfl, "dict_keyiterator", _, st.typeIs, F.slot_dict_keyiterator_next.lookup, h⟩
def iKeysX (td : TE) : TI := fun σ H R => td σ H fun x H1 => ∃ d o ks, x = .ref d ∧ H1 d = some (.frz o (dtO d ks)) ∧ R (Itkx d o ks) H1
theorem pi_keysX {tg e : Expr} {td : TE} (he : PE X e td) : PI X tg e (iKeysX td) := by
  refine ⟨fun pins s σ H R I h => ?_⟩
  refine thn (he.run pins s σ H _ I h) fun u s1 ⟨x, H1, I1, rx, d, o, ks, ex, hd, q⟩ => ?_
  subst ex
  obtain rfl : u = Value.ref d := rx
  obtain ⟨hs, hgd, hx, es, ep, hdt, hsz, ent⟩ := frzX I1 hd
  refine iter_keys hs hgd hx hdt (pi_one (tk := s1.toks) I1 _ (turn_keysX _ hdt) ⟨_, Heap.get?_push_size _ rfl, rfl, ?_⟩ q)
  rw [hsz] <;> rfl
end
end DL
set_option maxRecDepth 100000
set_option maxHeartbeats 4000000
namespace DL
open PySem PySem.Spec PyProof.Rows L2
variable [HW]
abbrev D := PyData
structure Mm where
  u : List Addr
  m : List (Option Addr)
def Mm.Has (M : Mm) (a : Addr) : Prop := a ∈ M.u ∨ some a ∈ M.m
def kP : Key → D
  | .inl i => .int i
  | .inr s => .str s
def prTx : List D → Option (List (Str × Str))
  | [] => some []
  | .tuple [.str a, .str b] :: ds => (prTx ds).map ((a, b) :: ·)
  | _ :: _ => none
def rowS : List D → Option (List Str)
  | [] => some []
  | .str a :: ds => (rowS ds).map (a :: ·)
  | _ :: _ => none
def pairD (ds : List D) : Bool := match prTx ds with
  | some ps => !ps.isEmpty && decide (ps.map (·.1)).Nodup
  | none => false
def rowD (ds : List D) : Bool := match rowS ds with
  | some l => !l.isEmpty && decide l.Nodup
  | none => false
def callD (ds : List D) : Bool := pairD ds || rowD ds
def TupAt (H : Hp) (a : Addr) (xs : List V) (ds : List D) : Prop := (callD ds = false ∧ H a = some (.tup xs)) ∨ (callD ds = true ∧ ∃ o : Obj, o.dict = none ∧ H a = some (.frz o (.tup xs)))
theorem TupAt.to {H H' : Hp} {a : Addr} {xs : List V} {ds : List D} (t : TupAt H a xs ds) (f : ∀ o, H a = some o → H' a = some o) : TupAt H' a xs ds := by
  rcases t with ⟨c, e⟩ | ⟨c, o, h, e⟩
  · exact .inl ⟨c, f _ e⟩
  · exact .inr ⟨c, o, h, f _ e⟩
theorem TupAt.some_ {H : Hp} {a : Addr} {xs : List V} {ds : List D} (t : TupAt H a xs ds) : ∃ o, H a = some o := by
  rcases t with ⟨c, e⟩ | ⟨c, o, h, e⟩
  · exact ⟨_, e⟩
  · exact ⟨_, e⟩
theorem TupAt.rd {H : Hp} {a : Addr} {xs : List V} {ds : List D} (t : TupAt H a xs ds) : Rd H a (.tup xs) := by
  rcases t with ⟨c, e⟩ | ⟨c, o, h, e⟩
  · exact .inl e
  · exact .inr ⟨o, e⟩
theorem TupAt.sq {K : PySem.W.Frag} {H : Hp} {a : Addr} {xs : List V} {ds : List D} (t : TupAt H a xs ds) : SqT K H a xs := .inl t.rd
theorem TupAt.plain {H : Hp} {a : Addr} {xs : List V} {ds : List D} (t : TupAt H a xs ds) (c : callD ds = false) : H a = some (.tup xs) := by
  rcases t with ⟨_, e⟩ | ⟨c', _⟩
  · exact e
  · rw [c] at c'; cases c'
theorem pairD_not {d : D} (ds : List D) (h : ∀ a b : Str, d ≠ .tuple [.str a, .str b]) : pairD (d :: ds) = false := by
  have e : prTx (d :: ds) = none := by
    unfold prTx
    split
    · rename_i q; cases q
    · rename_i a b ds' q; cases q; exact absurd rfl (h a b)
    · rfl
  unfold pairD
  rw [e]
theorem rowD_not {d : D} (ds : List D) (h : ∀ a : Str, d ≠ .str a) : rowD (d :: ds) = false := by
  have e : rowS (d :: ds) = none := by
    unfold rowS
    split
    · rename_i q; cases q
    · rename_i a ds' q; cases q; exact absurd rfl (h a)
    · rfl
  unfold rowD
  rw [e]
theorem callD_not {d : D} (ds : List D) (h : ∀ a b : Str, d ≠ .tuple [.str a, .str b]) (h' : ∀ a : Str, d ≠ .str a) : callD (d :: ds) = false := by
  unfold callD
  rw [pairD_not ds h, rowD_not ds h']
  rfl
mutual
inductive RD (M : Mm) (H : Hp) : V → D → Prop
  | non : RD M H .non .none
  | bl (b : Bool) : RD M H (.bl b) (.bool b)
  | int (i : Int) : RD M H (.int i) (.int i)
  | str (x : Str) : RD M H (.str x) (.str x)
  | tup {a : Addr} {xs : List V} {ds : List D} : ¬ M.Has a → TupAt H a xs ds → RDs M H xs ds → RD M H (.ref a) (.tuple ds)
  | lst {a : Addr} {xs : List V} {ds : List D} : ¬ M.Has a → H a = some (.lst xs) → RDs M H xs ds → RD M H (.ref a) (.list ds)
  | dic {a : Addr} {kvs : List (Key × V)} {es : List (D × D)} : ¬ M.Has a → H a = some (.dK kvs) → RDk M H kvs es → RD M H (.ref a) (.dict es)
  | dit {a : Addr} {o : Obj} {kvs : List KA} {es : List (D × D)} : ¬ M.Has a → H a = some (.frz o (dtO a kvs)) → RDt M H kvs es → RD M H (.ref a) (.dict ((.none, .none) :: es))
inductive RDs (M : Mm) (H : Hp) : List V → List D → Prop
  | nil : RDs M H [] []
  | cons {v : V} {vs : List V} {d : D} {ds : List D} : RD M H v d → RDs M H vs ds → RDs M H (v :: vs) (d :: ds)
inductive RDk (M : Mm) (H : Hp) : List (Key × V) → List (D × D) → Prop
  | nil : RDk M H [] []
  | cons {k : Key} {v : V} {d : D} {kvs : List (Key × V)} {es : List (D × D)} : RD M H v d → RDk M H kvs es → RDk M H ((k, v) :: kvs) ((kP k, d) :: es)
inductive RDt (M : Mm) (H : Hp) : List KA → List (D × D) → Prop
  | nil : RDt M H [] []
  | cons {k : List Key} {q : Addr} {v : V} {d : D} {kvs : List KA} {es : List (D × D)} : ¬ M.Has q → TupAt H q (k.map kV) (k.map kP) → RD M H v d → RDt M H kvs es → RDt M H ((k, q, v) :: kvs) ((.tuple (k.map kP), d) :: es)
end

structure Ext (M M' : Mm) (H H' : Hp) : Prop where
  us : ∀ a ∈ M'.u, a ∈ M.u ∨ H a = none
  trk : ∀ a o, H a = some o → ∃ o', H' a = some o'
  stab : ∀ a o, H a = some o → some a ∉ M.m → H' a = some o
  fresh : ∀ a, some a ∈ M'.m → some a ∈ M.m ∨ H a = none
  len : M.m.length ≤ M'.m.length
  kill : ∀ i : Nat, i < M.m.length → M'.m[i]? = M.m[i]? ∨ M'.m[i]? = some none
structure ExtE (M M' : Mm) (H H' : Hp) : Prop where
  same : M'.u = M.u
  trk : ∀ a o, H a = some o → ∃ o', H' a = some o'
  stab : ∀ a o, H a = some o → some a ∉ M.m → H' a = some o
  fresh : ∀ a, some a ∈ M'.m → some a ∈ M.m ∨ H a = none
  len : M.m.length ≤ M'.m.length
  pre : ∀ i : Nat, i < M.m.length → M'.m[i]? = M.m[i]?
theorem ExtE.ext {M M' : Mm} {H H' : Hp} (x : ExtE M M' H H') : Ext M M' H H' := ⟨fun a m => .inl (x.same ▸ m), x.trk, x.stab, x.fresh, x.len, fun i h => .inl (x.pre i h)⟩
theorem Ext.outm {M M' : Mm} {H H' : Hp} (x : Ext M M' H H') {a : Addr} {o : HO} (n : some a ∉ M.m) (e : H a = some o) : some a ∉ M'.m := fun m =>
  (x.fresh a m).elim n fun z => by rw [e] at z; cases z
theorem Ext.out {M M' : Mm} {H H' : Hp} (x : Ext M M' H H') {a : Addr} {o : HO} (n : ¬ M.Has a) (e : H a = some o) : ¬ M'.Has a := fun m => by
  rcases m with m | m
  · exact (x.us a m).elim (fun z => n (.inl z)) fun z => by rw [e] at z; cases z
  · exact x.outm (fun z => n (.inr z)) e m
theorem Ext.st {M M' : Mm} {H H' : Hp} (x : Ext M M' H H') {a : Addr} {o : HO} (n : ¬ M.Has a) (e : H a = some o) : H' a = some o := x.stab a o e fun z => n (.inr z)
theorem Ext.refl (M : Mm) (H : Hp) : Ext M M H H := ⟨fun _ m => .inl m, fun a o e => ⟨o, e⟩, fun _ _ e _ => e, fun _ m => .inl m, Nat.le_refl _, fun _ _ => .inl rfl⟩
theorem ExtE.refl (M : Mm) (H : Hp) : ExtE M M H H := ⟨rfl, fun a o e => ⟨o, e⟩, fun _ _ e _ => e, fun _ m => .inl m, Nat.le_refl _, fun _ _ => rfl⟩
theorem Ext.trans {M M1 M2 : Mm} {H H1 H2 : Hp} (x : Ext M M1 H H1) (y : Ext M1 M2 H1 H2) : Ext M M2 H H2 where
  us := fun a m => by
    rcases y.us a m with z | z
    · exact x.us a z
    · right
      cases q : H a with
      | none => rfl
      | some o => obtain ⟨o', e⟩ := x.trk a o q; rw [z] at e; cases e
  trk := fun a o e => by obtain ⟨o', e'⟩ := x.trk a o e; exact y.trk a o' e'
  stab := fun a o e n => y.stab a o (x.stab a o e n) (x.outm n e)
  fresh := fun a m => by
    rcases y.fresh a m with m1 | z
    · exact x.fresh a m1
    · by_cases hm : some a ∈ M.m
      · exact .inl hm
      · right
        cases q : H a with
        | none => rfl
        | some o => rw [x.stab a o q hm] at z; cases z
  len := Nat.le_trans x.len y.len
  kill := fun i h => by
    rcases y.kill i (Nat.lt_of_lt_of_le h x.len) with e | e
    · rw [e]; exact x.kill i h
    · exact .inr e
theorem ExtE.trans {M M1 M2 : Mm} {H H1 H2 : Hp} (x : ExtE M M1 H H1) (y : ExtE M1 M2 H1 H2) : ExtE M M2 H H2 where
  same := y.same.trans x.same
  trk := (x.ext.trans y.ext).trk
  stab := (x.ext.trans y.ext).stab
  fresh := (x.ext.trans y.ext).fresh
  len := Nat.le_trans x.len y.len
  pre := fun i h => by rw [y.pre i (Nat.lt_of_lt_of_le h x.len), x.pre i h]
mutual
theorem RD.mono {M M' : Mm} {H H' : Hp} (x : Ext M M' H H') : ∀ {v : V} {d : D}, RD M H v d → RD M' H' v d
  | _, _, .non => .non
  | _, _, .bl b => .bl b
  | _, _, .int i => .int i
  | _, _, .str s => .str s
  | _, _, .tup n e r => .tup (let ⟨_, q⟩ := e.some_; x.out n q) (e.to fun _ q => x.st n q) (RDs.mono x r)
  | _, _, .lst n e r => .lst (x.out n e) (x.st n e) (RDs.mono x r)
  | _, _, .dic n e r => .dic (x.out n e) (x.st n e) (RDk.mono x r)
  | _, _, .dit n e r => .dit (x.out n e) (x.st n e) (RDt.mono x r)
theorem RDs.mono {M M' : Mm} {H H' : Hp} (x : Ext M M' H H') : ∀ {v : List V} {d : List D}, RDs M H v d → RDs M' H' v d
  | _, _, .nil => .nil
  | _, _, .cons a r => .cons (RD.mono x a) (RDs.mono x r)
theorem RDk.mono {M M' : Mm} {H H' : Hp} (x : Ext M M' H H') : ∀ {v : List (Key × V)} {d : List (D × D)}, RDk M H v d → RDk M' H' v d
  | _, _, .nil => .nil
  | _, _, .cons a r => .cons (RD.mono x a) (RDk.mono x r)
theorem RDt.mono {M M' : Mm} {H H' : Hp} (x : Ext M M' H H') : ∀ {v : List KA} {d : List (D × D)}, RDt M H v d → RDt M' H' v d
  | _, _, .nil => .nil
  | _, _, .cons n e a r => .cons (let ⟨_, q⟩ := e.some_; x.out n q) (e.to fun _ q => x.st n q) (RD.mono x a) (RDt.mono x r)
end

theorem RDt.kx {M : Mm} {H : Hp} : ∀ {ks : List KA} {es : List (D × D)}, RDt M H ks es → KX H ks
  | _, _, .nil => KX.nil
  | _, _, .cons n e a r => fun p hp => by
    rcases List.mem_cons.mp hp with z | z
    · subst z; exact e.rd
    · exact RDt.kx r p z
def RF (M : Mm) (H : Hp) (gs : List (Str × V)) (fs : List (Str × D)) : Prop := Paired (fun (p : Str × V) (q : Str × D) => p.1 = q.1 ∧ RD M H p.2 q.2) gs fs
theorem RF.to {M M' : Mm} {H H' : Hp} {gs : List (Str × V)} {fs : List (Str × D)} (r : RF M H gs fs) (h : ∀ v d, RD M H v d → RD M' H' v d) : RF M' H' gs fs := Paired.mapP r fun p q z => ⟨z.1, h _ _ z.2⟩
def XO (C : Addr) (d : Option Addr) (a : Addr) : HO := .ext fun h => ∃ (oe : Obj) (vs : Array Value), h.get? a = some oe ∧ oe.cls = .ref C ∧ oe.dict = d ∧ oe.data = .fields vs
def xk : HO → Bool
  | .ext _ => true
  | .xd _ => true
  | _ => false
def XD (M : Mm) (H : Hp) : Option Addr → List (Str × V) → Prop
  | none, gs => gs = []
  | some d, gs => ¬ M.Has d ∧ H d = some (.xd gs)
theorem XD.to {M M' : Mm} {H H' : Hp} (hn : ∀ b o, H b = some o → ¬ M.Has b → ¬ M'.Has b) (he : ∀ b o, H b = some o → xk o = true → ¬ M.Has b → H' b = some o) : ∀ {d : Option Addr} {gs : List (Str × V)}, XD M H d gs → XD M' H' d gs
  | none, _, e => e
  | some _, _, e => ⟨hn _ _ e.2 e.1, he _ _ e.2 rfl e.1⟩
def RX (M : Mm) (H : Hp) (a C : Addr) (d : Option Addr) (gs : List (Str × V)) (fs : List (Str × D)) : Prop := ¬ M.Has a ∧ H a = some (XO C d a) ∧ XD M H d gs ∧ RF M H gs fs
theorem RX.to {M M' : Mm} {H H' : Hp} {a C : Addr} {d : Option Addr} {gs : List (Str × V)} {fs : List (Str × D)} (r : RX M H a C d gs fs) (hn : ∀ b o, H b = some o → ¬ M.Has b → ¬ M'.Has b) (he : ∀ b o, H b = some o → xk o = true → ¬ M.Has b → H' b = some o) (hd : ∀ v d, RD M H v d → RD M' H' v d) : RX M' H' a C d gs fs :=
  ⟨hn _ _ r.2.1 r.1, he _ _ r.2.1 rfl r.1, r.2.2.1.to hn he, r.2.2.2.to hd⟩
inductive OI where
  | ins (C : Addr) (fs : List (Str × D)) | exc (k : Nat) (C : Addr) (fs : List (Str × D))
def xo : HO → Bool
  | .ext _ => true
  | .xd _ => true
  | .ins _ _ _ => true
  | .lst _ => true
  | _ => false
theorem xo_of {o : HO} (h : xk o = true) : xo o = true := by
  cases o <;> first | rfl | cases h
def ROI (M : Mm) (H : Hp) (v : V) : OI → Prop
  | .ins C fs => ∃ a dx gs, v = .ref a ∧ ¬ M.Has a ∧ H a = some (.ins C dx gs) ∧ RF M H gs fs
  | .exc _ C fs => ∃ a d gs, v = .ref a ∧ RX M H a C d gs fs
theorem ROI.to {M M' : Mm} {H H' : Hp} {v : V} (hn : ∀ b o, H b = some o → ¬ M.Has b → ¬ M'.Has b) (he : ∀ b o, H b = some o → xo o = true → ¬ M.Has b → H' b = some o) (hd : ∀ v d, RD M H v d → RD M' H' v d) : ∀ {o : OI}, ROI M H v o → ROI M' H' v o
  | .ins C fs, ⟨a, dx, gs, e, n, q, r⟩ => ⟨a, dx, gs, e, hn _ _ q n, he _ _ q rfl n, r.to hd⟩
  | .exc _ C fs, ⟨a, d, gs, e, r⟩ => ⟨a, d, gs, e, r.to hn (fun b o q x n => he b o q (xo_of x) n) hd⟩
def RC (M : Mm) (H : Hp) (v : V) : Sum Nat D → Prop
  | .inl n => ∃ b, v = .ref b ∧ (M.m[n]? = some (some b) ∨ M.m[n]? = some none)
  | .inr d => RD M H v d
def refsF : List (Str × Sum Nat D) → List Nat
  | [] => []
  | (_, .inl n) :: r => n :: refsF r
  | (_, .inr _) :: r => refsF r
def RFw (M : Mm) (H : Hp) (gs : List (Str × V)) (fs : List (Str × Sum Nat D)) : Prop := Paired (fun (p : Str × V) (q : Str × Sum Nat D) => p.1 = q.1 ∧ RC M H p.2 q.2) gs fs
theorem RFw.to {M M' : Mm} {H H' : Hp} : ∀ {gs : List (Str × V)} {fs : List (Str × Sum Nat D)}, RFw M H gs fs → (∀ n ∈ refsF fs, ∀ z, M.m[n]? = some z → M'.m[n]? = some z ∨ M'.m[n]? = some none) → (∀ v d, RD M H v d → RD M' H' v d) → RFw M' H' gs fs
  | _, _, .nil, _, _ => .nil
  | _ :: _, (_, .inl n) :: _, .cons ⟨e, b, ev, r⟩ t, k, hd => .cons ⟨e, b, ev, by
      rcases r with r | r
      · exact k n List.mem_cons_self _ r
      · rcases k n List.mem_cons_self _ r with q | q <;> exact .inr q⟩ (RFw.to t (fun n m => k n (List.mem_cons_of_mem _ m)) hd)
  | _ :: _, (_, .inr d) :: _, .cons ⟨e, r⟩ t, k, hd => .cons ⟨e, hd _ _ r⟩ (RFw.to t k hd)
theorem RFw.lt {M : Mm} {H : Hp} : ∀ {gs : List (Str × V)} {fs : List (Str × Sum Nat D)}, RFw M H gs fs → ∀ n ∈ refsF fs, n < M.m.length
  | _, _, .nil, n, m => by cases m
  | _ :: _, (_, .inl k) :: _, .cons ⟨e, b, ev, r⟩ t, n, m => by
      rcases List.mem_cons.mp m with z | z
      · subst z
        rcases r with r | r <;> exact (List.getElem?_eq_some_iff.mp r).1
      · exact RFw.lt t n z
  | _ :: _, (_, .inr d) :: _, .cons ⟨e, r⟩ t, n, m => RFw.lt t n m
abbrev ROs (M : Mm) (H : Hp) (xs : List V) (os : List OI) : Prop := Paired (fun v o => ROI M H v o) xs os
theorem ROs.to {M M' : Mm} {H H' : Hp} {xs : List V} {os : List OI} (r : ROs M H xs os) (hn : ∀ b o, H b = some o → ¬ M.Has b → ¬ M'.Has b) (he : ∀ b o, H b = some o → xo o = true → ¬ M.Has b → H' b = some o) (hd : ∀ v d, RD M H v d → RD M' H' v d) : ROs M' H' xs os := Paired.mapP r fun v o z => z.to hn he hd
def refsD : List (List Key × Sum Nat D) → List Nat
  | [] => []
  | (_, .inl n) :: r => n :: refsD r
  | (_, .inr _) :: r => refsD r
def RKw (M : Mm) (H : Hp) (kvs : List KA) (es : List (List Key × Sum Nat D)) : Prop := Paired (fun (p : KA) (q : List Key × Sum Nat D) => p.1 = q.1 ∧ (¬ M.Has p.2.1 ∧ TupAt H p.2.1 (p.1.map kV) (p.1.map kP)) ∧ RC M H p.2.2 q.2) kvs es
theorem RKw.to {M M' : Mm} {H H' : Hp} (ht : ∀ b xs ds, ¬ M.Has b → TupAt H b xs ds → ¬ M'.Has b ∧ TupAt H' b xs ds) : ∀ {kvs : List KA} {es : List (List Key × Sum Nat D)}, RKw M H kvs es → (∀ n ∈ refsD es, ∀ z, M.m[n]? = some z → M'.m[n]? = some z ∨ M'.m[n]? = some none) → (∀ v d, RD M H v d → RD M' H' v d) → RKw M' H' kvs es
  | _, _, .nil, _, _ => .nil
  | _ :: _, (_, .inl n) :: _, .cons ⟨e, t0, b, ev, r⟩ t, k, hd => .cons ⟨e, ht _ _ _ t0.1 t0.2, b, ev, by
      rcases r with r | r
      · exact k n List.mem_cons_self _ r
      · rcases k n List.mem_cons_self _ r with q | q <;> exact .inr q⟩ (RKw.to ht t (fun n m => k n (List.mem_cons_of_mem _ m)) hd)
  | _ :: _, (_, .inr d) :: _, .cons ⟨e, t0, r⟩ t, k, hd => .cons ⟨e, ht _ _ _ t0.1 t0.2, hd _ _ r⟩ (RKw.to ht t k hd)
theorem RKw.lt {M : Mm} {H : Hp} : ∀ {kvs : List KA} {es : List (List Key × Sum Nat D)}, RKw M H kvs es → ∀ n ∈ refsD es, n < M.m.length
  | _, _, .nil, n, m => by cases m
  | _ :: _, (_, .inl k) :: _, .cons ⟨e, _, b, ev, r⟩ t, n, m => by
      rcases List.mem_cons.mp m with z | z
      · subst z
        rcases r with r | r <;> exact (List.getElem?_eq_some_iff.mp r).1
      · exact RKw.lt t n z
  | _ :: _, (_, .inr d) :: _, .cons ⟨e, _, r⟩ t, n, m => RKw.lt t n m
inductive MO where
  | lst (ds : List D) | dic (es : List (D × D)) | dit (es : List (D × D)) | tab (q : Str) (P : Addr) | ins (C : Addr) (fs : List (Str × D)) | obj (C : Addr) (fs : List (Str × Sum Nat D)) | los (os : List OI) | dpk (es : List (List Key × Sum Nat D))
abbrev Hh := List (Option MO)
@[simp] def MO.refs : MO → List Nat
  | .obj _ fs => refsF fs
  | .dpk es => refsD es
  | _ => []
def RO (M : Mm) (H : Hp) (a : Addr) : MO → Prop
  | .lst ds => ∃ xs, H a = some (.lst xs) ∧ RDs M H xs ds
  | .dic es => ∃ kvs, H a = some (.dK kvs) ∧ RDk M H kvs es
  | .dit es => ∃ kvs, H a = some (dtO a kvs) ∧ RDt M H kvs es
  | .ins C fs => ∃ dx gs, H a = some (.ins C dx gs) ∧ RF M H gs fs
  | .obj C fs => ∃ dx gs, H a = some (.ins C dx gs) ∧ RFw M H gs fs
  | .los os => ∃ xs, H a = some (.lst xs) ∧ ROs M H xs os
  | .dpk es => ∃ kvs, H a = some (dtO a kvs) ∧ RKw M H kvs es
  | .tab q P => a = P ∧ ∃ ps : Array Value, H a = some (.tbl ps) ∧ TriplesOk ps.toList ∧ ∀ pos cv, codeAmong pos ps.toList = some cv → ∃ c, cv = .ref c ∧ ¬ M.Has c ∧ H c = some (LamX.CodeO c q)
def tpO : HO → Bool
  | .tup _ => true
  | .frz _ (.tup _) => true
  | _ => false
structure Rep (M : Mm) (H : Hp) (h : Hh) : Prop where
  us : ∀ a ∈ M.u, some a ∉ M.m ∧ ∃ o, H a = some o ∧ tpO o = false
  len : M.m.length = h.length
  inj : ∀ (i j : Nat) (a : Addr), M.m[i]? = some (some a) → M.m[j]? = some (some a) → i = j
  at_ : ∀ (i : Nat) (a : Addr), M.m[i]? = some (some a) → ∃ o, h[i]? = some (some o) ∧ RO M H a o
  dead : ∀ i : Nat, M.m[i]? = some none → h[i]? = some none
theorem RO.move {M M' : Mm} {H H' : Hp} (x : Ext M M' H H') {a : Addr} {o : MO} (e : H' a = H a) (r : RO M H a o) : RO M' H' a o := by
  cases o with
  | lst ds => obtain ⟨xs, h, r⟩ := r; exact ⟨xs, e.trans h, r.mono x⟩
  | dic ds => obtain ⟨xs, h, r⟩ := r; exact ⟨xs, e.trans h, r.mono x⟩
  | dit ds => obtain ⟨xs, h, r⟩ := r; exact ⟨xs, e.trans h, r.mono x⟩
  | ins C fs => obtain ⟨dx, gs, h, r⟩ := r; exact ⟨dx, gs, e.trans h, r.to fun _ _ => RD.mono x⟩
  | obj C fs => obtain ⟨dx, gs, h, r⟩ := r; exact ⟨dx, gs, e.trans h, r.to (fun n _ z q => by rw [← q]; exact x.kill n (List.getElem?_eq_some_iff.mp q).1) fun _ _ => RD.mono x⟩
  | los os => obtain ⟨xs, h, r⟩ := r; exact ⟨xs, e.trans h, r.to (fun _ _ q n => x.out n q) (fun _ _ q _ n => x.st n q) fun _ _ => RD.mono x⟩
  | dpk es => obtain ⟨kvs, h, r⟩ := r; exact ⟨kvs, e.trans h, r.to (fun b xs ds n t => ⟨let ⟨_, q⟩ := t.some_; x.out n q, t.to fun _ q => x.st n q⟩) (fun n _ z q => by rw [← q]; exact x.kill n (List.getElem?_eq_some_iff.mp q).1) fun _ _ => RD.mono x⟩
  | tab q P =>
    obtain ⟨z, ps, h, t, r⟩ := r
    refine ⟨z, ps, e.trans h, t, fun pos cv hc => ?_⟩
    obtain ⟨c, e1, n, e2⟩ := r pos cv hc
    exact ⟨c, e1, x.out n e2, x.st n e2⟩
theorem RO.some_ {M : Mm} {H : Hp} {a : Addr} {o : MO} (r : RO M H a o) : ∃ u, H a = some u := by
  cases o with
  | lst ds => obtain ⟨xs, h, r⟩ := r; exact ⟨_, h⟩
  | dic ds => obtain ⟨xs, h, r⟩ := r; exact ⟨_, h⟩
  | dit ds => obtain ⟨xs, h, r⟩ := r; exact ⟨_, h⟩
  | ins C fs => obtain ⟨dx, gs, h, r⟩ := r; exact ⟨_, h⟩
  | obj C fs => obtain ⟨dx, gs, h, r⟩ := r; exact ⟨_, h⟩
  | los os => obtain ⟨xs, h, r⟩ := r; exact ⟨_, h⟩
  | dpk es => obtain ⟨kvs, h, r⟩ := r; exact ⟨_, h⟩
  | tab q P => obtain ⟨_, ps, h, _⟩ := r; exact ⟨_, h⟩
theorem RO.kind {M : Mm} {H : Hp} {a : Addr} {o : MO} (r : RO M H a o) : ∃ u, H a = some u ∧ tpO u = false := by
  cases o with
  | lst ds => obtain ⟨xs, h, r⟩ := r; exact ⟨_, h, rfl⟩
  | dic ds => obtain ⟨xs, h, r⟩ := r; exact ⟨_, h, rfl⟩
  | dit ds => obtain ⟨xs, h, r⟩ := r; exact ⟨_, h, rfl⟩
  | ins C fs => obtain ⟨dx, gs, h, r⟩ := r; exact ⟨_, h, rfl⟩
  | obj C fs => obtain ⟨dx, gs, h, r⟩ := r; exact ⟨_, h, rfl⟩
  | los os => obtain ⟨xs, h, r⟩ := r; exact ⟨_, h, rfl⟩
  | dpk es => obtain ⟨kvs, h, r⟩ := r; exact ⟨_, h, rfl⟩
  | tab q P => obtain ⟨_, ps, h, _⟩ := r; exact ⟨_, h, rfl⟩
theorem Rep.tracked {M : Mm} {H : Hp} {h : Hh} (r : Rep M H h) {a : Addr} (m : M.Has a) : ∃ u, H a = some u ∧ tpO u = false := by
  rcases m with m | m
  · exact (r.us a m).2
  · obtain ⟨i, hi, e⟩ := List.getElem_of_mem m
    obtain ⟨o, _, ro⟩ := r.at_ i a (by rw [List.getElem?_eq_getElem hi, e])
    exact ro.kind
theorem Rep.new {M : Mm} {H : Hp} {h : Hh} (r : Rep M H h) {p : Addr} (n : H p = none) : ¬ M.Has p := fun m => by
  obtain ⟨u, e, _⟩ := r.tracked m
  rw [n] at e; cases e
theorem trk_upd {H : Hp} {p : Addr} {o : HO} : ∀ a u, H a = some u → ∃ u', upd H p o a = some u' := fun a u e => by
  by_cases h : a = p
  · subst h; exact ⟨o, upd_same⟩
  · exact ⟨u, by rw [upd_ne h]; exact e⟩
theorem ext_new {M : Mm} {H : Hp} {p : Addr} {o : HO} (n : H p = none) : ExtE M M H (upd H p o) :=
  ⟨rfl, trk_upd, fun a u e _ => by rw [upd_ne (ne_of_none e n)]; exact e, fun _ m => .inl m, Nat.le_refl _, fun _ _ => rfl⟩
theorem Rep.upd_new {M : Mm} {H : Hp} {h : Hh} (r : Rep M H h) {p : Addr} {o : HO} (n : H p = none) : Rep M (upd H p o) h :=
  ⟨fun a m => by
    obtain ⟨h1, u, e, ht⟩ := r.us a m
    exact ⟨h1, u, by rw [upd_ne (ne_of_none e n)]; exact e, ht⟩, r.len, r.inj, fun i a e => by
    obtain ⟨u, hu, ro⟩ := r.at_ i a e
    obtain ⟨z, hz⟩ := ro.some_
    exact ⟨u, hu, ro.move (ext_new n).ext (upd_ne (ne_of_none hz n))⟩, r.dead⟩
def Mm.more (M : Mm) (p : Addr) : Mm := ⟨M.u, M.m ++ [some p]⟩
theorem ext_add {M : Mm} {H : Hp} {p : Addr} {o : HO} (n : H p = none) : ExtE M (M.more p) H (upd H p o) :=
  ⟨rfl, trk_upd, fun a u e _ => by rw [upd_ne (ne_of_none e n)]; exact e, fun a m => by
    rcases List.mem_append.mp m with m | m
    · exact .inl m
    · right
      have : a = p := by simpa using m
      rw [this]; exact n, by simp [Mm.more], fun i hi => List.getElem?_append_left hi⟩
theorem Rep.add {M : Mm} {H : Hp} {h : Hh} (r : Rep M H h) {p : Addr} {o : HO} {m : MO} (n : H p = none) (ro : RO (M.more p) (upd H p o) p m) : Rep (M.more p) (upd H p o) (h ++ [some m]) := by
  have nm := r.new n
  have cases_ : ∀ (i : Nat) (z : Option Addr), (M.m ++ [some p])[i]? = some z → (i < M.m.length ∧ M.m[i]? = some z) ∨ (i = M.m.length ∧ z = some p) := fun i z e => by
    by_cases hi : i < M.m.length
    · rw [List.getElem?_append_left hi] at e
      exact .inl ⟨hi, e⟩
    · rw [List.getElem?_append_right (by omega)] at e
      by_cases h0 : i - M.m.length = 0
      · rw [h0] at e
        exact .inr ⟨by omega, by simpa using e.symm⟩
      · rw [List.getElem?_eq_none (by simp; omega)] at e
        cases e
  refine ⟨fun a m => ?_, by simp [Mm.more, r.len], fun i j a e1 e2 => ?_, fun i a e => ?_, fun i e => ?_⟩
  · obtain ⟨h1, u, e, ht⟩ := r.us a m
    refine ⟨fun z => ?_, u, by rw [upd_ne (ne_of_none e n)]; exact e, ht⟩
    rcases List.mem_append.mp z with z | z
    · exact h1 z
    · have : a = p := by simpa using z
      rw [this, n] at e; cases e
  · rcases cases_ i _ e1 with ⟨h1, e1⟩ | ⟨h1, e1⟩ <;> rcases cases_ j _ e2 with ⟨h2, e2⟩ | ⟨h2, e2⟩
    · exact r.inj i j a e1 e2
    · cases e2; exact absurd (Or.inr (List.mem_of_getElem? e1)) nm
    · cases e1; exact absurd (Or.inr (List.mem_of_getElem? e2)) nm
    · omega
  · rcases cases_ i _ e with ⟨h1, e1⟩ | ⟨h1, e1⟩
    · obtain ⟨u, hu, q⟩ := r.at_ i a e1
      obtain ⟨z, hz⟩ := q.some_
      exact ⟨u, by rw [List.getElem?_append_left (by rw [← r.len]; exact h1)]; exact hu, q.move (ext_add n).ext (upd_ne (ne_of_none hz n))⟩
    · cases e1
      subst h1
      exact ⟨m, by rw [r.len]; simp, ro⟩
  · rcases cases_ i _ e with ⟨h1, e1⟩ | ⟨h1, e1⟩
    · rw [List.getElem?_append_left (by rw [← r.len]; exact h1)]
      exact r.dead i e1
    · cases e1
theorem ext_set {M : Mm} {H : Hp} {n : Nat} {a : Addr} {o : HO} (e : M.m[n]? = some (some a)) : ExtE M M H (upd H a o) :=
  ⟨rfl, trk_upd, fun b u q nb => by rw [upd_ne (fun z => nb (by rw [z]; exact List.mem_of_getElem? e))]; exact q, fun _ m => .inl m, Nat.le_refl _, fun _ _ => rfl⟩
theorem Rep.set {M : Mm} {H : Hp} {h : Hh} (r : Rep M H h) {n : Nat} {a : Addr} {o : HO} {m : MO} (e : M.m[n]? = some (some a)) (ro : RO M (upd H a o) a m) : Rep M (upd H a o) (h.set n (some m)) := by
  have hn : n < h.length := by
    obtain ⟨u, hu, _⟩ := r.at_ n a e
    exact (List.getElem?_eq_some_iff.mp hu).1
  refine ⟨fun b mb => ?_, by simpa using r.len, r.inj, fun i b q => ?_, fun i q => ?_⟩
  · obtain ⟨h1, u, q, ht⟩ := r.us b mb
    exact ⟨h1, u, by rw [upd_ne (fun z => h1 (by rw [z]; exact List.mem_of_getElem? e))]; exact q, ht⟩
  · by_cases hi : i = n
    · subst hi
      rw [e] at q; cases q
      exact ⟨m, by rw [List.getElem?_set_self hn], ro⟩
    · obtain ⟨u, hu, q2⟩ := r.at_ i b q
      have hb : b ≠ a := fun z => hi (r.inj i n a (by rw [← z]; exact q) e)
      exact ⟨u, by rw [List.getElem?_set_ne (Ne.symm hi)]; exact hu, q2.move (ext_set e).ext (upd_ne hb)⟩
  · have hi : n ≠ i := fun z => by subst z; rw [e] at q; cases q
    rw [List.getElem?_set_ne hi]
    exact r.dead i q
def RWs (M : Mm) (H : Hp) (v : V) (os : List OI) : Prop := ∃ a xs, v = .ref a ∧ ¬ M.Has a ∧ H a = some (.lst xs) ∧ Paired (fun v o => ROI M H v o) xs os
theorem RWs.to {M M' : Mm} {H H' : Hp} {v : V} {os : List OI} (r : RWs M H v os) (hn : ∀ b o, H b = some o → ¬ M.Has b → ¬ M'.Has b) (he : ∀ b o, H b = some o → xo o = true → ¬ M.Has b → H' b = some o) (hd : ∀ v d, RD M H v d → RD M' H' v d) : RWs M' H' v os := by
  obtain ⟨a, xs, e, n, q, p⟩ := r
  exact ⟨a, xs, e, hn _ _ q n, he _ _ q rfl n, Paired.mapP p fun v o z => z.to hn he hd⟩
inductive W where
  | dat (d : D) | ref (n : Nat) | scr (ns : List Int) | pack (its : List (Sum Nat D)) | lock (es : List (D × D)) | ins (C : Addr) (fs : List (Str × D)) | exc (k : Nat) (C : Addr) (fs : List (Str × D)) | objs (os : List OI) | tpk (its : List (Sum Nat D))
inductive RPs (M : Mm) (H : Hp) : List V → List (Sum Nat D) → Prop
  | nil : RPs M H [] []
  | ref {n : Nat} {a : Addr} {vs : List V} {ds : List (Sum Nat D)} : M.m[n]? = some (some a) → RPs M H vs ds → RPs M H (.ref a :: vs) (.inl n :: ds)
  | dat {v : V} {d : D} {vs : List V} {ds : List (Sum Nat D)} : RD M H v d → RPs M H vs ds → RPs M H (v :: vs) (.inr d :: ds)
theorem RPs.move {M M' : Mm} {H H' : Hp} (hm : ∀ (n : Nat) (a : Addr), M.m[n]? = some (some a) → M'.m[n]? = some (some a)) (hd : ∀ v d, RD M H v d → RD M' H' v d) : ∀ {vs : List V} {ds : List (Sum Nat D)}, RPs M H vs ds → RPs M' H' vs ds
  | _, _, .nil => .nil
  | _, _, .ref e r => .ref (hm _ _ e) (r.move hm hd)
  | _, _, .dat e r => .dat (hd _ _ e) (r.move hm hd)
theorem RPs.moveI {M M' : Mm} {H H' : Hp} (hd : ∀ v d, RD M H v d → RD M' H' v d) : ∀ {vs : List V} {ds : List (Sum Nat D)}, RPs M H vs ds → (∀ (n : Nat), Sum.inl n ∈ ds → ∀ a : Addr, M.m[n]? = some (some a) → M'.m[n]? = some (some a)) → RPs M' H' vs ds
  | _, _, .nil, _ => .nil
  | _, _, .ref e r, hm => .ref (hm _ List.mem_cons_self _ e) (r.moveI hd fun n hn a ea => hm n (List.mem_cons_of_mem _ hn) a ea)
  | _, _, .dat e r, hm => .dat (hd _ _ e) (r.moveI hd fun n hn a ea => hm n (List.mem_cons_of_mem _ hn) a ea)
abbrev Env := List (Option W)
def RV (M : Mm) (H : Hp) (v : V) : W → Prop
  | .dat d => RD M H v d
  | .ref n => ∃ a, M.m[n]? = some (some a) ∧ v = .ref a
  | .scr ns => ∃ a o, v = .ref a ∧ ¬ M.Has a ∧ H a = some (.frz o (.lst (ns.map V.int)))
  | .pack its => ∃ a xs, v = .ref a ∧ ¬ M.Has a ∧ H a = some (.lst xs) ∧ RPs M H xs its
  | .lock es => ∃ a o kvs, v = .ref a ∧ ¬ M.Has a ∧ H a = some (.frz o (.dK kvs)) ∧ RDk M H kvs es
  | .ins C fs => ∃ a dx gs, v = .ref a ∧ ¬ M.Has a ∧ H a = some (.ins C dx gs) ∧ RF M H gs fs
  | .exc _ C fs => ∃ a d gs, v = .ref a ∧ RX M H a C d gs fs
  | .objs os => RWs M H v os
  | .tpk its => ∃ a xs, v = .ref a ∧ ¬ M.Has a ∧ H a = some (.tup xs) ∧ RPs M H xs its
theorem lt_of_get {α : Type} {l : List α} {i : Nat} {x : α} (e : l[i]? = some x) : i < l.length := (List.getElem?_eq_some_iff.mp e).1
theorem RV.mono {M M' : Mm} {H H' : Hp} (x : ExtE M M' H H') {v : V} : ∀ {w : W}, RV M H v w → RV M' H' v w
  | .dat _, r => RD.mono x.ext r
  | .ref n, ⟨a, e, r⟩ => ⟨a, by rw [x.pre n (lt_of_get e)]; exact e, r⟩
  | .scr ns, ⟨a, o, e, n, q⟩ => ⟨a, o, e, x.ext.out n q, x.ext.st n q⟩
  | .pack its, ⟨a, xs, e, n, q, r⟩ => ⟨a, xs, e, x.ext.out n q, x.ext.st n q, r.move (fun i b z => by rw [x.pre i (lt_of_get z)]; exact z) fun _ _ => RD.mono x.ext⟩
  | .lock es, ⟨a, o, kvs, e, n, q, r⟩ => ⟨a, o, kvs, e, x.ext.out n q, x.ext.st n q, r.mono x.ext⟩
  | .ins C fs, ⟨a, dx, gs, e, n, q, r⟩ => ⟨a, dx, gs, e, x.ext.out n q, x.ext.st n q, r.to fun _ _ => RD.mono x.ext⟩
  | .exc _ C fs, ⟨a, d, gs, e, r⟩ => ⟨a, d, gs, e, r.to (fun _ _ q n => x.ext.out n q) (fun _ _ q _ n => x.ext.st n q) fun _ _ => RD.mono x.ext⟩
  | .objs _, r => RWs.to r (fun _ _ q n => x.ext.out n q) (fun _ _ q _ n => x.ext.st n q) fun _ _ => RD.mono x.ext
  | .tpk its, ⟨a, xs, e, n, q, r⟩ => ⟨a, xs, e, x.ext.out n q, x.ext.st n q, r.move (fun i b z => by rw [x.pre i (lt_of_get z)]; exact z) fun _ _ => RD.mono x.ext⟩
inductive RVs (M : Mm) (H : Hp) : List V → List W → Prop
  | nil : RVs M H [] []
  | cons {v : V} {vs : List V} {d : W} {ds : List W} : RV M H v d → RVs M H vs ds → RVs M H (v :: vs) (d :: ds)
theorem RVs.mono {M M' : Mm} {H H' : Hp} (x : ExtE M M' H H') : ∀ {vs : List V} {ws : List W}, RVs M H vs ws → RVs M' H' vs ws
  | _, _, .nil => .nil
  | _, _, .cons a r => .cons (a.mono x) (r.mono x)
theorem RVs.length {M : Mm} {H : Hp} : ∀ {vs : List V} {ws : List W}, RVs M H vs ws → vs.length = ws.length
  | _, _, .nil => rfl
  | _, _, .cons _ r => by rw [List.length_cons, List.length_cons, r.length]
theorem RDs.length {M : Mm} {H : Hp} : ∀ {vs : List V} {ws : List D}, RDs M H vs ws → vs.length = ws.length
  | _, _, .nil => rfl
  | _, _, .cons _ r => by rw [List.length_cons, List.length_cons, r.length]
def RS (M : Mm) (H : Hp) (ρ : Env) (σ : L2.St) : Prop := ρ.length = σ.length ∧ ∀ (i : Nat) (w : W), ρ[i]? = some (some w) → ∃ v, σ[i]? = some (some v) ∧ RV M H v w
theorem RS.mono {M M' : Mm} {H H' : Hp} (x : ExtE M M' H H') {ρ : Env} {σ : L2.St} (r : RS M H ρ σ) : RS M' H' ρ σ := ⟨r.1, fun i w e => by
  obtain ⟨v, e1, q⟩ := r.2 i w e
  exact ⟨v, e1, q.mono x⟩⟩
theorem RS.set {M : Mm} {H : Hp} {ρ : Env} {σ : L2.St} (r : RS M H ρ σ) {i : Nat} {v : V} {w : W} (q : RV M H v w) : RS M H (ρ.set i (some w)) (σ.set i (some v)) := by
  refine ⟨by simp [r.1], fun j u e => ?_⟩
  by_cases hj : i = j
  · subst hj
    by_cases hi : i < ρ.length
    · rw [List.getElem?_set_self hi] at e
      cases e
      exact ⟨v, by rw [List.getElem?_set_self (by rw [← r.1]; exact hi)], q⟩
    · rw [List.getElem?_eq_none (by simpa using hi)] at e; cases e
  · rw [List.getElem?_set_ne hj] at e ⊢
    exact r.2 j u e
def obnd {α β : Type} (r : Option (α × Hh)) (k : α → Hh → Option (β × Hh)) : Option (β × Hh) := match r with
  | some (a, h) => k a h
  | none => none
@[simp] theorem obnd_some {α β : Type} (a : α) (h : Hh) (k : α → Hh → Option (β × Hh)) : obnd (some (a, h)) k = k a h := rfl
@[simp] theorem obnd_none {α β : Type} (k : α → Hh → Option (β × Hh)) : obnd none k = none := rfl
def Cont {α β : Type} (rel : Mm → Hp → β → α → Prop) (r : Option (α × Hh)) (M : Mm) (H : Hp) (Q : β → Hp → Prop) : Prop :=
  ∃ w h', r = some (w, h') ∧ ∀ M' H' v, ExtE M M' H H' → Rep M' H' h' → rel M' H' v w → Q v H'
theorem Cont.bind {α β γ δ : Type} {rel : Mm → Hp → β → α → Prop} {r : Option (γ × Hh)} {k : γ → Hh → Option (α × Hh)} {M : Mm} {H : Hp} {Q : β → Hp → Prop} (c : Cont rel (obnd r k) M H Q) :
    ∃ a h1, r = some (a, h1) ∧ ∀ M1 H1, ExtE M M1 H H1 → Cont rel (k a h1) M1 H1 Q := by
  obtain ⟨w, h', e, q⟩ := c
  cases r with
  | none => cases e
  | some p =>
    obtain ⟨a, h1⟩ := p
    exact ⟨a, h1, rfl, fun M1 H1 x => ⟨w, h', e, fun M' H' v y => q M' H' v (x.trans y)⟩⟩
theorem Cont.fin {α β : Type} {rel : Mm → Hp → β → α → Prop} {w : α} {h : Hh} {M : Mm} {H : Hp} {Q : β → Hp → Prop} (c : Cont rel (some (w, h)) M H Q) {M' : Mm} {H' : Hp} {v : β} (x : ExtE M M' H H') (r : Rep M' H' h) (q : rel M' H' v w) : Q v H' := by
  obtain ⟨w', h', e, k⟩ := c
  cases e
  exact k M' H' v x r q
def tX {α β : Type} (rel : Mm → Hp → β → α → Prop) (f : Env → Hh → Option (α × Hh)) : L2.St → Hp → (β → Hp → Prop) → Prop := fun σ H Q => ∃ M h ρ, Rep M H h ∧ RS M H ρ σ ∧ Cont rel (f ρ h) M H Q
abbrev EM := Env → Hh → Option (W × Hh)
abbrev tE : EM → TE := tX RV
abbrev BM := Env → Hh → Option (Bool × Hh)
abbrev tT : BM → TT := tX fun _ _ (b : Bool) (c : Bool) => b = c
abbrev AM := Env → Hh → Option (List W × Hh)
abbrev tA : AM → TA := tX RVs
abbrev OM := Env → Hh → Option (Option Int × Hh)
abbrev tO : OM → TO := tX fun _ _ (b : Option Int) (c : Option Int) => b = c
abbrev DE (X : Cx) (e : Expr) (f : EM) : Prop := PE X e (tE f)
abbrev DT (X : Cx) (e : Expr) (f : BM) : Prop := PT X e (tT f)
abbrev DA (X : Cx) (es : List Expr) (f : AM) : Prop := PA X es (tA f)
abbrev DK (X : Cx) (es : List Keyword) (f : AM) : Prop := PK X es (tA f)
theorem _root_.L2.PE.weak {X : Cx} {e : Expr} {t t' : TE} (h : PE X e t) (i : ∀ σ H Q, t' σ H Q → t σ H Q) : PE X e t' := ⟨fun pins s σ H Q I q => h.run pins s σ H Q I (i σ H Q q)⟩
theorem _root_.L2.PT.weak {X : Cx} {e : Expr} {t t' : TT} (h : PT X e t) (i : ∀ σ H Q, t' σ H Q → t σ H Q) : PT X e t' := ⟨fun pins s σ H Q I q => h.run pins s σ H Q I (i σ H Q q)⟩
theorem _root_.L2.PA.weak {X : Cx} {e : List Expr} {t t' : TA} (h : PA X e t) (i : ∀ σ H Q, t' σ H Q → t σ H Q) : PA X e t' := ⟨fun pos pins s σ H Q I q => h.run pos pins s σ H Q I (i σ H Q q)⟩
theorem _root_.L2.PK.weak {X : Cx} {e : List Keyword} {t t' : TA} (h : PK X e t) (i : ∀ σ H Q, t' σ H Q → t σ H Q) : PK X e t' := ⟨fun pos pins s σ H Q I q => h.run pos pins s σ H Q I (i σ H Q q)⟩
theorem _root_.L2.PS.weak {X : Cx} {e : Stmt} {t t' : TS} (h : PS X e t) (i : ∀ D σ H, t' D σ H → t D σ H) : PS X e t' := ⟨fun pins s σ H Q I q => h.run pins s σ H Q I (i Q σ H q)⟩
theorem _root_.L2.PSs.weak {X : Cx} {e : List Stmt} {t t' : TS} (h : PSs X e t) (i : ∀ D σ H, t' D σ H → t D σ H) : PSs X e t' := ⟨fun pins s σ H Q I q => h.run pins s σ H Q I (i Q σ H q)⟩
theorem _root_.L2.PG.weak {X : Cx} {e : Expr} {t t' : TG} (h : PG X e t) (i : ∀ v σ H Q, t' v σ H Q → t v σ H Q) : PG X e t' := ⟨fun pins s σ H v u Q I r q => h.run pins s σ H v u Q I r (i v σ H Q q)⟩
theorem _root_.L2.PI.weak {X : Cx} {tg e : Expr} {t t' : TI} (h : PI X tg e t) (i : ∀ σ H Q, t' σ H Q → t σ H Q) : PI X tg e t' := ⟨fun pins s σ H R I q => h.run pins s σ H R I (i σ H R q)⟩
section
variable {X : Cx}
def fVar (i : Nat) : EM := fun ρ h => match ρ[i]? with
  | some (some w) => some (w, h)
  | _ => none
theorem dv (i : Nat) {x : Str} {pos : Pos} (h : PE X (.Name x pos) (tVar i)) : DE X (.Name x pos) (fVar i) := h.weak fun σ H Q => by
  rintro ⟨M, h, ρ, r, rs, c⟩
  unfold fVar at c
  split at c
  · rename_i w e
    obtain ⟨v, e1, rv⟩ := rs.2 i w e
    exact ⟨v, e1, c.fin (.refl _ _) r rv⟩
  · obtain ⟨_, _, e, _⟩ := c; cases e
def fC (d : D) : EM := fun _ h => some (.dat d, h)
theorem d_const {e : Expr} {v : V} {d : D} (h : PE X e (tC v)) (q : ∀ M H, RD M H v d) : DE X e (fC d) := h.weak fun σ H Q => by
  rintro ⟨M, h, ρ, r, rs, c⟩
  exact c.fin (.refl _ _) r (q M H)
theorem d_int {i j pos} : DE X (.Constant (.int i) j pos) (fC (.int i)) := d_const pe_int fun _ _ => .int i
theorem d_bl {i j pos} : DE X (.Constant (.bool i) j pos) (fC (.bool i)) := d_const pe_bl fun _ _ => .bl i
theorem d_non {j pos} : DE X (.Constant .none j pos) (fC .none) := d_const pe_non fun _ _ => .non
theorem d_str {i j pos} : DE X (.Constant (.str i) j pos) (fC (.str i)) := d_const pe_str fun _ _ => .str i
def fNil : AM := fun _ h => some ([], h)
def fCons (f : EM) (g : AM) : AM := fun ρ h => obnd (f ρ h) fun w h1 => obnd (g ρ h1) fun ws h2 => some (w :: ws, h2)
theorem da_nil : DA X [] fNil := pa_nil.weak fun σ H Q => by
  rintro ⟨M, h, ρ, r, rs, c⟩
  exact c.fin (.refl _ _) r .nil
theorem cons_imp {f : EM} {g : AM} : ∀ σ H Q, tA (fCons f g) σ H Q → tCons (tE f) (tA g) σ H Q := fun σ H Q => by
  rintro ⟨M, h, ρ, r, rs, c⟩
  obtain ⟨w, h1, e1, c1⟩ := Cont.bind (δ := Unit) c
  refine ⟨M, h, ρ, r, rs, w, h1, e1, fun M1 H1 v x1 r1 v1 => ⟨M1, h1, ρ, r1, rs.mono x1, ?_⟩⟩
  obtain ⟨ws, h2, e2, c2⟩ := Cont.bind (δ := Unit) (c1 M1 H1 x1)
  exact ⟨ws, h2, e2, fun M2 H2 vs x2 r2 v2 => (c2 M2 H2 x2).fin (.refl _ _) r2 (.cons (v1.mono x2) v2)⟩
theorem da_cons {e : Expr} {es : List Expr} {f : EM} {g : AM} (he : DE X e f) (hr : DA X es g) (hs : starEach (e :: es) X.env = (false, eval e X.env) :: starEach es X.env := by rfl) : DA X (e :: es) (fCons f g) :=
  (pa_cons he hr hs).weak cons_imp
theorem dk_nil : DK X [] fNil := pk_nil.weak fun σ H Q => by
  rintro ⟨M, h, ρ, r, rs, c⟩
  exact c.fin (.refl _ _) r .nil
theorem dk_cons {nm : Option Str} {kpos : Pos} {e : Expr} {es : List Keyword} {f : EM} {g : AM} (he : DE X e f) (hr : DK X es g) : DK X (⟨nm, e, kpos⟩ :: es) (fCons f g) :=
  (pk_cons he hr).weak cons_imp
def Sem2 (r : R2) (sem : W → W → Hh → Option (W × Hh)) : Prop := ∀ (M : Mm) (H : Hp) (h : Hh) (x y : V) (wx wy : W) (Q : VK), Rep M H h → RV M H x wx → RV M H y wy → Cont RV (sem wx wy h) M H Q → r x y H Q
def f2 (sem : W → W → Hh → Option (W × Hh)) (f g : EM) : EM := fun ρ h => obnd (f ρ h) fun a h1 => obnd (g ρ h1) fun b h2 => sem a b h2
theorem op_imp {r : R2} {sem : W → W → Hh → Option (W × Hh)} {f g : EM} (hs : Sem2 r sem) : ∀ σ H Q, tE (f2 sem f g) σ H Q → tOp r (tE f) (tE g) σ H Q := fun σ H Q => by
  rintro ⟨M, h, ρ, r, rs, c⟩
  obtain ⟨w, h1, e1, c1⟩ := Cont.bind (δ := Unit) c
  refine ⟨M, h, ρ, r, rs, w, h1, e1, fun M1 H1 v x1 r1 v1 => ⟨M1, h1, ρ, r1, rs.mono x1, ?_⟩⟩
  obtain ⟨w2, h2, e2, c2⟩ := Cont.bind (δ := Unit) (c1 M1 H1 x1)
  exact ⟨w2, h2, e2, fun M2 H2 v2 x2 r2 q2 => hs M2 H2 h2 _ _ w w2 Q r2 (v1.mono x2) q2 (c2 M2 H2 x2)⟩
theorem d_op {a b : Expr} {op : Operator} {pos : Pos} {r : R2} {sem : W → W → Hh → Option (W × Hh)} {f g : EM} (ho : OpR X (binaryOp op) r) (hs : Sem2 r sem) (ha : DE X a f) (hb : DE X b g) : DE X (.BinOp a op b pos) (f2 sem f g) :=
  (pe_op ho ha hb).weak (op_imp hs)
theorem d_cmp {a b : Expr} {op : CmpOp} {pos : Pos} {r : R2} {sem : W → W → Hh → Option (W × Hh)} {f g : EM} (ho : OpR X (compareOp op) r) (hs : Sem2 r sem) (ha : DE X a f) (hb : DE X b g) (hm : behindInMarks op b = false) : DE X (.Compare a [op] [b] pos) (f2 sem f g) :=
  (pe_cmpR ho ha hb hm).weak (op_imp hs)
end
end DL
set_option maxRecDepth 100000
set_option maxHeartbeats 4000000
namespace DL
open PySem PySem.Spec PyProof.Rows L2
variable [HW]
def deref (h : Hh) : W → Option D
  | .dat d => some d
  | .ref n => match h[n]? with
    | some (some (.lst ds)) => some (.list ds)
    | some (some (.dic es)) => some (.dict es)
    | some (some (.dit es)) => some (.dict ((.none, .none) :: es))
    | _ => none
  | .scr _ => none
  | .pack _ => none
  | .lock _ => none
  | .ins _ _ => none
  | .exc _ _ _ => none
  | .objs _ => none
  | .tpk _ => none
@[simp] theorem deref_dat (h : Hh) (d : D) : deref h (.dat d) = some d := rfl
def RR (M : Mm) (H : Hp) (v : V) : D → Prop
  | .list ds => ∃ a xs, v = .ref a ∧ H a = some (.lst xs) ∧ RDs M H xs ds
  | .dict es => (∃ a kvs, v = .ref a ∧ H a = some (.dK kvs) ∧ RDk M H kvs es) ∨ ∃ a kvs es', es = (.none, .none) :: es' ∧ v = .ref a ∧ Rd H a (dtO a kvs) ∧ RDt M H kvs es'
  | d => RD M H v d
theorem RD.rr {M : Mm} {H : Hp} {v : V} : ∀ {d : D}, RD M H v d → RR M H v d
  | .none, r => r
  | .bool _, r => r
  | .int _, r => r
  | .str _, r => r
  | .tuple _, r => r
  | .list _, .lst _ e r => ⟨_, _, rfl, e, r⟩
  | .dict _, .dic _ e r => .inl ⟨_, _, rfl, e, r⟩
  | .dict _, .dit _ e r => .inr ⟨_, _, _, rfl, rfl, .inr ⟨_, e⟩, r⟩
theorem deref_rr {M : Mm} {H : Hp} {h : Hh} {v : V} {w : W} {d : D} (rep : Rep M H h) (r : RV M H v w) (e : deref h w = some d) : RR M H v d := by
  cases w with
  | dat d' => cases e; exact r.rr
  | scr ns => cases e
  | pack its => cases e
  | lock its => cases e
  | ins C fs => cases e
  | exc k C fs => cases e
  | objs os => cases e
  | tpk its => cases e
  | ref n =>
    obtain ⟨a, ea, rfl⟩ := r
    obtain ⟨o, ho, ro⟩ := rep.at_ n a ea
    simp only [deref, ho] at e
    cases o with
    | lst ds => cases e; obtain ⟨xs, h1, h2⟩ := ro; exact ⟨a, xs, rfl, h1, h2⟩
    | dic ds => cases e; obtain ⟨xs, h1, h2⟩ := ro; exact .inl ⟨a, xs, rfl, h1, h2⟩
    | dit ds => cases e; obtain ⟨xs, h1, h2⟩ := ro; exact .inr ⟨a, xs, _, rfl, rfl, .inl h1, h2⟩
    | tab q P => cases e
    | ins C fs => cases e
    | obj C fs => cases e
    | los os => cases e
    | dpk es => cases e
section
variable {M : Mm} {H : Hp} {h : Hh} {v : V}
theorem rr_int {i : Int} (r : RR M H v (.int i)) : v = .int i := by cases (show RD M H v _ from r); rfl
theorem rr_str {i : Str} (r : RR M H v (.str i)) : v = .str i := by cases (show RD M H v _ from r); rfl
theorem rr_bl {i : Bool} (r : RR M H v (.bool i)) : v = .bl i := by cases (show RD M H v _ from r); rfl
theorem rr_non (r : RR M H v .none) : v = .non := by cases (show RD M H v _ from r); rfl
theorem rr_tup {ds : List D} (r : RR M H v (.tuple ds)) : ∃ a xs, v = .ref a ∧ ¬ M.Has a ∧ TupAt H a xs ds ∧ RDs M H xs ds := by
  cases (show RD M H v _ from r) with
  | tup n e q => exact ⟨_, _, rfl, n, e, q⟩
theorem RDs.get : ∀ {xs : List V} {ds : List D} {i : Nat} {d : D}, RDs M H xs ds → ds[i]? = some d → ∃ v, xs[i]? = some v ∧ RD M H v d
  | _, _, _, _, .nil, e => by simp at e
  | _, _, 0, _, .cons r _, e => by simp at e; subst e; exact ⟨_, rfl, r⟩
  | _, _, i + 1, _, .cons _ t, e => by
    obtain ⟨u, h1, h2⟩ := RDs.get (i := i) t (by simpa using e)
    exact ⟨u, by simpa using h1, h2⟩
theorem RDs.app : ∀ {xs : List V} {ds : List D} {ys : List V} {es : List D}, RDs M H xs ds → RDs M H ys es → RDs M H (xs ++ ys) (ds ++ es)
  | _, _, _, _, .nil, q => q
  | _, _, _, _, .cons r t, q => .cons r (RDs.app t q)
theorem RDs.take : ∀ {xs : List V} {ds : List D} (n : Nat), RDs M H xs ds → RDs M H (xs.take n) (ds.take n)
  | _, _, 0, _ => .nil
  | _, _, _ + 1, .nil => .nil
  | _, _, n + 1, .cons r t => .cons r (RDs.take n t)
theorem RDs.drop : ∀ {xs : List V} {ds : List D} (n : Nat), RDs M H xs ds → RDs M H (xs.drop n) (ds.drop n)
  | _, _, 0, r => r
  | _, _, _ + 1, .nil => .nil
  | _, _, n + 1, .cons _ t => RDs.drop n t
theorem RDs.set : ∀ {xs : List V} {ds : List D} (n : Nat) {v : V} {d : D}, RDs M H xs ds → RD M H v d → RDs M H (xs.set n v) (ds.set n d)
  | _, _, _, _, _, .nil, _ => .nil
  | _, _, 0, _, _, .cons r t, q => .cons q t
  | _, _, n + 1, _, _, .cons r t, q => .cons r (RDs.set n t q)
theorem RDs.erase : ∀ {xs : List V} {ds : List D} (n : Nat), RDs M H xs ds → RDs M H (xs.eraseIdx n) (ds.eraseIdx n)
  | _, _, _, .nil => .nil
  | _, _, 0, .cons r t => t
  | _, _, n + 1, .cons r t => .cons r (RDs.erase n t)
theorem RDs.rep {xs : List V} {ds : List D} (r : RDs M H xs ds) : ∀ k : Nat, RDs M H (List.replicate k xs).flatten (List.replicate k ds).flatten
  | 0 => .nil
  | k + 1 => by rw [List.replicate_succ, List.replicate_succ, List.flatten_cons, List.flatten_cons]; exact RDs.app r (RDs.rep r k)
theorem RDs.atI {xs : List V} {ds : List D} {i : Int} {d : D} (r : RDs M H xs ds) (e : L2.atI ds i = some d) : ∃ v, L2.atI xs i = some v ∧ RD M H v d := by
  unfold L2.atI at e ⊢
  rw [r.length]
  cases q : ixN ds.length i with
  | none => rw [q] at e; cases e
  | some j => rw [q] at e; exact r.get e
end
def mkL (m : Bool) (ds : List D) (h : Hh) : Option (W × Hh) := if m = true then some (.ref h.length, h ++ [some (.lst ds)]) else some (.dat (.list ds), h)
@[simp] theorem mkL_false (ds : List D) (h : Hh) : mkL false ds h = some (.dat (.list ds), h) := rfl
@[simp] theorem mkL_true (ds : List D) (h : Hh) : mkL true ds h = some (.ref h.length, h ++ [some (.lst ds)]) := rfl
theorem mkL_fin {m : Bool} {ds : List D} {h : Hh} {M : Mm} {H : Hp} {Q : VK} {p : Addr} {xs : List V} (rep : Rep M H h) (n : H p = none) (r : RDs M H xs ds) (c : Cont RV (mkL m ds h) M H Q) : Q (.ref p) (upd H p (.lst xs)) := by
  cases m with
  | false => exact c.fin (ext_new n) (rep.upd_new n) (RD.lst (rep.new n) upd_same (r.mono (ext_new n).ext))
  | true => exact c.fin (ext_add n) (rep.add n ⟨xs, upd_same, r.mono (ext_add n).ext⟩) ⟨p, by simp [Mm.more, ← rep.len], rfl⟩
theorem mkT_fin {ds : List D} {h : Hh} {M : Mm} {H : Hp} {Q : VK} {p : Addr} {xs : List V} (rep : Rep M H h) (n : H p = none) (r : RDs M H xs ds) (hd : callD ds = false) (c : Cont RV (some (.dat (.tuple ds), h)) M H Q) : Q (.ref p) (upd H p (.tup xs)) :=
  c.fin (ext_new n) (rep.upd_new n) (RD.tup (rep.new n) (.inl ⟨hd, upd_same⟩) (r.mono (ext_new n).ext))
def bareO (b : Bool) (o : Obj) (xs : List V) : HO := if b = true then .frz o (.tup xs) else .tup xs
theorem mkB_fin {ds : List D} {h : Hh} {M : Mm} {H : Hp} {Q : VK} {p : Addr} {xs : List V} {o : Obj} (rep : Rep M H h) (n : H p = none) (r : RDs M H xs ds) (ho : o.dict = none) (c : Cont RV (some (.dat (.tuple ds), h)) M H Q) : Q (.ref p) (upd H p (bareO (callD ds) o xs)) := by
  cases hd : callD ds with
  | false => exact mkT_fin rep n r hd c
  | true => exact c.fin (ext_new n) (rep.upd_new n) (RD.tup (rep.new n) (.inr ⟨hd, o, ho, upd_same⟩) (r.mono (ext_new n).ext))
theorem bare_ok {P : Program} {w : World} {H : Hp} {h' : Heap} {a : Addr} {xs : List V} {o : Obj} (b : Bool) (e : h'.get? a = some o) (ok : ∀ G, ObjOk P w G h' a (.tup xs)) : ObjOk P w H h' a (bareO b o xs) := by
  cases b with
  | false => exact ok _
  | true => exact ⟨e, ok _⟩
theorem Cont.here {d : D} {h : Hh} {M : Mm} {H : Hp} {Q : VK} {v : V} (c : Cont RV (some (.dat d, h)) M H Q) (rep : Rep M H h) (r : RD M H v d) : Q v H := c.fin (.refl _ _) rep r
theorem Cont.no {α β : Type} {rel : Mm → Hp → β → α → Prop} {M : Mm} {H : Hp} {Q : β → Hp → Prop} (c : Cont rel none M H Q) : False := by obtain ⟨_, _, e, _⟩ := c; cases e
def ok (d : D) (h : Hh) : Option (W × Hh) := some (.dat d, h)
def addW (m : Bool) (x y : W) (h : Hh) : Option (W × Hh) := match deref h x, deref h y with
  | some (.int i), some (.int j) => ok (.int (i + j)) h
  | some (.str a), some (.str b) => if a.length + b.length ≤ sizeLine then ok (.str (a ++ b)) h else none
  | some (.tuple a), some (.tuple b) => if a.length + b.length ≤ sizeLine then ok (.tuple (a ++ b)) h else none
  | some (.list a), some (.list b) => if a.length + b.length ≤ sizeLine then mkL m (a ++ b) h else none
  | _, _ => none
section
variable {X : Cx}
def rCatB (K : PySem.W.Frag) : R2 := fun x y H Q => ∃ a b vs ws, x = .ref a ∧ y = .ref b ∧ SqT K H a vs ∧ SqT K H b ws ∧ vs.length + ws.length ≤ sizeLine ∧
  (vs = [] → Q (.ref b) H) ∧ (vs ≠ [] → ws = [] → Q (.ref a) H) ∧ (vs ≠ [] → ws ≠ [] → ∃ bb : Bool, ∀ p o, H p = none → o.dict = none → Q (.ref p) (upd H p (bareO bb o (vs ++ ws))))
theorem op_catB : OpR X (binaryOp .Add) (rCatB X.K) := by
  rintro pins s σ H x y v u Q I rx ry ⟨a, b, vs, ws, rfl, rfl, ha, hb, hz, f0, f1, f2⟩
  by_cases e : vs = [] ∨ ws = []
  · exact op_catA pins s σ H _ _ v u Q I rx ry ⟨a, b, vs, ws, rfl, rfl, ha, hb, hz, f0, f1, fun n1 n2 => (e.elim n1 n2).elim⟩
  · have n1 : vs ≠ [] := fun z => e (.inl z)
    have n2 : ws ≠ [] := fun z => e (.inr z)
    obtain ⟨bb, f⟩ := f2 n1 n2
    cases rx
    cases ry
    obtain ⟨l1, r1, p1, _⟩ := I.tuple ha
    obtain ⟨l2, r2, p2, _⟩ := I.tuple hb
    apply HT.cat_tup p1 p2 (fun z => n1 (r1.nil_iff.mp z)) (fun z => absurd (r2.nil_iff.mp z) n2)
    · intro _
      refine ⟨.ref s.heap.objs.size, _, I.laid (t' := s.toks) (o := bareO bb _ (vs ++ ws)) (fun _ _ q => Heap.get?_push_of_some _ q) (Nat.le_refl _) (bare_ok bb (Heap.get?_push_size _ rfl) fun G => ⟨?_, _, r1.append r2, IsTup.new _ _⟩), rfl, f _ _ (I.hok.fresh (Nat.le_refl _)) rfl⟩
      rw [List.length_append]
      exact hz
    · rw [← r1.length, ← r2.length]
      exact hz
theorem s_add (m : Bool) : Sem2 (fun x y H Q => rI0 (fun i j => .int (i + j)) x y H Q ∨ (∃ i j, x = .str i ∧ y = .str j ∧ i.length + j.length ≤ sizeLine ∧ Q (.str (i ++ j)) H) ∨ rCatB X.K x y H Q ∨ rCat x y H Q) (addW m) := by
  intro M H h x y wx wy Q rep rx ry c
  unfold addW at c
  split at c
  · rename_i i j h1 h2
    obtain rfl := rr_int (deref_rr rep rx h1)
    obtain rfl := rr_int (deref_rr rep ry h2)
    exact .inl ⟨i, j, rfl, rfl, c.here rep (.int _)⟩
  · rename_i i j h1 h2
    obtain rfl := rr_str (deref_rr rep rx h1)
    obtain rfl := rr_str (deref_rr rep ry h2)
    split at c
    · rename_i hz
      exact .inr (.inl ⟨i, j, rfl, rfl, hz, c.here rep (.str _)⟩)
    · exact c.no.elim
  · rename_i i j h1 h2
    obtain ⟨a, xs, rfl, na, ha, qa⟩ := rr_tup (deref_rr rep rx h1)
    obtain ⟨b, ys, rfl, nb, hb, qb⟩ := rr_tup (deref_rr rep ry h2)
    split at c
    · rename_i hz
      refine .inr (.inr (.inl ⟨a, b, xs, ys, rfl, rfl, .inl ha.rd, .inl hb.rd, by rw [qa.length, qb.length]; exact hz, fun e => ?_, fun _ e => ?_, fun _ _ => ⟨callD (i ++ j), fun p o np ho => ?_⟩⟩))
      · subst e; cases qa
        exact c.here rep (.tup nb hb qb)
      · subst e; cases qb; rw [List.append_nil] at c
        exact c.here rep (.tup na ha qa)
      · exact mkB_fin rep np (qa.app qb) ho c
    · exact c.no.elim
  · rename_i i j h1 h2
    obtain ⟨a, xs, rfl, ha, qa⟩ := deref_rr rep rx h1
    obtain ⟨b, ys, rfl, hb, qb⟩ := deref_rr rep ry h2
    split at c
    · rename_i hz
      exact .inr (.inr (.inr ⟨a, b, xs, ys, rfl, rfl, ha, hb, by rw [qa.length, qb.length]; exact hz, fun p np => mkL_fin rep np (qa.app qb) c⟩))
    · exact c.no.elim
  · exact c.no.elim
theorem d_add (m : Bool) {a b : Expr} {pos : Pos} {f g : EM} (ha : DE X a f) (hb : DE X b g) : DE X (.BinOp a .Add b pos) (f2 (addW m) f g) :=
  d_op (op_add.or (op_add_str.or (op_catB.or op_cat))) (s_add m) ha hb
def intW (C : Int → Int → Bool) (g : Int → Int → Int) (x y : W) (h : Hh) : Option (W × Hh) := match deref h x, deref h y with
  | some (.int i), some (.int j) => if C i j = true then ok (.int (g i j)) h else none
  | _, _ => none
theorem s_int {C : Int → Int → Prop} {Cb : Int → Int → Bool} {g : Int → Int → Int} (hc : ∀ i j, Cb i j = true → C i j) : Sem2 (rI C fun i j => .int (g i j)) (intW Cb g) := by
  intro M H h x y wx wy Q rep rx ry c
  unfold intW at c
  split at c
  · rename_i i j h1 h2
    obtain rfl := rr_int (deref_rr rep rx h1)
    obtain rfl := rr_int (deref_rr rep ry h2)
    split at c
    · rename_i hz
      exact ⟨i, j, rfl, rfl, hc i j hz, c.here rep (.int _)⟩
    · exact c.no.elim
  · exact c.no.elim
theorem op_subC : OpR X (binaryOp .Sub) (rI (fun _ _ => True) fun i j => .int (i - j)) := fun pins s σ H x y v u Q I rx ry ⟨i, j, e1, e2, _, q⟩ => op_sub pins s σ H x y v u Q I rx ry ⟨i, j, e1, e2, q⟩
def subW := intW (fun _ _ => true) fun i j => i - j
theorem d_sub {a b : Expr} {pos : Pos} {f g : EM} (ha : DE X a f) (hb : DE X b g) : DE X (.BinOp a .Sub b pos) (f2 subW f g) := d_op op_subC (s_int fun _ _ _ => trivial) ha hb
def modW := intW (fun _ j => decide (0 < j)) fun i j => i % j
theorem d_mod {a b : Expr} {pos : Pos} {f g : EM} (ha : DE X a f) (hb : DE X b g) : DE X (.BinOp a .Mod b pos) (f2 modW f g) := d_op op_mod (s_int fun _ _ h => of_decide_eq_true h) ha hb
def divW := intW (fun _ j => decide (0 < j ∧ j < 1073741824)) fun i j => i / j
theorem d_div {a b : Expr} {pos : Pos} {f g : EM} (ha : DE X a f) (hb : DE X b g) : DE X (.BinOp a .FloorDiv b pos) (f2 divW f g) := d_op op_fdiv (s_int fun _ _ h => by simpa [CDiv] using h) ha hb
def powW := intW (fun i j => decide (0 ≤ j ∧ j ≤ 1000000 ∧ i.natAbs < 18446744073709551616)) fun i j => i ^ j.toNat
theorem d_pow {a b : Expr} {pos : Pos} {f g : EM} (ha : DE X a f) (hb : DE X b g) : DE X (.BinOp a .Pow b pos) (f2 powW f g) := d_op op_pow (s_int fun _ _ h => by simpa [CPow] using h) ha hb
def mulW (m : Bool) (x y : W) (h : Hh) : Option (W × Hh) := match deref h x, deref h y with
  | some (.int i), some (.int j) => if ((-18446744073709551616 < i && i < 18446744073709551616) || (-18446744073709551616 < j && j < 18446744073709551616)) = true then ok (.int (i * j)) h else none
  | some (.list a), some (.int k) => if (0 ≤ k && k < 1000000 && a.length * k.toNat ≤ sizeLine) = true then mkL m (List.replicate k.toNat a).flatten h else none
  | _, _ => none
theorem s_mul (m : Bool) : Sem2 (fun x y H Q => rI CMul (fun i j => .int (i * j)) x y H Q ∨ rRep x y H Q) (mulW m) := by
  intro M H h x y wx wy Q rep rx ry c
  unfold mulW at c
  split at c
  · rename_i i j h1 h2
    obtain rfl := rr_int (deref_rr rep rx h1)
    obtain rfl := rr_int (deref_rr rep ry h2)
    split at c
    · rename_i hz
      refine .inl ⟨i, j, rfl, rfl, ?_, c.here rep (.int _)⟩
      simpa [CMul] using hz
    · exact c.no.elim
  · rename_i i j h1 h2
    obtain ⟨a, xs, rfl, ha, qa⟩ := deref_rr rep rx h1
    obtain rfl := rr_int (deref_rr rep ry h2)
    split at c
    · rename_i hz
      simp only [Bool.and_eq_true, decide_eq_true_eq] at hz
      refine .inr ⟨a, j, xs, rfl, rfl, ha, by omega, by omega, by rw [qa.length]; exact hz.2, fun p np => mkL_fin rep np (qa.rep _) c⟩
    · exact c.no.elim
  · exact c.no.elim
theorem d_mul (m : Bool) {a b : Expr} {pos : Pos} {f g : EM} (ha : DE X a f) (hb : DE X b g) : DE X (.BinOp a .Mult b pos) (f2 (mulW m) f g) := d_op (op_mul.or op_rep) (s_mul m) ha hb
def fNeg (f : EM) : EM := fun ρ h => obnd (f ρ h) fun w h1 => match w with
  | .dat (.int i) => ok (.int (-i)) h1
  | _ => none
def bok (b : Bool) (h : Hh) : Option (W × Hh) := some (.dat (.bool b), h)
def ltW (g : Int → Int → Bool) (k : List Nat → List Nat → Bool) (x y : W) (h : Hh) : Option (W × Hh) := match deref h x, deref h y with
  | some (.int i), some (.int j) => bok (g i j) h
  | some (.str i), some (.str j) => bok (k i.cps.toList j.cps.toList) h
  | _, _ => none
theorem s_lt {g : Int → Int → Bool} {k : List Nat → List Nat → Bool} : Sem2 (fun x y H Q => rI0 (fun i j => .bl (g i j)) x y H Q ∨ ∃ i j, x = .str i ∧ y = .str j ∧ Q (.bl (k i.cps.toList j.cps.toList)) H) (ltW g k) := by
  intro M H h x y wx wy Q rep rx ry c
  unfold ltW at c
  split at c
  · rename_i i j h1 h2
    obtain rfl := rr_int (deref_rr rep rx h1)
    obtain rfl := rr_int (deref_rr rep ry h2)
    exact .inl ⟨i, j, rfl, rfl, c.here rep (.bl _)⟩
  · rename_i i j h1 h2
    obtain rfl := rr_str (deref_rr rep rx h1)
    obtain rfl := rr_str (deref_rr rep ry h2)
    exact .inr ⟨i, j, rfl, rfl, c.here rep (.bl _)⟩
  · exact c.no.elim
def lt_W := ltW (fun i j => decide (i < j)) fun i j => decide (i < j)
def gt_W := ltW (fun i j => decide (j < i)) fun i j => decide (j < i)
def le_W := ltW (fun i j => decide (i ≤ j)) fun i j => !decide (j < i)
def ge_W := ltW (fun i j => decide (j ≤ i)) fun i j => !decide (i < j)
theorem d_ge {a b : Expr} {pos : Pos} {f g : EM} (ha : DE X a f) (hb : DE X b g) : DE X (.Compare a [.GtE] [b] pos) (f2 ge_W f g) := d_cmp (op_ge.or op_ge_str) s_lt ha hb (nomark _)
end
mutual
theorem RD.dp {K : PySem.W.Frag} {M : Mm} {H : Hp} : ∀ {v : V} {d : D}, RD M H v d → d.canLay0 = true → Dp K H v d
  | _, _, .non, _ => .non
  | _, _, .bl b, _ => .bl b
  | _, _, .int i, _ => .int i
  | _, _, .str x, _ => .str x
  | _, _, .tup _ e r, h => .tup e.sq (RDs.dp r (by simpa [PyData.canLay0] using h))
  | _, _, .lst _ e r, h => .lst (.of e) (RDs.dp r (by simpa [PyData.canLay0] using h))
  | _, _, .dic _ _ _, h => by simp [PyData.canLay0] at h
  | _, _, .dit _ _ _, h => by simp [PyData.canLay0] at h
theorem RDs.dp {K : PySem.W.Frag} {M : Mm} {H : Hp} : ∀ {v : List V} {d : List D}, RDs M H v d → PyData.canLayAll0 d = true → DpAll K H v d
  | _, _, .nil, _ => .nil
  | _, _, .cons a r, h => by
    simp only [PyData.canLayAll0, Bool.and_eq_true] at h
    exact .cons (RD.dp a h.1) (RDs.dp r h.2)
end
theorem rr_dp {K : PySem.W.Frag} {M : Mm} {H : Hp} {v : V} : ∀ {d : D}, RR M H v d → d.canLay0 = true → Dp K H v d
  | .none, r, h => RD.dp r h
  | .bool _, r, h => RD.dp r h
  | .int _, r, h => RD.dp r h
  | .str _, r, h => RD.dp r h
  | .tuple _, r, h => RD.dp r h
  | .list _, ⟨_, _, e, h1, h2⟩, h => by subst e; exact .lst (.of h1) (h2.dp (by simpa [PyData.canLay0] using h))
  | .dict _, _, h => by simp [PyData.canLay0] at h
def eqS : D → D → Option Bool
  | .int i, .int j => some (decide (i = j))
  | .str i, .str j => some (decide (i = j))
  | .bool i, .bool j => some (decide (i = j))
  | .none, .none => some true
  | .none, .int _ => some false
  | .none, .str _ => some false
  | .none, .bool _ => some false
  | .int _, .none => some false
  | .str _, .none => some false
  | .bool _, .none => some false
  | .int _, .str _ => some false
  | .str _, .int _ => some false
  | .bool _, .str _ => some false
  | .str _, .bool _ => some false
  | _, _ => none
theorem eqS_ok {M : Mm} {H : Hp} {x y : V} {a b : D} {r : Bool} (ra : RR M H x a) (rb : RR M H y b) (e : eqS a b = some r) : scal x y = true ∧ r = decide (x = y) := by
  cases a <;> cases b <;> simp only [eqS, Option.some.injEq, reduceCtorEq] at e <;> subst e <;> cases (show RD M H x _ from ra) <;> cases (show RD M H y _ from rb) <;> simp [scal]
def shp (d : D) : Bool := d.canLay0 && decide (d.depth ≤ 64)
def eqW (neg : Bool) (x y : W) (h : Hh) : Option (W × Hh) := match deref h x, deref h y with
  | some a, some b => match eqS a b with
    | some r => bok (if neg = true then !r else r) h
    | none => if shp a && shp b then bok (if neg = true then !PyData.eqv a b else PyData.eqv a b) h else none
  | _, _ => none
section
variable {X : Cx}
theorem s_eq : Sem2 (fun x y H Q => rEq x y H Q ∨ rEqD X.K x y H Q) (eqW false) := by
  intro M H h x y wx wy Q rep rx ry c
  unfold eqW at c
  split at c
  · rename_i a b h1 h2
    have ra := deref_rr rep rx h1
    have rb := deref_rr rep ry h2
    split at c
    · rename_i r e
      obtain ⟨e1, e2⟩ := eqS_ok ra rb e
      subst e2
      exact .inl ⟨e1, c.here rep (.bl _)⟩
    · split at c
      · rename_i hz
        rw [Bool.and_eq_true] at hz
        exact .inr ⟨a, b, rr_dp ra (SeqAt.canLay_of_shaped hz.1), rr_dp rb (SeqAt.canLay_of_shaped hz.2), hz.1, hz.2, c.here rep (.bl _)⟩
      · exact c.no.elim
  · exact c.no.elim
theorem s_ne : Sem2 (fun x y H Q => rNe x y H Q ∨ rNeD X.K x y H Q) (eqW true) := by
  intro M H h x y wx wy Q rep rx ry c
  unfold eqW at c
  split at c
  · rename_i a b h1 h2
    have ra := deref_rr rep rx h1
    have rb := deref_rr rep ry h2
    split at c
    · rename_i r e
      obtain ⟨e1, e2⟩ := eqS_ok ra rb e
      subst e2
      exact .inl ⟨e1, c.here rep (.bl _)⟩
    · split at c
      · rename_i hz
        rw [Bool.and_eq_true] at hz
        exact .inr ⟨a, b, rr_dp ra (SeqAt.canLay_of_shaped hz.1), rr_dp rb (SeqAt.canLay_of_shaped hz.2), hz.1, hz.2, c.here rep (.bl _)⟩
      · exact c.no.elim
  · exact c.no.elim
theorem d_eq {k : Nat} (hr : Room k X.A) {a b : Expr} {pos : Pos} {f g : EM} (ha : DE X a f) (hb : DE X b g) : DE X (.Compare a [.Eq] [b] pos) (f2 (eqW false) f g) := d_cmp (op_eq.or (op_eqD hr.units)) s_eq ha hb (nomark _)
def isW (neg : Bool) (x y : W) (h : Hh) : Option (W × Hh) := match x, y with
  | .dat (.bool a), .dat (.bool b) => bok (if neg = true then !decide (a = b) else decide (a = b)) h
  | .dat .none, .dat .none => bok (!neg) h
  | _, .dat .none => bok neg h
  | _, _ => none
theorem rv_non {M : Mm} {H : Hp} {w : W} (r : RV M H .non w) : w = .dat .none := by
  cases w with
  | dat d => cases (show RD M H _ d from r); rfl
  | ref n => obtain ⟨_, _, e⟩ := r; cases e
  | scr n => obtain ⟨_, _, e, _⟩ := r; cases e
  | pack its => obtain ⟨_, _, e, _⟩ := r; cases e
  | lock its => obtain ⟨_, _, _, e, _⟩ := r; cases e
  | ins C fs => obtain ⟨_, _, _, e, _⟩ := r; cases e
  | exc k C fs => obtain ⟨_, _, _, e, _⟩ := r; cases e
  | objs os => obtain ⟨_, _, e, _⟩ := r; cases e
  | tpk its => obtain ⟨_, _, e, _⟩ := r; cases e
theorem s_is : Sem2 (fun x y H Q => (y = .non ∧ Q (.bl (decide (x = .non))) H) ∨ ∃ a b, x = .bl a ∧ y = .bl b ∧ Q (.bl (decide (a = b))) H) (isW false) := by
  intro M H h x y wx wy Q rep rx ry c
  unfold isW at c
  split at c
  · cases (show RD M H _ _ from rx); cases (show RD M H _ _ from ry)
    exact .inr ⟨_, _, rfl, rfl, c.here rep (.bl _)⟩
  · cases (show RD M H _ _ from rx); cases (show RD M H _ _ from ry)
    exact .inl ⟨rfl, c.here rep (.bl _)⟩
  · rename_i hn
    cases (show RD M H _ _ from ry)
    refine .inl ⟨rfl, ?_⟩
    have e : decide (x = V.non) = false := decide_eq_false fun z => by subst z; exact hn (rv_non rx)
    rw [e]
    exact c.here rep (.bl _)
  · exact c.no.elim
def fB (f : EM) : BM := fun ρ h => obnd (f ρ h) fun w h1 => match w with
  | .dat (.bool b) => some (b, h1)
  | _ => none
theorem test_imp {f : EM} : ∀ σ H Q, tT (fB f) σ H Q → tTest (tE f) σ H Q := fun σ H Q => by
  rintro ⟨M, h, ρ, r, rs, c⟩
  obtain ⟨w, h1, e1, c1⟩ := Cont.bind (δ := Unit) c
  refine ⟨M, h, ρ, r, rs, w, h1, e1, fun M1 H1 v x1 r1 v1 => ?_⟩
  have c2 := c1 M1 H1 x1
  split at c2
  · cases v1; exact ⟨_, rfl, c2.fin (.refl _ _) r1 rfl⟩
  · exact c2.no.elim
theorem dt_val {e : Expr} {f : EM} (h : DE X e f) (he : ∀ whole, isTrue e X.env whole = (do let v ← whole; standAt e.pos; holding [v] (truthy v)) := by intro _; rfl) : DT X e (fB f) := (pt_val h he).weak test_imp
theorem dt_of_cmp {a b : Expr} {op : CmpOp} {pos : Pos} {r : R2} {sem : W → W → Hh → Option (W × Hh)} {f g : EM} (ho : OpR X (compareOp op) r) (hs : Sem2 r sem) (ha : DE X a f) (hb : DE X b g) (hm : behindInMarks op b = false) : DT X (.Compare a [op] [b] pos) (fB (f2 sem f g)) :=
  (pt_cmpR ho ha hb hm).weak fun σ H Q q => by
    obtain ⟨M, h, ρ, r, rs, c⟩ := q
    obtain ⟨w, h1, e1, c1⟩ := Cont.bind (δ := Unit) c
    refine op_imp hs σ H _ ⟨M, h, ρ, r, rs, w, h1, e1, fun M1 H1 v x1 r1 v1 => ?_⟩
    have c2 := c1 M1 H1 x1
    split at c2
    · cases v1; exact ⟨_, rfl, c2.fin (.refl _ _) r1 rfl⟩
    · exact c2.no.elim
theorem t_lt {a b : Expr} {pos : Pos} {f g : EM} (ha : DE X a f) (hb : DE X b g) : DT X (.Compare a [.Lt] [b] pos) (fB (f2 lt_W f g)) := dt_of_cmp (op_lt.or op_lt_str) s_lt ha hb (nomark _)
theorem t_gt {a b : Expr} {pos : Pos} {f g : EM} (ha : DE X a f) (hb : DE X b g) : DT X (.Compare a [.Gt] [b] pos) (fB (f2 gt_W f g)) := dt_of_cmp (op_gt.or op_gt_str) s_lt ha hb (nomark _)
theorem t_eq {k : Nat} (hr : Room k X.A) {a b : Expr} {pos : Pos} {f g : EM} (ha : DE X a f) (hb : DE X b g) : DT X (.Compare a [.Eq] [b] pos) (fB (f2 (eqW false) f g)) := dt_of_cmp (op_eq.or (op_eqD hr.units)) s_eq ha hb (nomark _)
theorem t_ne {k : Nat} (hr : Room k X.A) {a b : Expr} {pos : Pos} {f g : EM} (ha : DE X a f) (hb : DE X b g) : DT X (.Compare a [.NotEq] [b] pos) (fB (f2 (eqW true) f g)) := dt_of_cmp (op_ne.or (op_neD hr.units)) s_ne ha hb (nomark _)
theorem t_is {a b : Expr} {pos : Pos} {f g : EM} (ha : DE X a f) (hb : DE X b g) : DT X (.Compare a [.Is] [b] pos) (fB (f2 (isW false) f g)) := dt_of_cmp (op_isN.or op_is_bl) s_is ha hb (nomark _)
def bAnd (f g : BM) : BM := fun ρ h => obnd (f ρ h) fun b h1 => if b = true then g ρ h1 else some (false, h1)
def bOr (f g : BM) : BM := fun ρ h => obnd (f ρ h) fun b h1 => if b = true then some (true, h1) else g ρ h1
def bNot (f : BM) : BM := fun ρ h => obnd (f ρ h) fun b h1 => some (!b, h1)
abbrev DW (X : Cx) (e : Expr) (f : BM) : Prop := PW X e (tT f)
theorem _root_.L2.PW.weak {X : Cx} {e : Expr} {t t' : TT} (h : PW X e t) (i : ∀ σ H Q, t' σ H Q → t σ H Q) : PW X e t' := ⟨fun wh pins s σ H Q I q => h.run wh pins s σ H Q I (i σ H Q q)⟩
theorem dw_or1 {a : Expr} {pos : Pos} {f : BM} (ha : DT X a f) : DW X (.BoolOp .Or [a] pos) f := pw_or1 ha
theorem dw_or {a b : Expr} {rest : List Expr} {pos : Pos} {f g : BM} (ha : DT X a f) (hb : DW X (.BoolOp .Or (b :: rest) pos) g) : DW X (.BoolOp .Or (a :: b :: rest) pos) (bOr f g) := (pw_or ha hb).weak fun σ H Q => by
  rintro ⟨M, h, ρ, r, rs, c⟩
  obtain ⟨w, h1, e1, c1⟩ := Cont.bind (δ := Unit) c
  refine ⟨M, h, ρ, r, rs, w, h1, e1, fun M1 H1 v x1 r1 v1 => ?_⟩
  subst v1
  have c2 := c1 M1 H1 x1
  cases v with
  | true => exact iteT (c2.fin (.refl _ _) r1 rfl)
  | false => exact iteF ⟨M1, h1, ρ, r1, rs.mono x1, c2⟩
theorem dt_not {a : Expr} {pos : Pos} {f : BM} (ha : DT X a f) : DT X (.UnaryOp .Not a pos) (bNot f) := (pt_not ha).weak fun σ H Q => by
  rintro ⟨M, h, ρ, r, rs, c⟩
  obtain ⟨w, h1, e1, c1⟩ := Cont.bind (δ := Unit) c
  refine ⟨M, h, ρ, r, rs, w, h1, e1, fun M1 H1 v x1 r1 v1 => ?_⟩
  subst v1
  exact (c1 M1 H1 x1).fin (.refl _ _) r1 rfl
def fAnd (f g : EM) : EM := fun ρ h => obnd (f ρ h) fun w h1 => match w with
  | .dat (.bool true) => g ρ h1
  | .dat (.bool false) => bok false h1
  | _ => none
def fOr (f g : EM) : EM := fun ρ h => obnd (f ρ h) fun w h1 => match w with
  | .dat (.bool true) => bok true h1
  | .dat (.bool false) => g ρ h1
  | _ => none
def fNot (f : EM) : EM := fun ρ h => obnd (f ρ h) fun w h1 => match w with
  | .dat (.bool b) => bok (!b) h1
  | _ => none
theorem d_one {op} {a : Expr} {pos : Pos} {f : EM} (ha : DE X a f) : DE X (.BoolOp op [a] pos) f := pe_one ha
theorem d_and {a b : Expr} {rest : List Expr} {pos : Pos} {f g : EM} (ha : DE X a f) (hb : DE X (.BoolOp .And (b :: rest) pos) g) : DE X (.BoolOp .And (a :: b :: rest) pos) (fAnd f g) := (pe_and ha hb).weak fun σ H Q => by
  rintro ⟨M, h, ρ, r, rs, c⟩
  obtain ⟨w, h1, e1, c1⟩ := Cont.bind (δ := Unit) c
  refine ⟨M, h, ρ, r, rs, w, h1, e1, fun M1 H1 v x1 r1 v1 => ?_⟩
  have c2 := c1 M1 H1 x1
  split at c2
  · cases v1; exact ⟨true, rfl, iteT ⟨M1, h1, ρ, r1, rs.mono x1, c2⟩⟩
  · cases v1; exact ⟨false, rfl, iteF (c2.here r1 (.bl _))⟩
  · exact c2.no.elim
def fIf (t : BM) (f g : EM) : EM := fun ρ h => obnd (t ρ h) fun b h1 => if b = true then f ρ h1 else g ρ h1
theorem d_if {c a b : Expr} {pos : Pos} {t : BM} {f g : EM} (hc : DT X c t) (ha : DE X a f) (hb : DE X b g) : DE X (.IfExp c a b pos) (fIf t f g) := (pe_ifExp hc ha hb).weak fun σ H Q => by
  rintro ⟨M, h, ρ, r, rs, c⟩
  obtain ⟨w, h1, e1, c1⟩ := Cont.bind (δ := Unit) c
  refine ⟨M, h, ρ, r, rs, w, h1, e1, fun M1 H1 v x1 r1 v1 => ?_⟩
  subst v1
  have c2 := c1 M1 H1 x1
  cases v with
  | true => exact iteT ⟨M1, h1, ρ, r1, rs.mono x1, c2⟩
  | false => exact iteF ⟨M1, h1, ρ, r1, rs.mono x1, c2⟩
def fChain (s1 s2 : W → W → Hh → Option (W × Hh)) (f g k : EM) : EM := fun ρ h => obnd (f ρ h) fun a h1 => obnd (g ρ h1) fun b h2 => obnd (s1 a b h2) fun z h3 => match z with
  | .dat (.bool true) => obnd (k ρ h3) fun d h4 => s2 b d h4
  | .dat (.bool false) => bok false h3
  | _ => none
theorem chain_imp {r1 r2 : R2} {s1 s2 : W → W → Hh → Option (W × Hh)} {f g k : EM} (hs1 : Sem2 r1 s1) (hs2 : Sem2 r2 s2) : ∀ σ H Q, tE (fChain s1 s2 f g k) σ H Q → tChain r1 r2 (tE f) (tE g) (tE k) σ H Q := fun σ H Q => by
  rintro ⟨M, h, ρ, r, rs, c⟩
  obtain ⟨w, h1, e1, c1⟩ := Cont.bind (δ := Unit) c
  refine ⟨M, h, ρ, r, rs, w, h1, e1, fun M1 H1 v x1 r1 v1 => ⟨M1, h1, ρ, r1, rs.mono x1, ?_⟩⟩
  obtain ⟨w2, h2, e2, c2⟩ := Cont.bind (δ := Unit) (c1 M1 H1 x1)
  refine ⟨w2, h2, e2, fun M2 H2 v2 x2 r2 q2 => hs1 M2 H2 h2 _ _ w w2 _ r2 (v1.mono x2) q2 ?_⟩
  obtain ⟨w3, h3, e3, c3⟩ := Cont.bind (δ := Unit) (c2 M2 H2 x2)
  refine ⟨w3, h3, e3, fun M3 H3 v3 x3 r3 q3 => ?_⟩
  have c4 := c3 M3 H3 x3
  split at c4
  · cases q3
    refine ⟨true, rfl, iteT ⟨M3, h3, ρ, r3, ((rs.mono x1).mono x2).mono x3, ?_⟩⟩
    obtain ⟨w5, h5, e5, c5⟩ := Cont.bind (δ := Unit) c4
    exact ⟨w5, h5, e5, fun M5 H5 v5 x5 r5 q5 => hs2 M5 H5 h5 _ _ w2 w5 _ r5 ((q2.mono x3).mono x5) q5 (c5 M5 H5 x5)⟩
  · cases q3
    exact ⟨false, rfl, iteF (c4.here r3 (.bl _))⟩
  · exact c4.no.elim
theorem t_chain {a b c : Expr} {op op' : CmpOp} {pos : Pos} {r1 r2 : R2} {s1 s2 : W → W → Hh → Option (W × Hh)} {f g k : EM} (h1 : OpR X (compareOp op) r1) (hs1 : Sem2 r1 s1) (h2 : OpR X (compareOp op') r2) (hs2 : Sem2 r2 s2) (ha : DE X a f) (hb : DE X b g) (hc : DE X c k)
    (hm : lastMarks [op, op'] [b, c] = false := by with_unfolding_all rfl) : DT X (.Compare a [op, op'] [b, c] pos) (fB (fChain s1 s2 f g k)) := (pt_chain h1 h2 ha hb hc hm).weak fun σ H Q q => by
    obtain ⟨M, h, ρ, r, rs, c⟩ := q
    obtain ⟨w, h1, e1, c1⟩ := Cont.bind (δ := Unit) c
    refine chain_imp hs1 hs2 σ H _ ⟨M, h, ρ, r, rs, w, h1, e1, fun M1 H1 v x1 r1 v1 => ?_⟩
    have c2 := c1 M1 H1 x1
    split at c2
    · cases v1; exact ⟨_, rfl, c2.fin (.refl _ _) r1 rfl⟩
    · exact c2.no.elim
end
end DL
set_option maxRecDepth 100000
set_option maxHeartbeats 4000000
namespace DL
open PySem PySem.Spec PyProof.Rows L2
variable [HW]
def dKey : D → Option Key
  | .int i => some (.inl i)
  | .str s => some (.inr s)
  | _ => none
def dKeys : List D → Option (List Key)
  | [] => some []
  | d :: ds => match dKey d, dKeys ds with
    | some k, some ks => some (k :: ks)
    | _, _ => none
def tKey : D → Option (List Key)
  | .tuple ds => dKeys ds
  | _ => none
def getK (es : List (D × D)) (k : Key) : Option D := (es.find? fun e => decide (dKey e.1 = some k)).map (·.2)
def getT (es : List (D × D)) (k : List Key) : Option D := (es.find? fun e => decide (tKey e.1 = some k)).map (·.2)
def isT : List (D × D) → Bool
  | (.none, .none) :: _ => true
  | _ => false
def bareK : D → Bool
  | .tuple ds => pairD ds
  | _ => false
def getD (es : List (D × D)) (k : D) : Option (Option D) := if isT es = true then (if bareK k = true then none else (tKey k).map (getT es.tail)) else (dKey k).map (getK es)
theorem dKey_kP (k : Key) : dKey (kP k) = some k := by cases k <;> rfl
theorem dKeys_kP : ∀ ks : List Key, dKeys (ks.map kP) = some ks
  | [] => rfl
  | k :: ks => by simp only [List.map_cons, dKeys, dKey_kP, dKeys_kP ks]
theorem kP_dKey {d : D} {k : Key} (e : dKey d = some k) : d = kP k := by
  cases d <;> simp only [dKey, Option.some.injEq, reduceCtorEq] at e <;> subst e <;> rfl
theorem kP_dKeys : ∀ {ds : List D} {ks : List Key}, dKeys ds = some ks → ds = ks.map kP
  | [], ks, e => by cases e; rfl
  | d :: ds, ks, e => by
    simp only [dKeys] at e
    split at e
    · rename_i k ks' h1 h2
      cases e
      rw [List.map_cons, ← kP_dKey h1, ← kP_dKeys h2]
    · cases e
section
variable {M : Mm} {H : Hp}
theorem rd_kP {v : V} {k : Key} (r : RD M H v (kP k)) : v = kV k := by
  cases k <;> (cases r; rfl)
theorem rds_kP : ∀ {vs : List V} {ks : List Key}, RDs M H vs (ks.map kP) → vs = ks.map kV
  | _, [], r => by cases r; rfl
  | _, k :: ks, r => by
    cases r with
    | cons a t => rw [List.map_cons, ← rd_kP a, ← rds_kP t]
def RDo (M : Mm) (H : Hp) : Option V → Option D → Prop
  | some v, some d => RD M H v d
  | none, none => True
  | _, _ => False
theorem RDk.val (k : Key) : ∀ {kvs : List (Key × V)} {es : List (D × D)}, RDk M H kvs es → RDo M H (valV kvs k) (getK es k)
  | _, _, .nil => trivial
  | _, _, .cons (k := j) r t => by
    by_cases e : j = k
    · subst e
      rw [valV_pos rfl]
      unfold getK
      simp only [List.find?_cons, dKey_kP, decide_true, Option.map_some]
      exact r
    · rw [valV_neg e]
      have ih := RDk.val k t
      unfold getK at ih ⊢
      simp only [List.find?_cons, dKey_kP, Option.some.injEq, e, decide_false]
      exact ih
theorem RDt.val (k : List Key) : ∀ {kvs : List KA} {es : List (D × D)}, RDt M H kvs es → RDo M H (valA kvs k) (getT es k)
  | _, _, .nil => trivial
  | _, _, .cons (k := j) _ _ r t => by
    have ih := RDt.val k t
    unfold getT valA atA at ih ⊢
    by_cases e : j = k
    · subst e
      simp only [List.find?_cons, tKey, dKeys_kP, decide_true, Option.map_some]
      exact r
    · simp only [List.find?_cons, tKey, dKeys_kP, Option.some.injEq, e, decide_false]
      exact ih
theorem isT_rdk : ∀ {kvs : List (Key × V)} {es : List (D × D)}, RDk M H kvs es → isT es = false
  | _, _, .nil => rfl
  | _, _, .cons (k := k) r t => by cases k <;> rfl
theorem get_ok {x y : V} {es : List (D × D)} {k : D} {o : Option D} (rx : RR M H x (.dict es)) (ry : RD M H y k) (e : getD es k = some o) : ∃ a ov, x = .ref a ∧ DGetX H a y ov ∧ RDo M H ov o := by
  rcases rx with ⟨a, kvs, rfl, ha, r⟩ | ⟨a, kvs, es', rfl, rfl, ha, r⟩
  · unfold getD at e
    rw [isT_rdk r] at e
    simp only [Bool.false_eq_true, if_false, Option.map_eq_some_iff] at e
    obtain ⟨k', e1, e2⟩ := e
    have := kP_dKey e1
    subst this
    rw [rd_kP ry]
    exact ⟨a, _, rfl, .inl (DGet.k ha), e2 ▸ r.val k'⟩
  · unfold getD at e
    simp only [isT, if_true] at e
    split at e
    · cases e
    simp only [Option.map_eq_some_iff, List.tail_cons] at e
    obtain ⟨k', e1, e2⟩ := e
    cases k with
    | tuple ds =>
      have := kP_dKeys (show dKeys ds = some k' from e1)
      subst this
      cases ry with
      | tup _ hb rb =>
        rw [rds_kP rb] at hb
        exact ⟨a, _, rfl, .inr ⟨_, _, _, ha, r.kx, rfl, hb.rd, rfl⟩, e2 ▸ r.val k'⟩
    | _ => cases e1
end
def idxW (x y : W) (h : Hh) : Option (W × Hh) := match x, y with
  | .scr ns, .dat (.int i) => match atI ns i with
    | some n => ok (.int n) h
    | none => none
  | x, .dat k => match deref h x, k with
    | some (.list ds), .int i => match atI ds i with
      | some d => ok d h
      | none => none
    | some (.tuple ds), .int i => match atI ds i with
      | some d => ok d h
      | none => none
    | some (.str z), .int i => if z.length ≤ sizeLine then match atI z.cps.toList i with
        | some c => ok (.str ⟨#[c]⟩) h
        | none => none
      else none
    | some (.dict es), k => match getD es k with
      | some (some d) => ok d h
      | _ => none
    | _, _ => none
  | _, _ => none
section
variable {X : Cx}
def rIxDict : R2 := fun x y H Q => ∃ a v, x = .ref a ∧ DGetX H a y (some v) ∧ Q v H
theorem ix_dict (hu : X.A.units + 1 < cLine) (W : HWX X) : IxR X rIxDict := by
  intro value slice pins s σ H x y v u Q I rx ry q hs
  obtain ⟨a, z, rfl, g, q⟩ := q
  obtain rfl : v = Value.ref a := rx
  have tis := dx_typeIs W I g
  unfold subscriptTail
  refine wpAny_bind ?_
  rw [getitemInPython_of_ne tis.not_modules]
  refine wpAny_bind (wpAny_specialOf tis F.slot_dict_getitem.lookup ?_)
  have gi := dx_getItem (A := X.A) (E := X.xe) hu W I g ry fun w' s3 I3 rw' => (⟨z, H, I3, rw', q⟩ : EP X pins σ Q w' s3)
  have done : wpAny (model X.prog X.w) X.A (subscripted slice false (.ref a) u) (fun r s₃ => wpAny (model X.prog X.w) X.A (letTemporaryGo value (.ref a) r >>= fun _ => pure r) (EP X pins σ Q) X.xe s₃) X.xe s := by
    rw [hs]; exact wpAny_operating (wpAny_mono gi (fun r s₃ k => wpAny_bind (wpAny_letTemporaryGo (wpAny_pure k))) fun _ _ k => k)
  first | exact wpAny_pure (wpAny_bind done) | exact wpAny_bind (wpAny_pure (wpAny_bind done)) | exact wpAny_bind done
theorem scr_atI {ns : List Int} {i : Int} {n : Int} (e : atI ns i = some n) : atI (ns.map V.int) i = some (.int n) := by
  unfold atI at e ⊢
  rw [List.length_map]
  cases q : ixN ns.length i with
  | none => rw [q] at e; cases e
  | some j => rw [q] at e; simp only [Option.bind_some] at e ⊢; rw [List.getElem?_map, e]; rfl
theorem s_idx : Sem2 (fun x y H Q => rIx X.K x y H Q ∨ rIxDict x y H Q) idxW := by
  intro M H h x y wx wy Q rep rx ry c
  unfold idxW at c
  split at c
  · rename_i ns i
    obtain ⟨a, o, rfl, _, ha⟩ := rx
    cases (show RD M H _ _ from ry)
    split at c
    · rename_i n e
      exact .inl (.inl ⟨a, _, i, _, rfl, rfl, .inl (.inr ⟨o, ha⟩), scr_atI e, c.here rep (.int _)⟩)
    · exact c.no.elim
  · split at c
    · rename_i ds i e1 hn
      obtain ⟨a, xs, rfl, ha, qa⟩ := deref_rr rep rx e1
      cases (show RD M H _ _ from ry)
      split at c
      · rename_i d e
        obtain ⟨v, ev, rv⟩ := qa.atI e
        exact .inl (.inl ⟨a, _, i, v, rfl, rfl, .of ha, ev, c.here rep rv⟩)
      · exact c.no.elim
    · rename_i ds i e1 hn
      obtain ⟨a, xs, rfl, _, ha, qa⟩ := rr_tup (deref_rr rep rx e1)
      cases (show RD M H _ _ from ry)
      split at c
      · rename_i d e
        obtain ⟨v, ev, rv⟩ := qa.atI e
        exact .inl (.inr (.inl ⟨a, _, i, v, rfl, rfl, ha.sq, ev, c.here rep rv⟩))
      · exact c.no.elim
    · rename_i z i e1 hn
      obtain rfl := rr_str (deref_rr rep rx e1)
      cases (show RD M H _ _ from ry)
      split at c
      · rename_i hz
        split at c
        · rename_i d e
          exact .inl (.inr (.inr ⟨z, i, d, rfl, rfl, hz, e, c.here rep (.str _)⟩))
        · exact c.no.elim
      · exact c.no.elim
    · rename_i es e1 hn
      split at c
      · rename_i d e
        obtain ⟨a, ov, rfl, g, ro⟩ := get_ok (deref_rr rep rx e1) ry e
        cases ov with
        | none => exact ro.elim
        | some v => exact .inr ⟨a, v, rfl, g, c.here rep ro⟩
      · exact c.no.elim
    · exact c.no.elim
  · exact c.no.elim
theorem d_idx {k : Nat} (hr : Room k X.A) {a b : Expr} {pos : Pos} {f g : EM} (ha : DE X a f) (hb : DE X b g) (hs : PlainIx b) (W : HWX X := by exact ⟨rfl, rfl⟩) : DE X (.Subscript a b pos) (f2 idxW f g) :=
  (pe_ix (ix_seq.or (ix_dict (hu_of hr) W)) ha hb hs).weak (op_imp s_idx)
def cutG {α : Type} (xs : List α) (lo hi : Option Int) : List α := (xs.drop (HT.sIx xs.length 0 lo)).take (HT.sIx xs.length xs.length hi - HT.sIx xs.length 0 lo)
theorem RDs.cut {M : Mm} {H : Hp} {xs : List V} {ds : List D} (r : RDs M H xs ds) (lo hi : Option Int) : RDs M H (cutV xs lo hi) (cutG ds lo hi) := by
  unfold cutV cutG
  rw [r.length]
  exact (r.drop _).take _
def oNone : OM := fun _ h => some (none, h)
def oSome (f : EM) : OM := fun ρ h => obnd (f ρ h) fun w h1 => match w with
  | .dat (.int i) => some (some i, h1)
  | _ => none
abbrev DO (X : Cx) (e : Option Expr) (f : OM) : Prop := PO X e (tO f)
theorem _root_.L2.PO.weak {X : Cx} {e : Option Expr} {t t' : TO} (h : PO X e t) (i : ∀ σ H Q, t' σ H Q → t σ H Q) : PO X e t' := ⟨fun pins s σ H Q I q => h.run pins s σ H Q I (i σ H Q q)⟩
theorem do_none : DO X none oNone := po_none.weak fun σ H Q => by
  rintro ⟨M, h, ρ, r, rs, c⟩
  exact c.fin (.refl _ _) r rfl
theorem do_some {e : Expr} {f : EM} (he : DE X e f) : DO X (some e) (oSome f) := (po_some he).weak fun σ H Q => by
  rintro ⟨M, h, ρ, r, rs, c⟩
  obtain ⟨w, h1, e1, c1⟩ := Cont.bind (δ := Unit) c
  refine ⟨M, h, ρ, r, rs, w, h1, e1, fun M1 H1 v x1 r1 v1 => ?_⟩
  have c2 := c1 M1 H1 x1
  split at c2
  · cases v1; exact ⟨_, rfl, c2.fin (.refl _ _) r1 rfl⟩
  · exact c2.no.elim
def cutW (m : Bool) (x : W) (lo hi : Option Int) (h : Hh) : Option (W × Hh) := match x with
  | .scr ns => mkL m ((cutG ns lo hi).map .int) h
  | x => match deref h x with
    | some (.list ds) => mkL m (cutG ds lo hi) h
    | some (.tuple ds) => ok (.tuple (cutG ds lo hi)) h
    | some (.str z) => if z.length ≤ sizeLine then ok (.str (cutS z lo hi)) h else none
    | _ => none
def fSl (m : Bool) (f : EM) (lo hi : OM) : EM := fun ρ h => obnd (f ρ h) fun w h1 => obnd (lo ρ h1) fun a h2 => obnd (hi ρ h2) fun b h3 => cutW m w a b h3
theorem cut_ints (ns : List Int) (lo hi : Option Int) {M : Mm} {H : Hp} : RDs M H (cutV (ns.map V.int) lo hi) ((cutG ns lo hi).map .int) := by
  have e : cutV (ns.map V.int) lo hi = (cutG ns lo hi).map V.int := by
    unfold cutV cutG
    rw [List.length_map, List.map_take, List.map_drop]
  rw [e]
  generalize cutG ns lo hi = l
  induction l with
  | nil => exact .nil
  | cons a t ih => exact .cons (.int a) ih
theorem cut_whole {α : Type} {xs : List α} {lo hi : Option Int} (e : HT.sIx xs.length 0 lo = 0 ∧ HT.sIx xs.length xs.length hi = xs.length) : cutG xs lo hi = xs := by
  unfold cutG
  rw [e.1, e.2]
  simp
def rSlB (K : PySem.W.Frag) : V → Option Int → Option Int → Hp → VK → Prop := fun x lo hi H Q => ∃ a vs, x = .ref a ∧ SqT K H a vs ∧
  ((HT.sIx vs.length 0 lo = 0 ∧ HT.sIx vs.length vs.length hi = vs.length → Q (.ref a) H) ∧ ∃ bb : Bool, ∀ p o, H p = none → o.dict = none → Q (.ref p) (upd H p (bareO bb o (cutV vs lo hi))))
theorem sl_tupB : SlR X (rSlB X.K) := by
  rintro pins s σ H x v vl vu lo hi sl Q I rx hs pl pu ⟨a, vs, rfl, hx, f1, bb, f2⟩
  by_cases hw : HT.sIx vs.length 0 lo = 0 ∧ HT.sIx vs.length vs.length hi = vs.length
  · exact sl_tupA pins s σ H _ v vl vu lo hi sl Q I rx hs pl pu ⟨a, vs, rfl, hx, f1, fun n => absurd hw n⟩
  · cases rx
    obtain ⟨l, r, ht, hz⟩ := I.tuple hx
    have hn : l.toArray.size = vs.length := by rw [List.size_toArray, r.length]
    refine ⟨"tuple", _, PyProof.Rows.slot_tuple_getitem.lookup, ht.typeIs, HT.getItem_tuple_cut ht hs pl pu (by rwa [hn]) ?_ (by rwa [hn])⟩
    rw [hn]
    exact ⟨.ref s.heap.objs.size, _, I.laid (t' := s.toks) (o := bareO bb _ (cutV vs lo hi)) (fun _ _ q => Heap.get?_push_of_some _ q) (Nat.le_refl _)
      (bare_ok bb (Heap.get?_push_size _ rfl) fun G => ⟨Nat.le_trans (cutV_length vs lo hi) hz, _, (r.drop _).take _, IsTup.new _ _⟩), rfl, f2 _ _ (I.hok.fresh (Nat.le_refl _)) rfl⟩
theorem d_slice (m : Bool) {a : Expr} {lo hi : Option Expr} {p2 pos : Pos} {f : EM} {fl fh : OM} (ha : DE X a f) (hl : DO X lo fl) (hh : DO X hi fh) : DE X (.Subscript a (.Slice lo hi none p2) pos) (fSl m f fl fh) :=
  (pe_slice (sl_list.or (sl_tupB.or sl_str)) ha hl hh).weak fun σ H Q => by
    rintro ⟨M, h, ρ, r, rs, c⟩
    obtain ⟨w, h1, e1, c1⟩ := Cont.bind (δ := Unit) c
    refine ⟨M, h, ρ, r, rs, w, h1, e1, fun M1 H1 v x1 r1 v1 => ⟨M1, h1, ρ, r1, rs.mono x1, ?_⟩⟩
    obtain ⟨w2, h2, e2, c2⟩ := Cont.bind (δ := Unit) (c1 M1 H1 x1)
    refine ⟨w2, h2, e2, fun M2 H2 v2 x2 r2 q2 => ⟨M2, h2, ρ, r2, (rs.mono x1).mono x2, ?_⟩⟩
    subst q2
    obtain ⟨w3, h3, e3, c3⟩ := Cont.bind (δ := Unit) (c2 M2 H2 x2)
    refine ⟨w3, h3, e3, fun M3 H3 v3 x3 r3 q3 => ?_⟩
    subst q3
    have c4 := c3 M3 H3 x3
    have v3' := (v1.mono x2).mono x3
    unfold cutW at c4
    split at c4
    · obtain ⟨b, o, rfl, _, hb⟩ := v3'
      exact .inl ⟨b, _, rfl, .inl (.inr ⟨o, hb⟩), fun p np => mkL_fin r3 np (cut_ints _ _ _) c4⟩
    · split at c4
      · rename_i ds e4
        obtain ⟨b, xs, rfl, hb, qb⟩ := deref_rr r3 v3' e4
        exact .inl ⟨b, xs, rfl, .of hb, fun p np => mkL_fin r3 np (qb.cut _ _) c4⟩
      · rename_i ds e4
        obtain ⟨b, xs, rfl, nb, hb, qb⟩ := rr_tup (deref_rr r3 v3' e4)
        refine .inr (.inl ⟨b, xs, rfl, hb.sq, fun e => ?_, _, fun p o np ho => mkB_fin r3 np (qb.cut _ _) ho c4⟩)
        rw [qb.length] at e
        rw [cut_whole e] at c4
        exact c4.here r3 (.tup nb hb qb)
      · rename_i z e4
        obtain rfl := rr_str (deref_rr r3 v3' e4)
        split at c4
        · rename_i hz
          exact .inr (.inr ⟨z, rfl, hz, c4.here r3 (.str _)⟩)
        · exact c4.no.elim
      · exact c4.no.elim
def dats : List W → Option (List D)
  | [] => some []
  | .dat d :: ws => (dats ws).map (d :: ·)
  | _ :: _ => none
@[simp] theorem dats_nil : dats [] = some [] := rfl
@[simp] theorem dats_cons (d : D) (ws : List W) : dats (.dat d :: ws) = (dats ws).map (d :: ·) := rfl
theorem rvs_dats {M : Mm} {H : Hp} : ∀ {vs : List V} {ws : List W} {ds : List D}, RVs M H vs ws → dats ws = some ds → RDs M H vs ds
  | _, _, _, .nil, e => by cases e; exact .nil
  | _, .dat d :: ws, _, .cons a t, e => by
    simp only [dats_cons, Option.map_eq_some_iff] at e
    obtain ⟨ds', e1, rfl⟩ := e
    exact .cons a (rvs_dats t e1)
  | _, .ref n :: ws, _, .cons a t, e => by cases e
  | _, .scr n :: ws, _, .cons a t, e => by cases e
  | _, .pack n :: ws, _, .cons a t, e => by cases e
  | _, .lock n :: ws, _, .cons a t, e => by cases e
  | _, .ins C fs :: ws, _, .cons a t, e => by cases e
  | _, .exc k C fs :: ws, _, .cons a t, e => by cases e
  | _, .objs os :: ws, _, .cons a t, e => by cases e
def lstW (m : Bool) (ws : List W) (h : Hh) : Option (W × Hh) := match dats ws with
  | some ds => if ds.length ≤ sizeLine then mkL m ds h else none
  | none => none
def tupW (ws : List W) (h : Hh) : Option (W × Hh) := match dats ws with
  | some ds => if ds.length ≤ sizeLine then ok (.tuple ds) h else none
  | none => none
def fA (sem : List W → Hh → Option (W × Hh)) (g : AM) : EM := fun ρ h => obnd (g ρ h) sem
theorem d_lst (m : Bool) {es : List Expr} {pos : Pos} {g : AM} (hg : DA X es g) : DE X (.List es pos) (fA (lstW m) g) := (pe_lst hg).weak fun σ H Q => by
  rintro ⟨M, h, ρ, r, rs, c⟩
  obtain ⟨w, h1, e1, c1⟩ := Cont.bind (δ := Unit) c
  refine ⟨M, h, ρ, r, rs, w, h1, e1, fun M1 H1 v x1 r1 v1 => ?_⟩
  have c2 := c1 M1 H1 x1
  unfold lstW at c2
  split at c2
  · rename_i ds e
    have q := rvs_dats v1 e
    split at c2
    · rename_i hz
      exact ⟨by rw [q.length]; exact hz, fun p np => mkL_fin r1 np q c2⟩
    · exact c2.no.elim
  · exact c2.no.elim
def tTupB (t : TA) : TE := fun σ H Q => t σ H fun xs H1 => xs.length ≤ sizeLine ∧ ∃ b : Bool, ∀ p o, H1 p = none → o.dict = none → Q (.ref p) (upd H1 p (bareO b o xs))
theorem pe_tupB {x1} {es : List Expr} {t : TA} {pos : Pos} (h : PA X es t) : PE X (.Tuple es x1 pos) (tTupB t) := by
  constructor
  intro pins s σ H Q I hq
  apply wpAny_Tuple_spliced
  refine thn (h.run pos pins s σ H _ I hq) fun us s1 ⟨xs, H1, I1, r, z, b, q⟩ => ⟨r.length ▸ z, ?_⟩
  have hn := I1.hok.fresh (Nat.le_refl s1.heap.objs.size)
  exact ⟨.ref s1.heap.objs.size, _, I1.laid (t' := s1.toks) (o := bareO b _ xs) (fun _ _ e => Heap.get?_push_of_some _ e) (Nat.le_refl _) (bare_ok b (Heap.get?_push_size _ rfl) fun G => ⟨z, us, r, IsTup.new _ _⟩), rfl, q _ _ hn rfl⟩
theorem d_tup {x1} {es : List Expr} {pos : Pos} {g : AM} (hg : DA X es g) : DE X (.Tuple es x1 pos) (fA tupW g) := (pe_tupB hg).weak fun σ H Q => by
  rintro ⟨M, h, ρ, r, rs, c⟩
  obtain ⟨w, h1, e1, c1⟩ := Cont.bind (δ := Unit) c
  refine ⟨M, h, ρ, r, rs, w, h1, e1, fun M1 H1 v x1 r1 v1 => ?_⟩
  have c2 := c1 M1 H1 x1
  unfold tupW at c2
  split at c2
  · rename_i ds e
    have q := rvs_dats v1 e
    split at c2
    · rename_i hz
      exact ⟨by rw [q.length]; exact hz, callD ds, fun p o np ho => mkB_fin r1 np q ho c2⟩
    · exact c2.no.elim
  · exact c2.no.elim
end
end DL
set_option maxRecDepth 100000
set_option maxHeartbeats 4000000
namespace DL
open PySem PySem.Spec PyProof.Rows L2
variable [HW]
def SemA (r : List V → Hp → VK → Prop) (sem : List W → Hh → Option (W × Hh)) : Prop := ∀ (M : Mm) (H : Hp) (h : Hh) (vs : List V) (ws : List W) (Q : VK), Rep M H h → RVs M H vs ws → Cont RV (sem ws h) M H Q → r vs H Q
theorem call_imp {r : List V → Hp → VK → Prop} {sem : List W → Hh → Option (W × Hh)} {g : AM} (hs : SemA r sem) : ∀ σ H Q, tE (fA sem g) σ H Q → tCB r (tA g) σ H Q := fun σ H Q => by
  rintro ⟨M, h, ρ, r, rs, c⟩
  obtain ⟨w, h1, e1, c1⟩ := Cont.bind (δ := Unit) c
  exact ⟨M, h, ρ, r, rs, w, h1, e1, fun M1 H1 v x1 r1 v1 => hs M1 H1 h1 v w Q r1 v1 (c1 M1 H1 x1)⟩
section
variable {X : Cx}
theorem d_callB {x : Str} {p pos : Pos} {e : Expr} {es : List Expr} {id : String} {r : List V → Hp → VK → Prop} {sem : List W → Hh → Option (W × Hh)} {g : AM} (hc : CallR X (.builtin id) r) (hs : SemA r sem) (hm : X.mg x = none) (hv : bootBuiltins x = some (.builtin id)) (ha : DA X (e :: es) g)
    (hg : Gl X x := by rfl) (hn : x ≠ "__name__" := by decide) (hdb : (x == ("__debug__" : Str)) = false := by decide) (he : starEach (e :: es) X.env = (false, eval e X.env) :: starEach es X.env := by rfl) (hpl : (backTo pos (starEach es X.env)).any (·.1) = false := by rfl) :
    DE X (.Call (.Name x p) (e :: es) [] pos) (fA sem g) := (pe_callB hc hg hm hv ha hn hdb he hpl).weak (call_imp hs)
theorem d_callT {x : Str} {p pos : Pos} {e : Expr} {es : List Expr} {T : String} {r : List V → Hp → VK → Prop} {sem : List W → Hh → Option (W × Hh)} {g : AM} (hc : CallR X (.type T) r) (hs : SemA r sem) (hm : X.mg x = none) (hv : bootBuiltins x = some (.type T)) (ha : DA X (e :: es) g)
    (hg : Gl X x := by rfl) (hn : x ≠ "__name__" := by decide) (hdb : (x == ("__debug__" : Str)) = false := by decide) (he : starEach (e :: es) X.env = (false, eval e X.env) :: starEach es X.env := by rfl) (hpl : (backTo pos (starEach es X.env)).any (·.1) = false := by rfl) :
    DE X (.Call (.Name x p) (e :: es) [] pos) (fA sem g) := (pe_callTy hc hg hm hv ha hn hdb he hpl).weak (call_imp hs)
theorem rvs1 {M : Mm} {H : Hp} {vs : List V} {w : W} (r : RVs M H vs [w]) : ∃ v, vs = [v] ∧ RV M H v w := by
  cases r with
  | cons a t => cases t; exact ⟨_, rfl, a⟩
theorem rvs2 {M : Mm} {H : Hp} {vs : List V} {w u : W} (r : RVs M H vs [w, u]) : ∃ v v', vs = [v, v'] ∧ RV M H v w ∧ RV M H v' u := by
  cases r with
  | cons a t => cases t with
    | cons b t => cases t; exact ⟨_, _, rfl, a, b⟩
def lenW (ws : List W) (h : Hh) : Option (W × Hh) := match ws with
  | [.scr ns] => ok (.int ns.length) h
  | [w] => match deref h w with
    | some (.list ds) => ok (.int ds.length) h
    | some (.tuple ds) => ok (.int ds.length) h
    | some (.str z) => if z.length ≤ sizeLine then ok (.int z.length) h else none
    | some (.dict es) => if isT es = true then none else ok (.int es.length) h
    | _ => none
  | _ => none
theorem RDk.length {M : Mm} {H : Hp} : ∀ {kvs : List (Key × V)} {es : List (D × D)}, RDk M H kvs es → kvs.length = es.length
  | _, _, .nil => rfl
  | _, _, .cons _ r => by rw [List.length_cons, List.length_cons, r.length]
theorem s_len : SemA (fun xs H Q => (∃ x n, xs = [x] ∧ LenV X.K x H n ∧ Q (.int n) H) ∨ ∃ d kvs, xs = [.ref d] ∧ H d = some (.dK kvs) ∧ Q (.int (kvs.length : Nat)) H) lenW := by
  intro M H h vs ws Q rep rv c
  unfold lenW at c
  split at c
  · rename_i ns
    obtain ⟨v, rfl, r⟩ := rvs1 rv
    obtain ⟨a, o, rfl, _, ha⟩ := r
    exact .inl ⟨_, ns.length, rfl, .inl ⟨_, .inl (.inr ⟨o, ha⟩), by simp⟩, c.here rep (.int _)⟩
  · obtain ⟨v, rfl, r⟩ := rvs1 rv
    split at c
    · rename_i ds e
      obtain ⟨a, xs, rfl, ha, q⟩ := deref_rr rep r e
      exact .inl ⟨_, ds.length, rfl, .inl ⟨_, .of ha, q.length.symm⟩, c.here rep (.int _)⟩
    · rename_i ds e
      obtain ⟨a, xs, rfl, _, ha, q⟩ := rr_tup (deref_rr rep r e)
      exact .inl ⟨_, ds.length, rfl, .inr ⟨_, ha.sq, q.length.symm⟩, c.here rep (.int _)⟩
    · rename_i z e
      obtain rfl := rr_str (deref_rr rep r e)
      split at c
      · rename_i hz
        exact .inl ⟨_, z.length, rfl, ⟨hz, rfl⟩, c.here rep (.int _)⟩
      · exact c.no.elim
    · rename_i es e
      split at c
      · exact c.no.elim
      · rename_i ht
        rcases deref_rr rep r e with ⟨a, kvs, rfl, ha, q⟩ | ⟨a, kvs, es', rfl, rfl, ha, q⟩
        · rw [← q.length] at c
          exact .inr ⟨a, kvs, rfl, ha, c.here rep (.int _)⟩
        · exact absurd rfl ht
    · exact c.no.elim
  · exact c.no.elim
theorem d_len (hm : X.mg "len" = none) {p pos : Pos} {e : Expr} {g : AM} (ha : DA X [e] g) (hg : Gl X "len" := by rfl) (he : starEach [e] X.env = (false, eval e X.env) :: starEach [] X.env := by rfl) (hpl : (backTo pos (starEach [] X.env)).any (·.1) = false := by rfl) : DE X (.Call (.Name "len" p) [e] [] pos) (fA lenW g) :=
  d_callB (call_len.or call_lenD) s_len hm boot_len ha hg (by decide) (by decide) he hpl
def absW (ws : List W) (h : Hh) : Option (W × Hh) := match ws with
  | [.dat (.int i)] => ok (.int (if i < 0 then -i else i)) h
  | _ => none
theorem s_abs : SemA (fun xs H Q => ∃ i, xs = [.int i] ∧ Q (.int (if i < 0 then -i else i)) H) absW := by
  intro M H h vs ws Q rep rv c
  unfold absW at c
  split at c
  · obtain ⟨v, rfl, r⟩ := rvs1 rv
    cases (show RD M H _ _ from r)
    exact ⟨_, rfl, c.here rep (.int _)⟩
  · exact c.no.elim
def intC (ws : List W) (h : Hh) : Option (W × Hh) := match ws with
  | [.dat (.int i)] => ok (.int i) h
  | [.dat (.bool b)] => ok (.int (if b = true then 1 else 0)) h
  | _ => none
theorem s_intC : SemA (fun xs H Q => (∃ i, xs = [.int i] ∧ Q (.int i) H) ∨ ∃ k, xs = [.bl k] ∧ Q (.int (if k then 1 else 0)) H) intC := by
  intro M H h vs ws Q rep rv c
  unfold intC at c
  split at c
  · obtain ⟨v, rfl, r⟩ := rvs1 rv
    cases (show RD M H _ _ from r)
    exact .inl ⟨_, rfl, c.here rep (.int _)⟩
  · obtain ⟨v, rfl, r⟩ := rvs1 rv
    cases (show RD M H _ _ from r)
    exact .inr ⟨_, rfl, c.here rep (.int _)⟩
  · exact c.no.elim
def maxW (ws : List W) (h : Hh) : Option (W × Hh) := match ws with
  | [.dat (.int i), .dat (.int j)] => ok (.int (if j > i then j else i)) h
  | _ => none
def minW (ws : List W) (h : Hh) : Option (W × Hh) := match ws with
  | [.dat (.int i), .dat (.int j)] => ok (.int (if j < i then j else i)) h
  | _ => none
def bools : List D → Option (List Bool)
  | [] => some []
  | .bool b :: ds => (bools ds).map (b :: ·)
  | _ :: _ => none
def intsD : List D → Option (List Int)
  | [] => some []
  | .int b :: ds => (intsD ds).map (b :: ·)
  | _ :: _ => none
theorem rds_bools {M : Mm} {H : Hp} : ∀ {vs : List V} {ds : List D} {bs : List Bool}, RDs M H vs ds → bools ds = some bs → vs = bs.map V.bl
  | _, _, _, .nil, e => by cases e; rfl
  | _, .bool b :: ds, _, .cons a t, e => by
    simp only [bools, Option.map_eq_some_iff] at e
    obtain ⟨bs', e1, rfl⟩ := e
    cases a
    rw [List.map_cons, ← rds_bools t e1]
  | _, .none :: ds, _, .cons a t, e => by cases e
  | _, .int _ :: ds, _, .cons a t, e => by cases e
  | _, .str _ :: ds, _, .cons a t, e => by cases e
  | _, .list _ :: ds, _, .cons a t, e => by cases e
  | _, .tuple _ :: ds, _, .cons a t, e => by cases e
  | _, .dict _ :: ds, _, .cons a t, e => by cases e
theorem rds_ints {M : Mm} {H : Hp} : ∀ {vs : List V} {ds : List D} {bs : List Int}, RDs M H vs ds → intsD ds = some bs → vs = bs.map V.int
  | _, _, _, .nil, e => by cases e; rfl
  | _, .int b :: ds, _, .cons a t, e => by
    simp only [intsD, Option.map_eq_some_iff] at e
    obtain ⟨bs', e1, rfl⟩ := e
    cases a
    rw [List.map_cons, ← rds_ints t e1]
  | _, .none :: ds, _, .cons a t, e => by cases e
  | _, .bool _ :: ds, _, .cons a t, e => by cases e
  | _, .str _ :: ds, _, .cons a t, e => by cases e
  | _, .list _ :: ds, _, .cons a t, e => by cases e
  | _, .tuple _ :: ds, _, .cons a t, e => by cases e
  | _, .dict _ :: ds, _, .cons a t, e => by cases e
def lW {α : Type} (cv : List D → Option (List α)) (k : List α → D) (ws : List W) (h : Hh) : Option (W × Hh) := match ws with
  | [w] => match deref h w with
    | some (.list ds) => match cv ds with
      | some bs => ok (k bs) h
      | none => none
    | _ => none
  | _ => none
def allW := lW bools fun bs => .bool (bs.all id)
def anyW := lW bools fun bs => .bool (bs.any id)
def sumW := lW intsD fun bs => .int bs.sum
theorem s_lW {α : Type} {cv : List D → Option (List α)} {k : List α → D} {kv : List α → V} {em : α → V} (h1 : ∀ {M : Mm} {H : Hp} {vs : List V} {ds : List D} {bs : List α}, RDs M H vs ds → cv ds = some bs → vs = bs.map em) (h2 : ∀ M H bs, RD M H (kv bs) (k bs)) :
    SemA (fun vs H Q => ∃ (a : Addr) (bs : List α), vs = [V.ref a] ∧ SqL X.K H a (bs.map em) ∧ Q (kv bs) H) (lW cv k) := by
  intro M H h vs ws Q rep rv c
  unfold lW at c
  split at c
  · obtain ⟨v, rfl, r⟩ := rvs1 rv
    split at c
    · rename_i ds e
      obtain ⟨a, xs, rfl, ha, q⟩ := deref_rr rep r e
      split at c
      · rename_i bs e2
        have e3 := h1 q e2
        subst e3
        exact ⟨a, bs, rfl, .of ha, c.here rep (h2 _ _ _)⟩
      · exact c.no.elim
    · exact c.no.elim
  · exact c.no.elim
theorem s_all : SemA (rAll X.K) allW := s_lW rds_bools fun _ _ _ => .bl _
theorem s_sum : SemA (rSum X.K) sumW := s_lW rds_ints fun _ _ _ => .int _
def tupleW (ws : List W) (h : Hh) : Option (W × Hh) := match ws with
  | [w] => match deref h w with
    | some (.list ds) => ok (.tuple ds) h
    | some (.tuple ds) => ok (.tuple ds) h
    | _ => none
  | _ => none
def rTupB (K : PySem.W.Frag) : List V → Hp → VK → Prop := fun xs H Q => ∃ p ys, xs = [.ref p] ∧ ((SqL K H p ys ∧ ∃ b : Bool, ∀ l o, H l = none → o.dict = none → Q (.ref l) (upd H l (bareO b o ys))) ∨ (SqT K H p ys ∧ Q (.ref p) H))
theorem call_tupB : CallR X (.type "tuple") (rTupB X.K) := by
  intro pins s σ H xs us Q I r h
  obtain ⟨p, ys, rfl, h⟩ := h
  obtain ⟨u, rfl, rx⟩ := vals1 r
  cases rx
  rcases h with ⟨hq, b, q⟩ | ⟨hq, q⟩
  · obtain ⟨its, r', pl, hz⟩ := I.list hq
    have hlen := r'.length
    apply call_tuple_list pl.isList _ (by simp only [List.size_toArray] <;> omega)
    intro h' kp
    have I1 : Inv X pins σ H { s with heap := h' } := I.kept (t' := s.toks) kp
    exact ⟨.ref h'.objs.size, _, I1.laid (t' := s.toks) (o := bareO b _ ys) (fun _ _ e => Heap.get?_push_of_some _ e) (Nat.le_refl _) (bare_ok b (Heap.get?_push_size _ rfl) fun G => ⟨hz, its, r', IsTup.new _ _⟩), rfl, q _ _ (I1.hok.fresh (Nat.le_refl _)) rfl⟩
  · obtain ⟨its, r', pl, hz⟩ := I.tuple hq
    exact call_tuple_same pl ⟨.ref p, H, I, rfl, q⟩
theorem s_tuple : SemA (rTupB X.K) tupleW := by
  intro M H h vs ws Q rep rv c
  unfold tupleW at c
  split at c
  · obtain ⟨v, rfl, r⟩ := rvs1 rv
    split at c
    · rename_i ds e
      obtain ⟨a, xs, rfl, ha, q⟩ := deref_rr rep r e
      exact ⟨a, xs, rfl, .inl ⟨.of ha, callD ds, fun l o nl ho => mkB_fin rep nl q ho c⟩⟩
    · rename_i ds e
      obtain ⟨a, xs, rfl, na, ha, q⟩ := rr_tup (deref_rr rep r e)
      exact ⟨a, xs, rfl, .inr ⟨ha.sq, c.here rep (.tup na ha q)⟩⟩
    · exact c.no.elim
  · exact c.no.elim
def listW (m : Bool) (ws : List W) (h : Hh) : Option (W × Hh) := match ws with
  | [w] => match deref h w with
    | some (.list ds) => mkL m ds h
    | some (.tuple ds) => mkL m ds h
    | _ => none
  | _ => none
theorem s_list (m : Bool) : SemA (fun xs H Q => ∃ p ys, xs = [.ref p] ∧ (SqL X.K H p ys ∨ SqT X.K H p ys) ∧ ∀ l, H l = none → Q (.ref l) (upd H l (.lst ys))) (listW m) := by
  intro M H h vs ws Q rep rv c
  unfold listW at c
  split at c
  · obtain ⟨v, rfl, r⟩ := rvs1 rv
    split at c
    · rename_i ds e
      obtain ⟨a, xs, rfl, ha, q⟩ := deref_rr rep r e
      exact ⟨a, xs, rfl, .inl (.of ha), fun l nl => mkL_fin rep nl q c⟩
    · rename_i ds e
      obtain ⟨a, xs, rfl, na, ha, q⟩ := rr_tup (deref_rr rep r e)
      exact ⟨a, xs, rfl, .inr ha.sq, fun l nl => mkL_fin rep nl q c⟩
    · exact c.no.elim
  · exact c.no.elim
def putK' (es : List (D × D)) (k : Key) (v : D) : List (D × D) := if (getK es k).isSome = true then es.map (fun e => if dKey e.1 = some k then (e.1, v) else e) else es ++ [(kP k, v)]
def pairsK : List D → Option (List (Key × D))
  | [] => some []
  | .tuple [k, v] :: ds => match dKey k, pairsK ds with
    | some k, some r => some ((k, v) :: r)
    | _, _ => none
  | _ :: _ => none
def mergeD (es : List (D × D)) (ps : List (Key × D)) : List (D × D) := ps.foldl (fun acc p => putK' acc p.1 p.2) es
section
variable {M : Mm} {H : Hp}
theorem RDo.some_iff {o : Option V} {p : Option D} (r : RDo M H o p) : o.isSome = p.isSome := by
  cases o <;> cases p <;> first | rfl | exact r.elim
theorem RDk.snoc {k : Key} {v : V} {d : D} (q : RD M H v d) : ∀ {kvs : List (Key × V)} {es : List (D × D)}, RDk M H kvs es → RDk M H (kvs ++ [(k, v)]) (es ++ [(kP k, d)])
  | _, _, .nil => .cons q .nil
  | _, _, .cons a t => .cons a (RDk.snoc q t)
theorem RDk.repl {k : Key} {v : V} {d : D} (q : RD M H v d) : ∀ {kvs : List (Key × V)} {es : List (D × D)}, RDk M H kvs es → RDk M H (kvs.map fun kv => if kv.1 = k then (kv.1, v) else kv) (es.map fun e => if dKey e.1 = some k then (e.1, d) else e)
  | _, _, .nil => .nil
  | _, _, .cons (k := j) a t => by
    simp only [List.map_cons, dKey_kP, Option.some.injEq]
    by_cases e : j = k
    · rw [if_pos e, if_pos e]; exact .cons q (RDk.repl q t)
    · rw [if_neg e, if_neg e]; exact .cons a (RDk.repl q t)
theorem RDk.put {kvs : List (Key × V)} {es : List (D × D)} (r : RDk M H kvs es) (k : Key) {v : V} {d : D} (q : RD M H v d) : RDk M H (putK kvs k v) (putK' es k d) := by
  unfold putK putK'
  rw [valV_any, (r.val k).some_iff]
  split
  · exact r.repl q
  · exact r.snoc q
theorem RDk.merge : ∀ {ps : List (Key × V)} {qs : List (Key × D)} {kvs : List (Key × V)} {es : List (D × D)}, Paired (fun p q => p.1 = q.1 ∧ RD M H p.2 q.2) ps qs → RDk M H kvs es → RDk M H (mergeK kvs ps) (mergeD es qs)
  | _, _, _, _, .nil, r => r
  | (k, v) :: ps, (k', d) :: qs, kvs, es, .cons ⟨e, q⟩ t, r => by
    have e' : k = k' := e
    subst e'
    show RDk M H (mergeK (putK kvs k v) ps) (mergeD (putK' es k d) qs)
    exact RDk.merge t (r.put k q)
theorem pairs_ok : ∀ {xs : List V} {ds : List D} {qs : List (Key × D)}, RDs M H xs ds → pairsK ds = some qs → ∃ (ps : List Addr) (kvs : List (Key × V)), xs = ps.map V.ref ∧ Paired (fun p kv => Rd H p (.tup [kV kv.1, kv.2])) ps kvs ∧ Paired (fun (p : Key × V) (q : Key × D) => p.1 = q.1 ∧ RD M H p.2 q.2) kvs qs
  | _, [], _, r, e => by
    cases e; cases r
    exact ⟨[], [], rfl, .nil, .nil⟩
  | _, d :: ds, qs, r, e => by
    unfold pairsK at e
    split at e
    · cases e
      rename_i h1
      cases h1
    · rename_i k v ds' h0
      cases h0
      split at e
      · rename_i k' r' e1 e2
        cases e
        cases r with
        | cons a t =>
          obtain ⟨ps, kvs, hx, h1, h2⟩ := pairs_ok t e2
          have := kP_dKey e1
          subst this
          cases a with
          | tup n ha ra =>
            cases ra with
            | cons rk rr =>
              cases rr with
              | cons rv rr =>
                cases rr
                have ha := ha.rd
                rw [rd_kP rk] at ha
                exact ⟨_ :: ps, (k', _) :: kvs, by rw [hx]; rfl, .cons ha h1, .cons ⟨rfl, rv⟩ h2⟩
      · cases e
    · cases e
end
def mkK (m : Bool) (es : List (D × D)) (h : Hh) : Option (W × Hh) := if m = true then some (.ref h.length, h ++ [some (.dic es)]) else some (.dat (.dict es), h)
theorem mkK_fin {m : Bool} {es : List (D × D)} {h : Hh} {M : Mm} {H : Hp} {Q : VK} {p : Addr} {kvs : List (Key × V)} (rep : Rep M H h) (n : H p = none) (r : RDk M H kvs es) (c : Cont RV (mkK m es h) M H Q) : Q (.ref p) (upd H p (.dK kvs)) := by
  cases m with
  | false => exact c.fin (ext_new n) (rep.upd_new n) (RD.dic (rep.new n) upd_same (r.mono (ext_new n).ext))
  | true => exact c.fin (ext_add n) (rep.add n ⟨kvs, upd_same, r.mono (ext_add n).ext⟩) ⟨p, by simp [Mm.more, ← rep.len], rfl⟩
def dictW (m : Bool) (ws : List W) (h : Hh) : Option (W × Hh) := match ws with
  | [w] => match deref h w with
    | some (.list ds) => match pairsK ds with
      | some qs => mkK m (mergeD [] qs) h
      | none => none
    | some (.dict es) => if isT es = true then none else mkK m es h
    | _ => none
  | _ => none
section
variable {X : Cx}
theorem s_dict (m : Bool) : SemA (fun xs H Q => (∃ (a : Addr) (ps : List Addr) (kvs : List (Key × V)), xs = [.ref a] ∧ SqL X.K H a (ps.map V.ref) ∧ Paired (fun p kv => SqT X.K H p [kV kv.1, kv.2]) ps kvs ∧
    ∀ p, H p = none → Q (.ref p) (upd H p (.dK (mergeK [] kvs)))) ∨ ∃ (a : Addr) (kvs : List (Key × V)), xs = [.ref a] ∧ Rd H a (.dK kvs) ∧ ∀ p, H p = none → Q (.ref p) (upd H p (.dK kvs))) (dictW m) := by
  intro M H h vs ws Q rep rv c
  unfold dictW at c
  split at c
  · obtain ⟨v, rfl, r⟩ := rvs1 rv
    split at c
    · rename_i ds e
      obtain ⟨a, xs, rfl, ha, q⟩ := deref_rr rep r e
      split at c
      · rename_i qs e2
        obtain ⟨ps, kvs, rfl, h1, h2⟩ := pairs_ok q e2
        exact .inl ⟨a, ps, kvs, rfl, .of ha, Paired.mapP h1 fun _ _ z => .inl z, fun p np => mkK_fin rep np (RDk.merge h2 .nil) c⟩
      · exact c.no.elim
    · rename_i es e
      split at c
      · exact c.no.elim
      · rename_i ht
        rcases deref_rr rep r e with ⟨a, kvs, rfl, ha, q⟩ | ⟨a, kvs, es', rfl, rfl, ha, q⟩
        · exact .inr ⟨a, kvs, rfl, .of ha, fun p np => mkK_fin rep np q c⟩
        · exact absurd rfl ht
    · exact c.no.elim
  · exact c.no.elim
def tyN : D → String
  | .none => "NoneType"
  | .bool _ => "bool"
  | .int _ => "int"
  | .str _ => "str"
  | .list _ => "list"
  | .tuple _ => "tuple"
  | .dict _ => "dict"
def isN (n t : String) : Bool := decide (n = t) || (decide (n = "bool") && decide (t = "int"))
def isT1 (t : String) (d : D) : Bool := isN (tyN d) t
theorem kitN : ∀ n ∈ ["NoneType", "bool", "int", "str", "list", "tuple", "dict"], ∀ t ∈ ["bool", "int", "str", "list", "tuple", "dict"], kitB n t = some (isN n t) := by decide +kernel
theorem rr_ty {K : PySem.W.Frag} {M : Mm} {H : Hp} {v : V} : ∀ {d : D}, (∀ es, d = .dict ((.none, .none) :: es) → False) → RR M H v d → TyX K H v (.type (tyN d))
  | .none, _, r => by rw [rr_non r]; exact .base .non
  | .bool b, _, r => by rw [rr_bl r]; exact .base (.bl b)
  | .int b, _, r => by rw [rr_int r]; exact .base (.int b)
  | .str b, _, r => by rw [rr_str r]; exact .base (.str b)
  | .list b, _, ⟨a, xs, e, h, _⟩ => by rw [e]; exact .base (.lst h)
  | .tuple b, _, r => by
    obtain ⟨a, xs, e, _, h, _⟩ := rr_tup r
    rw [e]
    rcases h with ⟨_, h⟩ | ⟨_, o, _, h⟩
    · exact .base (.tup h)
    · exact .fTuple h
  | .dict b, _, .inl ⟨a, xs, e, h, _⟩ => by rw [e]; exact .base (.dK h)
  | .dict b, n0, .inr ⟨a, xs, es, e0, e, h, _⟩ => by subst e0; exact (n0 _ rfl).elim
theorem kit1 (t : String) (ht : t = "int" ∨ t = "bool" ∨ t = "str" ∨ t = "list" ∨ t = "tuple" ∨ t = "dict") (d : D) : kitB (tyN d) t = some (isT1 t d) := by
  refine kitN (tyN d) ?_ t ?_
  · cases d <;> simp [tyN]
  · rcases ht with rfl | rfl | rfl | rfl | rfl | rfl <;> simp
def isiW (ts : List String) (w : W) (h : Hh) : Option (W × Hh) := match deref h w with
  | some (.dict ((.none, .none) :: _)) => none
  | some d => bok (ts.any fun t => isT1 t d) h
  | none => none
def f1 (sem : W → Hh → Option (W × Hh)) (f : EM) : EM := fun ρ h => obnd (f ρ h) sem
theorem d_isi (hm : X.mg "isinstance" = none) {t : Str} {T : String} (hmt : X.mg t = none) (hv : bootBuiltins t = some (.type T)) (ht : T = "int" ∨ T = "bool" ∨ T = "str" ∨ T = "list" ∨ T = "tuple" ∨ T = "dict") {p pt pos : Pos} {e : Expr} {f : EM} (he : DE X e f)
    (hg : Gl X "isinstance" := by rfl) (hgt : Gl X t := by rfl) (hnt : t ≠ "__name__" := by decide) (hdt : (t == ("__debug__" : Str)) = false := by decide)
    (h1 : starEach [e, .Name t pt] X.env = (false, eval e X.env) :: starEach [.Name t pt] X.env := by rfl) (h2 : starEach [.Name t pt] X.env = (false, eval (.Name t pt) X.env) :: starEach [] X.env := by rfl)
    (hpl : (backTo pos (starEach [.Name t pt] X.env)).any (·.1) = false := by rfl) : DE X (.Call (.Name "isinstance" p) [e, .Name t pt] [] pos) (f1 (isiW [T]) f) :=
  (pe_callB call_isi hg hm boot_isinstance (pa_cons he (pa_cons (pe_bltn (v := .ty T) hgt hmt hv rfl hnt hdt) pa_nil h2) h1) (by decide) (by decide) h1 hpl).weak fun σ H Q => by
    rintro ⟨M, h, ρ, r, rs, c⟩
    obtain ⟨w, h1, e1, c1⟩ := Cont.bind (δ := Unit) c
    refine ⟨M, h, ρ, r, rs, w, h1, e1, fun M1 H1 v x1 r1 v1 => ?_⟩
    have c2 := c1 M1 H1 x1
    unfold isiW at c2
    split at c2
    · exact c2.no.elim
    · rename_i d n0 e
      have q := c2.here r1 (.bl _)
      refine ⟨v, .ty T, _, _, _, rfl, .ty T, (rr_ty n0 (deref_rr r1 v1 e)), kit_ty (kit1 T ht d), ?_⟩
      simpa using q
    · exact c2.no.elim
theorem d_isi2 (hm : X.mg "isinstance" = none) {t t' : Str} {T T' : String} (hmt : X.mg t = none) (hv : bootBuiltins t = some (.type T)) (ht : T = "int" ∨ T = "bool" ∨ T = "str" ∨ T = "list" ∨ T = "tuple" ∨ T = "dict") (hmt' : X.mg t' = none) (hv' : bootBuiltins t' = some (.type T')) (ht' : T' = "int" ∨ T' = "bool" ∨ T' = "str" ∨ T' = "list" ∨ T' = "tuple" ∨ T' = "dict") {p pt pt' ptt pos : Pos} {kt} {e : Expr} {f : EM} (he : DE X e f)
    (hg : Gl X "isinstance" := by rfl) (hgt : Gl X t := by rfl) (hnt : t ≠ "__name__" := by decide) (hdt : (t == ("__debug__" : Str)) = false := by decide) (hgt' : Gl X t' := by rfl) (hnt' : t' ≠ "__name__" := by decide) (hdt' : (t' == ("__debug__" : Str)) = false := by decide)
    (h1 : starEach [e, .Tuple [.Name t pt, .Name t' pt'] kt ptt] X.env = (false, eval e X.env) :: starEach [.Tuple [.Name t pt, .Name t' pt'] kt ptt] X.env := by rfl)
    (h2 : starEach [.Tuple [.Name t pt, .Name t' pt'] kt ptt] X.env = (false, eval (.Tuple [.Name t pt, .Name t' pt'] kt ptt) X.env) :: starEach [] X.env := by rfl)
    (h3 : starEach [.Name t pt, .Name t' pt'] X.env = (false, eval (.Name t pt) X.env) :: starEach [.Name t' pt'] X.env := by rfl) (h4 : starEach [.Name t' pt'] X.env = (false, eval (.Name t' pt') X.env) :: starEach [] X.env := by rfl)
    (hpl : (backTo pos (starEach [.Tuple [.Name t pt, .Name t' pt'] kt ptt] X.env)).any (·.1) = false := by rfl) : DE X (.Call (.Name "isinstance" p) [e, .Tuple [.Name t pt, .Name t' pt'] kt ptt] [] pos) (f1 (isiW [T, T']) f) :=
  (pe_callB call_isiT hg hm boot_isinstance (pa_cons he (pa_cons (pe_tup (pa_cons (pe_bltn (v := .ty T) hgt hmt hv rfl hnt hdt) (pa_cons (pe_bltn (v := .ty T') hgt' hmt' hv' rfl hnt' hdt') pa_nil h4) h3)) pa_nil h2) h1) (by decide) (by decide) h1 hpl).weak fun σ H Q => by
    rintro ⟨M, h, ρ, r, rs, c⟩
    obtain ⟨w, h1, e1, c1⟩ := Cont.bind (δ := Unit) c
    refine ⟨M, h, ρ, r, rs, w, h1, e1, fun M1 H1 v x1 r1 v1 => ⟨by show 2 ≤ sizeLine; decide, fun tp ntp => ?_⟩⟩
    have c2 := c1 M1 H1 x1
    unfold isiW at c2
    split at c2
    · exact c2.no.elim
    · rename_i d n0 e
      have r2 := r1.upd_new (o := .tup [.ty T, .ty T']) ntp
      have q := c2.fin (v := .bl _) (ext_new ntp) r2 (.bl _)
      refine ⟨v, tp, [.ty T, .ty T'], _, [.type T, .type T'], _, rfl, upd_same, .cons (.ty T) (.cons (.ty T') .nil), (rr_ty n0 (deref_rr r2 (v1.mono (ext_new ntp)) e)), ?_, q⟩
      refine kitAny_cons (kit_ty (kit1 T ht d)) (fun hb => kitAny_cons (r := isT1 T' d) (kit_ty (kit1 T' ht' d)) (fun hb' => by rw [hb']; rfl) (fun hb' => hb') |>.trans ?_) (fun hb => ?_)
      · simp [hb]
      · simp [hb]
    · exact c2.no.elim
end
end
end DL
set_option maxRecDepth 100000
set_option maxHeartbeats 4000000
namespace DL
open PySem PySem.Spec PyProof.Rows L2
variable [HW]
def flatD : D → Bool
  | .none => true
  | .bool _ => true
  | .int _ => true
  | .str _ => true
  | _ => false
theorem rd_flat {M : Mm} {H : Hp} {v : V} {d : D} (r : RD M H v d) (f : flatD d = true) : flatV v = true := by
  cases d <;> first | (cases r; rfl) | cases f
theorem rds_flat {M : Mm} {H : Hp} : ∀ {vs : List V} {ds : List D}, RDs M H vs ds → ds.all flatD = true → vs.all flatV = true
  | _, _, .nil, _ => rfl
  | _, _, .cons a t, f => by
    rw [List.all_cons, Bool.and_eq_true] at f
    rw [List.all_cons, rd_flat a f.1, rds_flat t f.2]; rfl
theorem eqV_eqv {M : Mm} {H : Hp} {x y : V} {a b : D} (ra : RD M H x a) (rb : RD M H y b) (fa : flatD a = true) (fb : flatD b = true) : eqV x y = PyData.eqv a b := by
  cases a <;> cases b <;> first | (exfalso; simp [flatD] at fa; done) | (exfalso; simp [flatD] at fb; done) | (cases ra; cases rb; simp [eqV, PyData.eqv])
theorem inV_eq {M : Mm} {H : Hp} {x : V} {d : D} (r : RD M H x d) (f : flatD d = true) : ∀ {vs : List V} {ds : List D}, RDs M H vs ds → ds.all flatD = true → inV x vs = ds.any fun y => PyData.eqv y d
  | _, _, .nil, _ => rfl
  | _, _, .cons a t, q => by
    rw [List.all_cons, Bool.and_eq_true] at q
    have ih := inV_eq r f t q.2
    unfold inV at ih ⊢
    rw [List.any_cons, List.any_cons, ih, eqV_eqv a r q.1 f]
def inW (neg : Bool) (x y : W) (h : Hh) : Option (W × Hh) := match x with
  | .dat d => match deref h y with
    | some (.dict es) => match getD es d with
      | some o => bok (if neg = true then !o.isSome else o.isSome) h
      | none => none
    | some (.list ds) => if (flatD d && ds.all flatD) = true then bok (if neg = true then !ds.any (fun z => PyData.eqv z d) else ds.any fun z => PyData.eqv z d) h
      else if (shp d && shp (.list ds)) = true then bok (if neg = true then !ds.any (fun z => PyData.eqv z d) else ds.any fun z => PyData.eqv z d) h else none
    | some (.tuple ds) => if (flatD d && ds.all flatD) = true then bok (if neg = true then !ds.any (fun z => PyData.eqv z d) else ds.any fun z => PyData.eqv z d) h else none
    | some (.str z) => match d with
      | .str ⟨⟨[c]⟩⟩ => bok (if neg = true then !decide (c ∈ z.cps.toList) else decide (c ∈ z.cps.toList)) h
      | _ => none
    | _ => none
  | _ => none
section
variable {X : Cx}
def rInDict (neg : Bool) : R2 := fun y x H Q => ∃ a o, x = .ref a ∧ DGetX H a y o ∧ Q (.bl (if neg = true then !o.isSome else o.isSome)) H
theorem op_notInDict (hu : X.A.units + 1 < cLine) (W : HWX X) : OpR X (compareOp .NotIn) (rInDict true) := by
  intro pins s σ H x y v u Q I rx ry q
  obtain ⟨a, o, rfl, g, q⟩ := q
  obtain rfl : u = Value.ref a := ry
  exact dx_notIn hu W I g rx fun s' I' => ⟨.bl _, H, I', rfl, q⟩
def rInA (K : PySem.W.Frag) (neg : Bool) : R2 := fun x y H Q => rIn K neg x y H Q ∨ rInDict neg x y H Q ∨
  (∃ d ds, Dp K H x d ∧ Dp K H y (.list ds) ∧ SeqAt.shaped d = true ∧ SeqAt.shaped (.list ds) = true ∧ Q (.bl (if neg = true then !ds.any (fun z => PyData.eqv z d) else ds.any fun z => PyData.eqv z d)) H) ∨
  ∃ c z, x = .str ⟨#[c]⟩ ∧ y = .str z ∧ Q (.bl (if neg = true then !decide (c ∈ z.cps.toList) else decide (c ∈ z.cps.toList))) H
theorem o_notin {k : Nat} (hr : Room k X.A) (W : HWX X := by exact ⟨rfl, rfl⟩) : OpR X (compareOp .NotIn) (rInA X.K true) :=
  op_notIn_seq.or ((op_notInDict (hu_of hr) W).or ((op_notInD (Nat.lt_of_le_of_lt (Nat.add_le_add_left (by decide) _) (show X.A.units + 200 < cLine by have := hr.un; omega))).or op_notIn_sign))
theorem s_in (neg : Bool) : Sem2 (rInA X.K neg) (inW neg) := by
  intro M H h x y wx wy Q rep rx ry c
  unfold inW at c
  split at c
  · rename_i d
    split at c
    · rename_i es e
      split at c
      · rename_i o eo
        obtain ⟨a, ov, rfl, g, ro⟩ := get_ok (deref_rr rep ry e) rx eo
        refine .inr (.inl ⟨a, ov, rfl, g, ?_⟩)
        rw [ro.some_iff]
        exact c.here rep (.bl _)
      · exact c.no.elim
    · rename_i ds e
      obtain ⟨a, xs, rfl, ha, q⟩ := deref_rr rep ry e
      split at c
      · rename_i hz
        rw [Bool.and_eq_true] at hz
        refine .inl ⟨a, xs, rfl, .inl (.of ha), rd_flat rx hz.1, rds_flat q hz.2, ?_⟩
        rw [inV_eq rx hz.1 q hz.2]
        cases neg <;> exact c.here rep (.bl _)
      · split at c
        · rename_i hz
          rw [Bool.and_eq_true] at hz
          exact .inr (.inr (.inl ⟨d, ds, RD.dp rx (SeqAt.canLay_of_shaped hz.1), rr_dp (deref_rr rep ry e) (SeqAt.canLay_of_shaped hz.2), hz.1, hz.2, c.here rep (.bl _)⟩))
        · exact c.no.elim
    · rename_i ds e
      obtain ⟨a, xs, rfl, _, ha, q⟩ := rr_tup (deref_rr rep ry e)
      split at c
      · rename_i hz
        rw [Bool.and_eq_true] at hz
        refine .inl ⟨a, xs, rfl, .inr ha.sq, rd_flat rx hz.1, rds_flat q hz.2, ?_⟩
        rw [inV_eq rx hz.1 q hz.2]
        cases neg <;> exact c.here rep (.bl _)
      · exact c.no.elim
    · rename_i z e
      obtain rfl := rr_str (deref_rr rep ry e)
      split at c
      · rename_i ch
        cases (show RD M H _ _ from rx)
        exact .inr (.inr (.inr ⟨ch, z, rfl, rfl, c.here rep (.bl _)⟩))
      · exact c.no.elim
    · exact c.no.elim
  · exact c.no.elim
theorem t_notin {k : Nat} (hr : Room k X.A) {a b : Expr} {pos : Pos} {f g : EM} (ha : DE X a f) (hb : DE X b g) (hm : behindInMarks .NotIn b = false := by rfl) (W : HWX X := by exact ⟨rfl, rfl⟩) : DT X (.Compare a [.NotIn] [b] pos) (fB (f2 (inW true) f g)) := dt_of_cmp (o_notin hr W) (s_in true) ha hb hm
theorem collect_grown {prog : Program} {w : World} {A : Around} {E : Value → Shared → Prop} {s : Shared} {Q : List Value → Shared → Prop} (it : Addr) {T : String} {o : Obj} {its : Array Value} {n : Nat} (hT : T = "list" ∨ T = "tuple") (ho : s.heap.get? it = some o) (hc : o.cls = .type T) (hd : o.data = .seq its n) (hsz : its.size ≤ sizeLine)
    (hQ : ∀ h', s.heap.objs.size ≤ h'.objs.size → (∀ b o', s.heap.get? b = some o' → h'.get? b = some o') → Q its.toList { s with heap := h' }) : wpAny (model prog w) A (collect (.ref it)) Q E s := by
  let g0 : Heap := s.heap.push { cls := .type "list", data := .seq ([] : List Value).toArray }
  let g1 : Heap := g0.update s.heap.objs.size (Obj.mapSeq (· ++ its))
  have a0 : g0.get? s.heap.objs.size = some { cls := .type "list", data := .seq #[] 0 } := Heap.get?_push_size _ rfl
  have a1 : g1.get? s.heap.objs.size = _ := Heap.get?_update_self (Obj.mapSeq (· ++ its)) a0 rfl
  have last : wpAny (model prog w) A (match Value.ref s.heap.objs.size with
      | Value.ref a => do
        match (← load a).data with
          | Data.seq xs _ => pure xs.toList
          | _ => unsupported "internal:collect"
      | _ => unsupported "internal:collect") Q E { s with heap := g1 } := by
    show wpAny _ A (load s.heap.objs.size >>= _) _ _ _
    refine wpAny_bind (wpAny_load a1 (wpAny_pure ?_))
    have e : ((#[] : Array Value) ++ its).toList = its.toList := by simp
    show Q ((#[] : Array Value) ++ its).toList _
    rw [e]
    refine hQ g1 ?_ fun b o' hb => (Heap.get?_update_other _ _ (Nat.ne_of_gt (Heap.lt_size hb))).trans (Heap.get?_push_of_some _ hb)
    show _ ≤ (g0.update s.heap.objs.size (Obj.mapSeq (· ++ its))).objs.size
    rw [Heap.size_update, size_push']
    exact Nat.le_succ _
  unfold collect
  refine wpAny_bind (wpAny_runValue (codeAny_builtin F.entry_proto_collect ?_))
  rw [Around.under_plainId F.plain_proto_collect _]
  show wpAny _ A.in1 (newList [] >>= fun l => again (.builtin "list.__iadd__" ⟨[l, .ref it], []⟩)) _ _ s
  refine wpAny_bind (wpAny_newObj_type (wpAny_pure ⟨plainId_quiet F.plain_list_iadd _, codeAny_builtin F.entry_list_iadd ?_⟩))
  rw [Around.under_plainId F.plain_list_iadd _]
  show wpAny _ A.in1 (Builtin.List.listExtendWith (.ref s.heap.objs.size) (.ref it) (.ref s.heap.objs.size)) _ _ _
  refine wpAny_mono (wpAny_extend_seq (hsz := hsz) (A := A) (R := fun r s' => r = .ok (.ret (.ref s.heap.objs.size)) ∧ s' = { s with heap := g1 }) (s := { s with heap := g0 }) _ it _ 0 hT a0 (Heap.get?_push_of_some _ ho) hc hd ⟨rfl, rfl⟩) (fun fin s' q => ?_) fun e s' q => absurd q.1 (by simp)
  cases fin with
  | done f => obtain ⟨e, rfl⟩ := q; cases e; exact last
  | again c' => exact ⟨q.1, codeAny_mono q.2 fun r s2 hr => by obtain ⟨rfl, rfl⟩ := hr; exact last⟩
theorem sorted_any {prog : Program} {w : World} {A : Around} {E : Value → Shared → Prop} {s : Shared} {x : Value} {β : Type} {R : Value → β → Prop} {vs : List Value} {bs : List β} {enc : β → PyData} {Q : Value → Shared → Prop}
    (hcol : ∀ (Q' : List Value → Shared → Prop), (∀ h', s.heap.objs.size ≤ h'.objs.size → (∀ b o, s.heap.get? b = some o → h'.get? b = some o) → Q' vs { s with heap := h' }) → wpAny (model prog w) A.in1 (collect x) Q' E s)
    (e : PySem.W.EachIs R vs bs) (er : PySem.W.EachIs (fun v b => ∃ as, Reads s.heap v (enc b) as) vs bs) (hal : PySem.W.AllAlike (bs.map enc)) (hk : PySem.W.Sortable (bs.map enc)) (hL : bs.length ≤ sizeLine) (hu : ∀ b, b ∈ bs → A.units + 2 + (enc b).depth < cLine)
    (h : ∀ out p c h', (∀ b o, s.heap.get? b = some o → h'.get? b = some o) → s.heap.objs.size ≤ p → h'.get? p = some (seqObj "list" (List.toArray out) c) → PySem.W.EachIs R out (bs.mergeSort (PySem.W.dataLe false enc)) → Q (.ref p) { s with heap := h' }) :
    wpAny (model prog w) A (call (.builtin "sorted") [x]) Q E s := by
  refine call_function_entry_kw kind_sorted plain_sorted entry_sorted (args_sorted1 _) ?_
  have hv : vs.length ≤ sizeLine := by rw [e.length]; exact hL
  unfold Builtin.«sorted»
  refine wpAny_bind (m := checkCount "sorted" 1 1 _) (wpAny_pure (wpAny_bind (hcol _ fun g hg kg => wpAny_bind (wpAny_newList ?_ hv))))
  have at_ : (g.push (seqObj "list" vs.toArray 0)).get? g.objs.size = some (seqObj "list" vs.toArray 0) := Heap.get?_push_size _ rfl
  have up : ∀ b o, s.heap.get? b = some o → b ≠ g.objs.size ∧ (g.push (seqObj "list" vs.toArray 0)).get? b = some o := fun b o q => ⟨Nat.ne_of_lt (Heap.lt_size (kg b o q)), Heap.get?_push_of_some _ (kg b o q)⟩
  have er' : PySem.W.EachIs (fun v b => ∃ as, Reads (PySem.W.sortingHeap (g.push (seqObj "list" vs.toArray 0)) g.objs.size vs) v (enc b) as) vs bs := er.mono fun _ _ ⟨as, r⟩ => ⟨as, PyProof.Rows.Reads.keeps (fun b o q => PySem.W.sortingHeap_old (up b o q).1 (up b o q).2) r⟩
  refine wpAny_bind (wpAny_holding (wpAny_call_entry_kw slot_list_sort ⟨_, at_, rfl⟩ entry_list_sort ?_ (args_list_sort _)))
  refine PySem.W.list_sort_vals (s := { s with heap := g.push (seqObj "list" vs.toArray 0) }) at_ (PySem.W.SortsAt.data (s := { s with heap := PySem.W.sortingHeap (g.push (seqObj "list" vs.toArray 0)) g.objs.size vs }) (PySem.W.each_map (R := fun v d => ∃ as, Reads (PySem.W.sortingHeap (g.push (seqObj "list" vs.toArray 0)) g.objs.size vs) v d as) enc er') hal hk (PySem.W.bound_map (A := A.in1.in1) hu)) hv ?_
  refine ⟨_, rfl, wpAny_pure ⟨_, rfl, ?_⟩⟩
  obtain ⟨c, hc⟩ := sortedHeap_at (vs := vs) (out := (PySem.W.sortVals (PySem.W.dataKind (PySem.W.sortingHeap (g.push (seqObj "list" vs.toArray 0)) g.objs.size vs) (bs.map enc)) false vs vs).toArray) at_
  exact h _ _ c _ (fun b o q => by rw [sortedHeap_old (up b o q).1 (Heap.lt_size (up b o q).2)]; exact (up b o q).2) hg hc (PySem.W.sortVals_data false e er' hal)
def rSortedA (K : PySem.W.Frag) : List V → Hp → VK → Prop := fun vs H Q => ∃ (a : Addr) (bs : List (V × D)), vs = [.ref a] ∧ (SqL K H a (bs.map (·.1)) ∨ SqT K H a (bs.map (·.1))) ∧ (∀ b ∈ bs, Dp K H b.1 b.2) ∧ PySem.W.AllAlike (bs.map (·.2)) ∧ PySem.W.Sortable (bs.map (·.2)) ∧
  (∀ b ∈ bs, b.2.depth ≤ 64) ∧ ∀ p, H p = none → Q (.ref p) (upd H p (.lst ((bs.mergeSort (PySem.W.dataLe false (·.2))).map (·.1))))
theorem each_zip {I : Prop} {s : Shared} {K : PySem.W.Frag} {H : Hp} (rd : ∀ (d : D) (v : V) (u : Value), Dp K H v d → RelV v u → ∃ as, Reads s.heap u d as) : ∀ {bs : List (V × D)} {its : List Value}, Vals (bs.map (·.1)) its → (∀ b ∈ bs, Dp K H b.1 b.2) →
    PySem.W.EachIs (fun (u : Value) (b : V × D) => RelV b.1 u) its bs ∧ PySem.W.EachIs (fun (u : Value) (b : V × D) => ∃ as, Reads s.heap u b.2 as) its bs
  | [], _, r, _ => by cases r; exact ⟨.nil, .nil⟩
  | b :: bs, _, r, q => by
    cases r with
    | cons r1 r2 =>
      obtain ⟨h1, h2⟩ := each_zip (I := I) rd r2 fun b hb => q b (List.mem_cons_of_mem _ hb)
      exact ⟨.cons r1 h1, .cons (rd _ _ _ (q b List.mem_cons_self) r1) h2⟩
theorem each_vals : ∀ {out : List Value} {bs : List (V × D)}, PySem.W.EachIs (fun (u : Value) (b : V × D) => RelV b.1 u) out bs → Vals (bs.map (·.1)) out
  | _, _, .nil => .nil
  | _, _, .cons a t => .cons a (each_vals t)
theorem cr_sortedA {k : Nat} (hr : Room k X.A) : CallR X (.builtin "sorted") (rSortedA X.K) := by
  intro pins s σ H vs us Q I rv q
  obtain ⟨a, bs, rfl, hs, hd, hal, hk, hdep, q⟩ := q
  obtain rfl := Vals.ref1 rv
  obtain ⟨its, T, o, n, vl, ho, hc, hdat, hT, hz⟩ : ∃ (its : List Value) (T : String) (o : Obj) (n : Nat), Vals (bs.map (·.1)) its ∧ s.heap.get? a = some o ∧ o.cls = .type T ∧ o.data = .seq its.toArray n ∧ (T = "list" ∨ T = "tuple") ∧ (bs.map (·.1)).length ≤ sizeLine := by
    rcases hs with hs | hs
    · obtain ⟨its, vl, ⟨o, n, h1, h2, _, h3⟩, hz⟩ := I.list hs
      exact ⟨its, "list", o, n, vl, h1, h2, h3, .inl rfl, hz⟩
    · obtain ⟨its, vl, ⟨o, h1, h2, n, h3⟩, hz⟩ := I.tuple hs
      exact ⟨its, "tuple", o, n, vl, h1, h2, h3, .inr rfl, hz⟩
  have hl : bs.length ≤ sizeLine := by rw [List.length_map] at hz; exact hz
  obtain ⟨e1, e2⟩ := each_zip (I := True) (fun d v u => Dp.reads I d v u) vl hd
  refine sorted_any (x := .ref a) (vs := its) (bs := bs) (enc := (·.2)) (fun Q' k => collect_grown a hT ho hc hdat (by have := vl.length; simp only [List.size_toArray]; omega) fun h' hz kh => k h' hz kh) e1 e2 hal hk hl (fun b hb => by have := hr.un; have := hdep b hb; show X.A.units + 2 + b.2.depth < cLine; omega) fun out p c h' kp hp hD eo => ?_
  have vo := each_vals eo
  have hlen : ((bs.mergeSort (PySem.W.dataLe false (·.2))).map (·.1)).length ≤ sizeLine := by rw [List.length_map, List.length_mergeSort]; exact hl
  exact ⟨.ref p, upd H p (.lst ((bs.mergeSort (PySem.W.dataLe false (·.2))).map (·.1))), I.laid (t' := s.toks) kp hp ⟨hlen, out, c, vo, hD⟩, rfl, q p (I.hok.fresh hp)⟩
noncomputable def sortD (ds : List D) : List D := ds.mergeSort (PySem.W.dataLe false fun d => d)
def sortable (ds : List D) : Bool := (ds.all fun d => ds.all fun e => PySem.W.alike d e) && ((ds.all fun d => match d with | .tuple (_ :: _) => true | _ => false) || (ds.all fun d => match d with | .none => false | .tuple _ => false | _ => true)) && ds.all shp
noncomputable def sortW (m : Bool) (ws : List W) (h : Hh) : Option (W × Hh) := match ws with
  | [w] => match deref h w with
    | some (.list ds) => if sortable ds = true then mkL m (sortD ds) h else none
    | some (.tuple ds) => if sortable ds = true then mkL m (sortD ds) h else none
    | _ => none
  | _ => none
theorem rds_zip {M : Mm} {H : Hp} : ∀ {xs : List V} {ds : List D}, RDs M H xs ds → ∃ bs : List (V × D), xs = bs.map (·.1) ∧ ds = bs.map (·.2) ∧ ∀ b ∈ bs, RD M H b.1 b.2
  | _, _, .nil => ⟨[], rfl, rfl, fun b hb => by cases hb⟩
  | x :: xs, d :: ds, .cons a t => by
    obtain ⟨bs, e1, e2, q⟩ := rds_zip t
    refine ⟨(x, d) :: bs, by rw [e1]; rfl, by rw [e2]; rfl, fun b hb => ?_⟩
    rcases List.mem_cons.mp hb with rfl | hb
    · exact a
    · exact q b hb
theorem zip_rds {M : Mm} {H : Hp} : ∀ {bs : List (V × D)}, (∀ b ∈ bs, RD M H b.1 b.2) → RDs M H (bs.map (·.1)) (bs.map (·.2))
  | [], _ => .nil
  | b :: bs, q => .cons (q b List.mem_cons_self) (zip_rds fun c hc => q c (List.mem_cons_of_mem _ hc))
theorem sortable_ok {ds : List D} (h : sortable ds = true) : PySem.W.AllAlike ds ∧ PySem.W.Sortable ds ∧ ∀ d ∈ ds, shp d = true := by
  unfold sortable at h
  simp only [Bool.and_eq_true, Bool.or_eq_true, List.all_eq_true] at h
  obtain ⟨⟨h1, h2⟩, h3⟩ := h
  refine ⟨fun d hd d' hd' => h1 d hd d' hd', ?_, h3⟩
  rcases h2 with h2 | h2
  · refine .inl fun d hd => ?_
    have q := h2 d hd
    split at q
    · exact ⟨_, _, rfl⟩
    · cases q
  · refine .inr fun d hd => ⟨fun e => ?_, fun xs e => ?_⟩
    · subst e; exact absurd (h2 _ hd) (by simp)
    · subst e; exact absurd (h2 _ hd) (by simp)
theorem sort_imp {M : Mm} {H : Hp} {xs : List V} {ds : List D} {a : Addr} {m : Bool} {h : Hh} {Q : VK} (rep : Rep M H h) (q : RDs M H xs ds) (hs : SqL X.K H a xs ∨ SqT X.K H a xs) (hz : sortable ds = true) (c : Cont RV (mkL m (sortD ds) h) M H Q) : rSortedA X.K [.ref a] H Q := by
  obtain ⟨bs, rfl, rfl, qb⟩ := rds_zip q
  obtain ⟨h1, h2, h3⟩ := sortable_ok hz
  have h3' : ∀ b ∈ bs, shp b.2 = true := fun b hb => h3 _ (List.mem_map.mpr ⟨b, hb, rfl⟩)
  refine ⟨a, bs, rfl, hs, fun b hb => RD.dp (qb b hb) (SeqAt.canLay_of_shaped (h3' b hb)), h1, h2, fun b hb => SeqAt.depth_of_shaped (h3' b hb), fun p np => ?_⟩
  have e : sortD (bs.map (·.2)) = (bs.mergeSort (PySem.W.dataLe false (·.2))).map (·.2) := (PySem.W.sort_maps (r := PySem.W.dataLe false fun b : V × D => b.2) (s := PySem.W.dataLe false fun d : D => d) (fun b : V × D => b.2) (l := bs) fun _ _ _ _ => rfl).symm
  rw [e] at c
  exact mkL_fin rep np (zip_rds fun b hb => qb b ((List.mergeSort_perm bs _).mem_iff.mp hb)) c
theorem s_sorted (m : Bool) : SemA (rSortedA X.K) (sortW m) := by
  intro M H h vs ws Q rep rv c
  unfold sortW at c
  split at c
  · obtain ⟨v, rfl, r⟩ := rvs1 rv
    split at c
    · rename_i ds e
      obtain ⟨a, xs, rfl, ha, q⟩ := deref_rr rep r e
      split at c
      · rename_i hz
        exact sort_imp rep q (.inl (.of ha)) hz c
      · exact c.no.elim
    · rename_i ds e
      obtain ⟨a, xs, rfl, _, ha, q⟩ := rr_tup (deref_rr rep r e)
      split at c
      · rename_i hz
        exact sort_imp rep q (.inr ha.sq) hz c
      · exact c.no.elim
    · exact c.no.elim
  · exact c.no.elim
def isL (w : W) (h : Hh) : Bool := match deref h w with
  | some (.list _) => true
  | _ => false
def fM (chk : W → Hh → Bool) (sem : W → List W → Hh → Option (W × Hh)) (f : EM) (g : AM) : EM := fun ρ h => obnd (f ρ h) fun w h1 => if chk w h1 = true then obnd (g ρ h1) fun ws h2 => sem w ws h2 else none
def SemM (r : V → List V → Hp → VK → Prop) (sem : W → List W → Hh → Option (W × Hh)) : Prop := ∀ (M : Mm) (H : Hp) (h : Hh) (x : V) (w : W) (vs : List V) (ws : List W) (Q : VK), Rep M H h → RV M H x w → RVs M H vs ws → Cont RV (sem w ws h) M H Q → r x vs H Q
theorem isL_ty {K : PySem.W.Frag} {M : Mm} {H : Hp} {h : Hh} {v : V} {w : W} (rep : Rep M H h) (r : RV M H v w) (e : isL w h = true) : tyV K "list" v H := by
  unfold isL at e
  split at e
  · rename_i ds q
    obtain ⟨a, xs, rfl, ha, _⟩ := deref_rr rep r q
    exact .inl ⟨rfl, _, .of ha⟩
  · cases e
theorem meth_imp {K : PySem.W.Frag} {r : V → List V → Hp → VK → Prop} {sem : W → List W → Hh → Option (W × Hh)} {f : EM} {g : AM} (hs : SemM r sem) : ∀ σ H Q, tE (fM isL sem f g) σ H Q → tBM K "list" r (tE f) (tA g) σ H Q := fun σ H Q => by
  rintro ⟨M, h, ρ, r, rs, c⟩
  obtain ⟨w, h1, e1, c1⟩ := Cont.bind (δ := Unit) c
  refine ⟨M, h, ρ, r, rs, w, h1, e1, fun M1 H1 v x1 r1 v1 => ?_⟩
  have c2 := c1 M1 H1 x1
  split at c2
  · rename_i hl
    refine ⟨isL_ty r1 v1 hl, M1, h1, ρ, r1, rs.mono x1, ?_⟩
    obtain ⟨w2, h2, e2, c3⟩ := Cont.bind (δ := Unit) c2
    exact ⟨w2, h2, e2, fun M2 H2 v2 x2 r2 q2 => hs M2 H2 h2 _ w _ w2 Q r2 (v1.mono x2) q2 (c3 M2 H2 x2)⟩
  · exact c2.no.elim
def lstAt (h : Hh) (n : Nat) : Option (List D) := match h[n]? with
  | some (some (.lst ds)) => some ds
  | _ => none
theorem lstAt_ok {M : Mm} {H : Hp} {h : Hh} {n : Nat} {ds : List D} {a : Addr} (rep : Rep M H h) (e : lstAt h n = some ds) (ea : M.m[n]? = some (some a)) : ∃ xs, H a = some (.lst xs) ∧ RDs M H xs ds := by
  obtain ⟨o, ho, ro⟩ := rep.at_ n a ea
  unfold lstAt at e
  rw [ho] at e
  cases o with
  | lst ds' => cases e; exact ro
  | dic _ => cases e
  | dit _ => cases e
  | tab _ _ => cases e
  | ins _ _ => cases e
  | obj _ _ => cases e
  | los _ => cases e
  | dpk _ => cases e
def setL (h : Hh) (n : Nat) (ds : List D) (r : D) : Option (W × Hh) := some (.dat r, h.set n (some (.lst ds)))
theorem setL_fin {M : Mm} {H : Hp} {h : Hh} {n : Nat} {a : Addr} {ds : List D} {d : D} {ys : List V} {v : V} {Q : VK} (rep : Rep M H h) (ea : M.m[n]? = some (some a)) (q : RDs M H ys ds) (rv : RD M H v d) (c : Cont RV (setL h n ds d) M H Q) : Q v (upd H a (.lst ys)) :=
  c.fin (ext_set ea) (rep.set ea ⟨ys, upd_same, q.mono (ext_set ea).ext⟩) (rv.mono (ext_set ea).ext)
def appendW (w : W) (ws : List W) (h : Hh) : Option (W × Hh) := match w, ws with
  | .ref n, [.dat d] => match lstAt h n with
    | some ds => if ds.length < sizeLine then setL h n (ds ++ [d]) .none else none
    | none => none
  | _, _ => none
def insertW (w : W) (ws : List W) (h : Hh) : Option (W × Hh) := match w, ws with
  | .ref n, [.dat (.int i), .dat d] => match lstAt h n with
    | some ds => if ds.length < sizeLine ∧ 0 ≤ i ∧ i < 1000000 then setL h n (ds.take i.toNat ++ [d] ++ ds.drop i.toNat) .none else none
    | none => none
  | _, _ => none
theorem RDs.dropLast {M : Mm} {H : Hp} {xs : List V} {ds : List D} (q : RDs M H xs ds) : RDs M H xs.dropLast ds.dropLast := by
  rw [List.dropLast_eq_take, List.dropLast_eq_take, q.length]; exact q.take _
end
end DL
set_option maxRecDepth 100000
set_option maxHeartbeats 4000000
namespace DL
open PySem PySem.Spec PyProof.Rows L2
variable [HW]
abbrev TM := W → Env → Hh → Option Env
abbrev TMs := List D → Env → Hh → Option Env
def tGd (ts : List Nat) (g : TM) : TG := fun v σ H Q => ∃ M h ρ w ρ', Rep M H h ∧ RS M H ρ σ ∧ RV M H v w ∧ g w ρ h = some ρ' ∧ ∀ σ' : L2.St, RS M H ρ' σ' → σ'.length = σ.length → (∀ j, j ∉ ts → σ'[j]? = σ[j]?) → Q σ' H
def tGds (ts : List Nat) (g : TMs) : TGs := fun vs σ H Q => ∃ M h ρ ds ρ', Rep M H h ∧ RS M H ρ σ ∧ RDs M H vs ds ∧ g ds ρ h = some ρ' ∧ ∀ σ' : L2.St, RS M H ρ' σ' → σ'.length = σ.length → (∀ j, j ∉ ts → σ'[j]? = σ[j]?) → Q σ' H
abbrev DG (X : Cx) (tg : Expr) (ts : List Nat) (g : TM) : Prop := PG X tg (tGd ts g)
abbrev DGs (X : Cx) (tgs : List Expr) (ts : List Nat) (g : TMs) : Prop := PGs X tgs (tGds ts g)
theorem _root_.L2.PGs.weak {X : Cx} {e : List Expr} {t t' : TGs} (h : PGs X e t) (i : ∀ v σ H Q, t' v σ H Q → t v σ H Q) : PGs X e t' := ⟨fun pins s σ H v u Q I r q => h.run pins s σ H v u Q I r (i v σ H Q q)⟩
def gN (i : Nat) : TM := fun w ρ _ => some (ρ.set i (some w))
def gE : TMs := fun ds ρ _ => match ds with
  | [] => some ρ
  | _ => none
def gC (g : TM) (k : TMs) : TMs := fun ds ρ h => match ds with
  | d :: ds => match g (.dat d) ρ h with
    | some ρ' => k ds ρ' h
    | none => none
  | [] => none
def gT (n : Nat) (k : TMs) : TM := fun w ρ h => match deref h w with
  | some (.tuple ds) => if ds.length = n then k ds ρ h else none
  | some (.list ds) => if ds.length = n then k ds ρ h else none
  | _ => none
section
variable {X : Cx}
theorem dg_name (i : Nat) {x : Str} {pos : Pos} (h : PG X (.Name x pos) (gName i)) : DG X (.Name x pos) [i] (gN i) := h.weak fun v σ H Q => by
  rintro ⟨M, h, ρ, w, ρ', r, rs, rv, e, q⟩
  cases e
  exact q _ (rs.set rv) (by simp) fun j hj => List.getElem?_set_ne (fun z => hj (by simp [z]))
theorem dgs_nil : DGs X [] [] gE := pgs_nil.weak fun v σ H Q => by
  rintro ⟨M, h, ρ, ds, ρ', r, rs, rv, e, q⟩
  unfold gE at e
  split at e
  · cases e; cases rv; exact ⟨rfl, q σ rs rfl fun _ _ => rfl⟩
  · cases e
theorem dgs_cons {tg : Expr} {tgs : List Expr} {ts ts' : List Nat} {g : TM} {k : TMs} (h1 : DG X tg ts g) (h2 : DGs X tgs ts' k) (hs : (assignEach (tg :: tgs) X.env).map (·.2) = assign tg X.env :: (assignEach tgs X.env).map (·.2) := by rfl) : DGs X (tg :: tgs) (ts ++ ts') (gC g k) :=
  (pgs_cons h1 h2 hs).weak fun v σ H Q => by
    rintro ⟨M, h, ρ, ds, ρ', r, rs, rv, e, q⟩
    unfold gC at e
    split at e
    · rename_i d ds'
      split at e
      · rename_i ρ1 e1
        cases rv with
        | cons a t =>
          refine ⟨_, _, rfl, M, h, ρ, .dat d, ρ1, r, rs, a, e1, fun σ1 rs1 l1 o1 => ⟨M, h, ρ1, ds', ρ', r, rs1, t, e, fun σ2 rs2 l2 o2 => q σ2 rs2 (l2.trans l1) fun j hj => ?_⟩⟩
          rw [o2 j (fun z => hj (List.mem_append_right _ z)), o1 j (fun z => hj (List.mem_append_left _ z))]
      · cases e
    · cases e
theorem _root_.L2.PG.or {tg : Expr} {t t' : TG} (h : PG X tg t) (h' : PG X tg t') : PG X tg (fun v σ H Q => t v σ H Q ∨ t' v σ H Q) := ⟨fun pins s σ H v u Q I r q => q.elim (h.run pins s σ H v u Q I r) (h'.run pins s σ H v u Q I r)⟩
theorem dg_tup {tgs : List Expr} {k : Nat} {pos : Pos} {ts : List Nat} {g : TMs} {n : Nat} (hc : X.calm = true) (h : DGs X tgs ts g) (hn : (assignEach tgs X.env).length = n := by rfl) (hst : (assignEach tgs X.env).findIdx? (·.1) = none := by rfl) : DG X (.Tuple tgs k pos) ts (gT n g) :=
  ((pg_tup hc h hn hst).or (pg_unl hc h hn hst)).weak fun v σ H Q => by
    rintro ⟨M, h, ρ, w, ρ', r, rs, rv, e, q⟩
    unfold gT at e
    split at e
    · rename_i ds ed
      obtain ⟨a, xs, rfl, _, ha, qa⟩ := rr_tup (deref_rr r rv ed)
      split at e
      · rename_i hz
        exact .inl ⟨a, xs, rfl, ha.sq, by rw [qa.length]; exact hz, M, h, ρ, ds, ρ', r, rs, qa, e, q⟩
      · cases e
    · rename_i ds ed
      obtain ⟨a, xs, rfl, ha, qa⟩ := deref_rr r rv ed
      split at e
      · rename_i hz
        exact .inr ⟨a, xs, rfl, .of ha, by rw [qa.length]; exact hz, M, h, ρ, ds, ρ', r, rs, qa, e, q⟩
      · cases e
    · cases e
end
theorem Rep.grow {M : Mm} {H H' : Hp} {h : Hh} (r : Rep M H h) (s : Same H H') : Rep M H' h ∧ ExtE M M H H' := by
  have x : ExtE M M H H' := ⟨rfl, fun a o e => ⟨o, s a o e⟩, fun a o e _ => s a o e, fun _ m => .inl m, Nat.le_refl _, fun _ _ => rfl⟩
  refine ⟨⟨fun a m => ?_, r.len, r.inj, fun i a e => ?_, r.dead⟩, x⟩
  · obtain ⟨h1, o, e, ht⟩ := r.us a m
    exact ⟨h1, o, s a o e, ht⟩
  · obtain ⟨u, hu, ro⟩ := r.at_ i a e
    obtain ⟨z, hz⟩ := ro.some_
    exact ⟨u, hu, ro.move x.ext (by rw [hz]; exact s a z hz)⟩
theorem new_out {M : Mm} {H : Hp} (tr : ∀ a, M.Has a → ∃ o, H a = some o ∧ tpO o = false) {T : Addr} (n : H T = none) : ¬ M.Has T := fun z => by
  obtain ⟨o, e, _⟩ := tr T z
  rw [n] at e; cases e
theorem grow_ext {M : Mm} {H H' : Hp} (s : Same H H') : Ext M M H H' := ⟨fun _ m => .inl m, fun a o e => ⟨o, s a o e⟩, fun a o e _ => s a o e, fun _ m => .inl m, Nat.le_refl _, fun _ _ => .inl rfl⟩
def ItD (M : Mm) (H : Hp) (J : It) (ds : List D) : Prop := ∀ M1 H1, Ext M M1 H H1 → (∀ a, M1.Has a → ∃ o, H1 a = some o ∧ tpO o = false) → (∀ (i : Nat) (d : D), ds[i]? = some d → J.go i H1 ∧ ∀ x H2, J.yld i H1 x H2 → Same H1 H2 ∧ RD M1 H2 x d) ∧ J.stop ds.length H1
abbrev IM := Env → Hh → Option (List D × Hh)
def tI (g : IM) : TI := fun σ H R => ∃ M h ρ ds h', Rep M H h ∧ RS M H ρ σ ∧ g ρ h = some (ds, h') ∧ ∀ M' H' J, ExtE M M' H H' → Rep M' H' h' → ItD M' H' J ds → R J H'
abbrev DI (X : Cx) (tg it : Expr) (g : IM) : Prop := PI X tg it (tI g)
theorem _root_.L2.PI.or {X : Cx} {tg e : Expr} {t t' : TI} (h : PI X tg e t) (h' : PI X tg e t') : PI X tg e (fun σ H R => t σ H R ∨ t' σ H R) := ⟨fun pins s σ H R I q => q.elim (h.run pins s σ H R I) (h'.run pins s σ H R I)⟩
theorem same_refl' {H : Hp} : Same H H := fun _ _ e => e
theorem same_new {H : Hp} {p : Addr} {o : HO} (n : H p = none) : Same H (upd H p o) := fun b x e => by rw [upd_ne (ne_of_none e n)]; exact e
theorem itd_list {K : PySem.W.Frag} {M : Mm} {H : Hp} {a : Addr} {xs : List V} {ds : List D} (n : ¬ M.Has a) (ha : H a = some (.lst xs)) (q : RDs M H xs ds) : ItD M H (Itl K a) ds := fun M1 H1 x tr => by
  have ha1 := x.st n ha
  have q1 := q.mono x
  refine ⟨fun i d e => ?_, ⟨xs, .of ha1, by rw [q.length]; exact Nat.le_refl _⟩⟩
  obtain ⟨v, ev, rv⟩ := q1.get e
  refine ⟨⟨xs, v, .of ha1, ev⟩, fun y H2 hy => ?_⟩
  obtain ⟨e2, hy⟩ := hy
  subst e2
  have := hy xs (.of ha1)
  rw [ev] at this; cases this
  exact ⟨same_refl', rv⟩
theorem itd_tup {K : PySem.W.Frag} {M : Mm} {H : Hp} {a : Addr} {xs : List V} {ds : List D} (n : ¬ M.Has a) (ha : TupAt H a xs ds) (q : RDs M H xs ds) : ItD M H (Itt K a) ds := fun M1 H1 x tr => by
  have ha1 := (ha.to fun _ z => x.st n z).sq (K := K)
  have q1 := q.mono x
  refine ⟨fun i d e => ?_, ⟨xs, ha1, by rw [q.length]; exact Nat.le_refl _⟩⟩
  obtain ⟨v, ev, rv⟩ := q1.get e
  refine ⟨⟨xs, v, ha1, ev⟩, fun y H2 hy => ?_⟩
  obtain ⟨e2, hy⟩ := hy
  subst e2
  have := hy xs ha1
  rw [ev] at this; cases this
  exact ⟨same_refl', rv⟩
def seqI (f : EM) : IM := fun ρ h => obnd (f ρ h) fun w h1 => match w with
  | .dat (.list ds) => some (ds, h1)
  | .dat (.tuple ds) => some (ds, h1)
  | _ => none
section
variable {X : Cx} {tg : Expr}
theorem di_seq {e : Expr} {f : EM} (he : DE X e f) : DI X tg e (seqI f) := ((pi_list he).or (pi_tup he)).weak fun σ H R => by
  rintro ⟨M, h, ρ, ds, h', r, rs, e, q⟩
  unfold seqI at e
  cases ef : f ρ h with
  | none => rw [ef] at e; cases e
  | some p =>
    obtain ⟨w, h1⟩ := p
    rw [ef] at e
    simp only [obnd_some] at e
    split at e
    · cases e
      refine .inl ⟨M, h, ρ, r, rs, _, _, ef, fun M1 H1 v x1 r1 v1 => ?_⟩
      cases (show RD M1 H1 v _ from v1) with
      | lst n ha qa => exact ⟨_, rfl, ⟨_, .of ha⟩, q M1 H1 _ x1 r1 (itd_list n ha qa)⟩
    · cases e
      refine .inr ⟨M, h, ρ, r, rs, _, _, ef, fun M1 H1 v x1 r1 v1 => ?_⟩
      cases (show RD M1 H1 v _ from v1) with
      | tup n ha qa => exact ⟨_, rfl, ⟨_, ha.sq⟩, q M1 H1 _ x1 r1 (itd_tup n ha qa)⟩
    · cases e
def rngD (lo : Int) (n : Nat) : List D := (List.range n).map fun (i : Nat) => .int (lo + (i : Int))
theorem rngD_get {lo : Int} {n i : Nat} {d : D} (e : (rngD lo n)[i]? = some d) : i < n ∧ d = .int (lo + i) := by
  unfold rngD at e
  rw [List.getElem?_map] at e
  cases q : (List.range n)[i]? with
  | none => rw [q] at e; cases e
  | some j =>
    rw [q] at e
    obtain ⟨h1, h2⟩ := List.getElem?_eq_some_iff.mp q
    rw [List.length_range] at h1
    rw [List.getElem_range] at h2
    subst h2
    exact ⟨h1, by simpa using e.symm⟩
theorem itd_rng {M : Mm} {H : Hp} {lo : Int} {n : Nat} : ItD M H (Itr lo n) (rngD lo n) := fun M1 H1 x tr => by
  refine ⟨fun i d e => ?_, ?_⟩
  · obtain ⟨h1, rfl⟩ := rngD_get e
    exact ⟨h1, fun y H2 hy => by obtain ⟨e1, e2⟩ := hy; subst e1 e2; exact ⟨same_refl', .int _⟩⟩
  · show n ≤ _
    simp [rngD]
def rng1I (g : AM) : IM := fun ρ h => obnd (g ρ h) fun ws h1 => match ws with
  | [.dat (.int j)] => if -1000000000 ≤ j ∧ j ≤ 1000000000 then some (rngD 0 j.toNat, h1) else none
  | _ => none
def rng2I (g : AM) : IM := fun ρ h => obnd (g ρ h) fun ws h1 => match ws with
  | [.dat (.int i), .dat (.int j)] => if -1000000000 ≤ i ∧ i ≤ 1000000000 ∧ -1000000000 ≤ j ∧ j ≤ 1000000000 then some (rngD i (j - i).toNat, h1) else none
  | _ => none
theorem di_rng1 (hm : X.mg "range" = none) {a : Expr} {p pos : Pos} {g : AM} (ha : DA X [a] g) (hg : Gl X "range" := by rfl) (hs : starEach [a] X.env = [(false, eval a X.env)] := by rfl) : DI X tg (.Call (.Name "range" p) [a] [] pos) (rng1I g) := (pi_range1 hg hm ha hs).weak fun σ H R => by
  rintro ⟨M, h, ρ, ds, h', r, rs, e, q⟩
  unfold rng1I at e
  cases ef : g ρ h with
  | none => rw [ef] at e; cases e
  | some p =>
    obtain ⟨ws, h1⟩ := p
    rw [ef] at e
    simp only [obnd_some] at e
    split at e
    · split at e
      · rename_i hz
        cases e
        refine ⟨M, h, ρ, r, rs, _, _, ef, fun M1 H1 v x1 r1 v1 => ?_⟩
        obtain ⟨v, rfl, rv⟩ := rvs1 v1
        cases (show RD M1 H1 v _ from rv)
        exact ⟨_, rfl, by omega, by omega, q M1 H1 _ x1 r1 itd_rng⟩
      · cases e
    · cases e
def enumD : Nat → List D → List D
  | _, [] => []
  | i, d :: ds => .tuple [.int (i : Int), d] :: enumD (i + 1) ds
theorem enumD_get : ∀ {ds : List D} {k i : Nat} {d : D}, (enumD k ds)[i]? = some d → ∃ e, ds[i]? = some e ∧ d = .tuple [.int ((k + i : Nat) : Int), e]
  | [], _, _, _, e => by simp [enumD] at e
  | e :: ds, k, 0, d, h => by simp [enumD] at h; exact ⟨e, rfl, by rw [← h]; rfl⟩
  | e :: ds, k, i + 1, d, h => by
    obtain ⟨e', h1, h2⟩ := enumD_get (ds := ds) (k := k + 1) (i := i) (d := d) (by simpa [enumD] using h)
    exact ⟨e', by simpa using h1, by rw [h2, show k + 1 + i = k + (i + 1) by omega]⟩
theorem enumD_len : ∀ (k : Nat) (ds : List D), (enumD k ds).length = ds.length
  | _, [] => rfl
  | k, d :: ds => by simp [enumD, enumD_len (k + 1) ds]
theorem itd_enum {K : PySem.W.Frag} {M : Mm} {H : Hp} {a : Addr} {xs : List V} {ds : List D} (n : ¬ M.Has a) (ha : H a = some (.lst xs)) (q : RDs M H xs ds) : ItD M H (Ite K a) (enumD 0 ds) := fun M1 H1 x tr => by
  have ha1 := x.st n ha
  have q1 := q.mono x
  refine ⟨fun i d e => ?_, ⟨xs, .of ha1, by rw [q.length, enumD_len]; exact Nat.le_refl _⟩⟩
  obtain ⟨d', e', rfl⟩ := enumD_get e
  obtain ⟨v, ev, rv⟩ := q1.get e'
  refine ⟨⟨xs, v, .of ha1, ev⟩, fun y H2 hy => ?_⟩
  obtain ⟨T, z, rfl, nT, rfl, hz⟩ := hy
  have := hz xs (.of ha1)
  rw [ev] at this; cases this
  refine ⟨same_new nT, .tup (fun z => new_out tr nT z) (.inl ⟨rfl, upd_same⟩) (.cons ?_ (.cons (rv.mono (grow_ext (same_new nT))) .nil))⟩
  rw [Nat.zero_add]; exact .int _
def zipD : List D → List D → List D
  | x :: xs, y :: ys => .tuple [x, y] :: zipD xs ys
  | _, _ => []
theorem zipD_get : ∀ {xs ys : List D} {i : Nat} {d : D}, (zipD xs ys)[i]? = some d → ∃ x y, xs[i]? = some x ∧ ys[i]? = some y ∧ d = .tuple [x, y]
  | [], _, _, _, e => by simp [zipD] at e
  | _ :: _, [], _, _, e => by simp [zipD] at e
  | x :: xs, y :: ys, 0, d, e => by simp [zipD] at e; exact ⟨x, y, rfl, rfl, e.symm⟩
  | x :: xs, y :: ys, i + 1, d, e => by
    obtain ⟨a, b, h1, h2, h3⟩ := zipD_get (xs := xs) (ys := ys) (i := i) (d := d) (by simpa [zipD] using e)
    exact ⟨a, b, by simpa using h1, by simpa using h2, h3⟩
def notCall : D → Bool
  | .tuple l => !callD l
  | _ => true
def zipOk (xs ys : List D) : Bool := (zipD xs ys).all notCall
theorem zipOk_get {xs ys : List D} {i : Nat} {l : List D} (ok : zipOk xs ys = true) (e : (zipD xs ys)[i]? = some (.tuple l)) : callD l = false := by
  have := List.all_eq_true.mp ok _ (List.mem_of_getElem? e)
  simpa [notCall] using this
theorem zipD_len : ∀ (xs ys : List D), (zipD xs ys).length = min xs.length ys.length
  | [], _ => by simp [zipD]
  | _ :: _, [] => by simp [zipD]
  | x :: xs, y :: ys => by simp only [zipD, List.length_cons, zipD_len xs ys]; omega
theorem itd_zip {K : PySem.W.Frag} {M : Mm} {H : Hp} {a b : Addr} {xs ys : List V} {ds es : List D} (n : ¬ M.Has a) (ha : H a = some (.lst xs)) (q : RDs M H xs ds) (n' : ¬ M.Has b) (hb : H b = some (.lst ys)) (q' : RDs M H ys es) (ok : zipOk ds es = true) : ItD M H (Itz K a b) (zipD ds es) := fun M1 H1 x tr => by
  have ha1 := x.st n ha
  have hb1 := x.st n' hb
  refine ⟨fun i d e => ?_, ⟨xs, ys, .of ha1, .of hb1, by rw [q.length, q'.length, zipD_len]; omega⟩⟩
  obtain ⟨d1, d2, e1, e2, rfl⟩ := zipD_get e
  obtain ⟨v, ev, rv⟩ := (q.mono x).get e1
  obtain ⟨v', ev', rv'⟩ := (q'.mono x).get e2
  refine ⟨⟨xs, ys, v, v', .of ha1, .of hb1, ev, ev'⟩, fun y H2 hy => ?_⟩
  obtain ⟨T, z, z', rfl, nT, rfl, hz, hz'⟩ := hy
  have t1 := hz xs (.of ha1)
  rw [ev] at t1; cases t1
  have t2 := hz' ys (.of hb1)
  rw [ev'] at t2; cases t2
  exact ⟨same_new nT, .tup (fun z => new_out tr nT z) (.inl ⟨zipOk_get ok e, upd_same⟩) (.cons (rv.mono (grow_ext (same_new nT))) (.cons (rv'.mono (grow_ext (same_new nT))) .nil))⟩
theorem itd_zipT {K : PySem.W.Frag} {M : Mm} {H : Hp} {a b : Addr} {xs ys : List V} {ds es : List D} (n : ¬ M.Has a) (ha : TupAt H a xs ds) (q : RDs M H xs ds) (n' : ¬ M.Has b) (hb : TupAt H b ys es) (q' : RDs M H ys es) (ok : zipOk ds es = true) : ItD M H (RZ.ItzT K a b) (zipD ds es) := fun M1 H1 x tr => by
  have ha1 := (ha.to fun _ z => x.st n z).sq (K := K)
  have hb1 := (hb.to fun _ z => x.st n' z).sq (K := K)
  refine ⟨fun i d e => ?_, ⟨xs, ys, ha1, hb1, by rw [q.length, q'.length, zipD_len]; omega⟩⟩
  obtain ⟨d1, d2, e1, e2, rfl⟩ := zipD_get e
  obtain ⟨v, ev, rv⟩ := (q.mono x).get e1
  obtain ⟨v', ev', rv'⟩ := (q'.mono x).get e2
  refine ⟨⟨xs, ys, v, v', ha1, hb1, ev, ev'⟩, fun y H2 hy => ?_⟩
  obtain ⟨T, z, z', rfl, nT, rfl, hz, hz'⟩ := hy
  have t1 := hz xs ha1
  rw [ev] at t1; cases t1
  have t2 := hz' ys hb1
  rw [ev'] at t2; cases t2
  exact ⟨same_new nT, .tup (fun z => new_out tr nT z) (.inl ⟨zipOk_get ok e, upd_same⟩) (.cons (rv.mono (grow_ext (same_new nT))) (.cons (rv'.mono (grow_ext (same_new nT))) .nil))⟩
def zipI (g : AM) : IM := fun ρ h => obnd (g ρ h) fun ws h1 => match ws with
  | [.dat (.list ds), .dat (.list es)] => if zipOk ds es = true then some (zipD ds es, h1) else none
  | [.dat (.tuple ds), .dat (.tuple es)] => if zipOk ds es = true then some (zipD ds es, h1) else none
  | _ => none
theorem di_zip (hm : X.mg "zip" = none) {e e2 : Expr} {elts : List Expr} {kk : Nat} {p pos tpos : Pos} {g : AM} (ha : DA X [e, e2] g) (hg : Gl X "zip" := by rfl) (hs : starEach [e, e2] X.env = (false, eval e X.env) :: starEach [e2] X.env := by rfl) (hpl : (backTo pos (starEach [e2] X.env)).any (·.1) = false := by rfl) :
    DI X (.Tuple elts kk tpos) (.Call (.Name "zip" p) [e, e2] [] pos) (zipI g) := (RZ.pi_zipA hg hm ha hs hpl).weak fun σ H R => by
  rintro ⟨M, h, ρ, ds, h', r, rs, e, q⟩
  unfold zipI at e
  cases ef : g ρ h with
  | none => rw [ef] at e; cases e
  | some p =>
    obtain ⟨ws, h1⟩ := p
    rw [ef] at e
    simp only [obnd_some] at e
    split at e
    · split at e
      rotate_left
      · cases e
      rename_i ok
      cases e
      refine ⟨M, h, ρ, r, rs, _, _, ef, fun M1 H1 v x1 r1 v1 => ?_⟩
      obtain ⟨v, v', rfl, rv, rv'⟩ := rvs2 v1
      cases (show RD M1 H1 v _ from rv) with
      | lst n ha qa =>
        cases (show RD M1 H1 v' _ from rv') with
        | lst n' hb qb => exact ⟨_, _, _, _, rfl, .inl ⟨.of ha, .of hb, q M1 H1 _ x1 r1 (itd_zip n ha qa n' hb qb ok)⟩⟩
    · split at e
      rotate_left
      · cases e
      rename_i ok
      cases e
      refine ⟨M, h, ρ, r, rs, _, _, ef, fun M1 H1 v x1 r1 v1 => ?_⟩
      obtain ⟨v, v', rfl, rv, rv'⟩ := rvs2 v1
      cases (show RD M1 H1 v _ from rv) with
      | tup n ha qa =>
        cases (show RD M1 H1 v' _ from rv') with
        | tup n' hb qb => exact ⟨_, _, _, _, rfl, .inr ⟨ha.sq, hb.sq, q M1 H1 _ x1 r1 (itd_zipT n ha qa n' hb qb ok)⟩⟩
    · cases e
def signs (z : Str) : List D := z.cps.toList.map fun c => .str ⟨#[c]⟩
def strI (f : EM) : IM := fun ρ h => obnd (f ρ h) fun w h1 => match w with
  | .dat (.str z) => some (signs z, h1)
  | _ => none
end
end DL
set_option maxRecDepth 100000
set_option maxHeartbeats 4000000
namespace DL
open PySem PySem.Spec PyProof.Rows L2
variable [HW]
def wipeE (ρ : Env) : List Nat → Env
  | [] => ρ
  | v :: vs => (wipeE ρ vs).set v none
theorem RS.none_at {M : Mm} {H : Hp} {ρ : Env} {σ : L2.St} (r : RS M H ρ σ) (i : Nat) : RS M H (ρ.set i none) (σ.set i none) := by
  refine ⟨by simp [r.1], fun j u e => ?_⟩
  by_cases hj : i = j
  · subst hj
    by_cases hi : i < ρ.length
    · rw [List.getElem?_set_self hi] at e; cases e
    · rw [List.getElem?_eq_none (by simpa using hi)] at e; cases e
  · rw [List.getElem?_set_ne hj] at e ⊢
    exact r.2 j u e
theorem RS.wipe {M : Mm} {H : Hp} {ρ : Env} {σ : L2.St} (r : RS M H ρ σ) : ∀ vs : List Nat, RS M H (wipeE ρ vs) (L2.wipe σ vs)
  | [] => r
  | v :: vs => (RS.wipe r vs).none_at v
theorem wipe_get (σ : L2.St) : ∀ (vs : List Nat) (j : Nat), (L2.wipe σ vs)[j]? = if j ∈ vs ∧ j < σ.length then some none else σ[j]?
  | [], j => by simp [L2.wipe]
  | v :: vs, j => by
    unfold L2.wipe
    by_cases hj : v = j
    · subst hj
      by_cases hl : v < σ.length
      · rw [List.getElem?_set_self (by rw [L2.wipe_length]; exact hl), if_pos ⟨List.mem_cons_self, hl⟩]
      · rw [List.getElem?_eq_none (by rw [List.length_set, L2.wipe_length]; omega), if_neg (fun z => hl z.2), List.getElem?_eq_none (by omega)]
    · rw [List.getElem?_set_ne hj, wipe_get σ vs j]
      have : j ∈ v :: vs ↔ j ∈ vs := by simp [Ne.symm hj]
      simp only [this]
theorem wipe_of {σ σ2 : L2.St} {ts vs : List Nat} (hl : σ2.length = σ.length) (ho : ∀ j, j ∉ ts → σ2[j]? = (L2.wipe σ vs)[j]?) (hs : ∀ j ∈ ts, j ∈ vs) : L2.wipe σ2 vs = L2.wipe σ vs := by
  refine List.ext_getElem? fun j => ?_
  rw [wipe_get, wipe_get, hl]
  by_cases h : j ∈ vs ∧ j < σ.length
  · rw [if_pos h, if_pos h]
  · rw [if_neg h, if_neg h]
    by_cases hj : j ∈ vs
    · have : σ.length ≤ j := Nat.le_of_not_lt fun z => h ⟨hj, z⟩
      rw [List.getElem?_eq_none (by omega), List.getElem?_eq_none this]
    · rw [ho j fun z => hj (hs j z), wipe_get, if_neg h]
def lcL (k : TM) (t : BM) (f : EM) (ρ : Env) : List D → Hh → Option (List D × Hh)
  | [], h => some ([], h)
  | d :: ds, h => match k (.dat d) ρ h with
    | some ρ1 => obnd (t ρ1 h) fun b h2 => if b = true then obnd (f ρ1 h2) fun w h3 => match w with
        | .dat d' => obnd (lcL k t f ρ ds h3) fun r h4 => some (d' :: r, h4)
        | _ => none
      else lcL k t f ρ ds h2
    | none => none
def fLc (m : Bool) (gi : IM) (k : TM) (t : BM) (f : EM) (vs : List Nat) : EM := fun ρ h => obnd (gi ρ h) fun ds h1 => obnd (lcL k t f (wipeE ρ vs) ds h1) fun r h2 => if r.length ≤ sizeLine then mkL m r h2 else none
def bYes : BM := fun _ h => some (true, h)
abbrev DTs (X : Cx) (ifs : List Expr) (t : BM) : Prop := PTs X ifs (tT t)
section
variable {X : Cx}
theorem _root_.L2.PTs.weak {X : Cx} {e : List Expr} {t t' : TT} (h : PTs X e t) (i : ∀ σ H Q, t' σ H Q → t σ H Q) : PTs X e t' := ⟨fun pins s σ H Q I q => h.run pins s σ H Q I (i σ H Q q)⟩
theorem dts_nil : DTs X [] bYes := pts_nil.weak fun σ H Q => by
  rintro ⟨M, h, ρ, r, rs, c⟩
  exact c.fin (.refl _ _) r rfl
theorem dts_one {c : Expr} {t : BM} (h : DT X c t) : DTs X [c] t := pts_one h
end
def Mm.made (M : Mm) (p : Addr) : Mm := ⟨p :: M.u, M.m⟩
theorem ext_made {M : Mm} {H : Hp} {p : Addr} {o : HO} (n : H p = none) : Ext M (M.made p) H (upd H p o) :=
  ⟨fun a m => by
    rcases List.mem_cons.mp m with rfl | m
    · exact .inr n
    · exact .inl m, trk_upd, fun a u e _ => by rw [upd_ne (ne_of_none e n)]; exact e, fun _ m => .inl m, Nat.le_refl _, fun _ _ => .inl rfl⟩
theorem Rep.make {M : Mm} {H : Hp} {h : Hh} (r : Rep M H h) {p : Addr} {o : HO} (n : H p = none) (ho : tpO o = false := by rfl) : Rep (M.made p) (upd H p o) h := by
  refine ⟨fun a m => ?_, r.len, r.inj, fun i a e => ?_, r.dead⟩
  · rcases List.mem_cons.mp m with rfl | m
    · exact ⟨fun z => r.new n (.inr z), o, upd_same, ho⟩
    · obtain ⟨h1, u, e, ht⟩ := r.us a m
      exact ⟨h1, u, by rw [upd_ne (ne_of_none e n)]; exact e, ht⟩
  · obtain ⟨u, hu, ro⟩ := r.at_ i a e
    obtain ⟨z, hz⟩ := ro.some_
    exact ⟨u, hu, ro.move (ext_made n) (upd_ne (ne_of_none hz n))⟩
mutual
theorem RD.off {M : Mm} {H : Hp} {p : Addr} {o : HO} (hp : p ∈ M.u) : ∀ {v : V} {d : D}, RD M H v d → RD M (upd H p o) v d
  | _, _, .non => .non
  | _, _, .bl b => .bl b
  | _, _, .int i => .int i
  | _, _, .str s => .str s
  | _, _, .tup n e r => .tup n (e.to fun _ q => by rw [upd_ne (fun z => n (.inl (by rw [z]; exact hp)))]; exact q) (RDs.off hp r)
  | _, _, .lst n e r => .lst n (by rw [upd_ne (fun z => n (.inl (by rw [z]; exact hp)))]; exact e) (RDs.off hp r)
  | _, _, .dic n e r => .dic n (by rw [upd_ne (fun z => n (.inl (by rw [z]; exact hp)))]; exact e) (RDk.off hp r)
  | _, _, .dit n e r => .dit n (by rw [upd_ne (fun z => n (.inl (by rw [z]; exact hp)))]; exact e) (RDt.off hp r)
theorem RDs.off {M : Mm} {H : Hp} {p : Addr} {o : HO} (hp : p ∈ M.u) : ∀ {v : List V} {d : List D}, RDs M H v d → RDs M (upd H p o) v d
  | _, _, .nil => .nil
  | _, _, .cons a r => .cons (RD.off hp a) (RDs.off hp r)
theorem RDk.off {M : Mm} {H : Hp} {p : Addr} {o : HO} (hp : p ∈ M.u) : ∀ {v : List (Key × V)} {d : List (D × D)}, RDk M H v d → RDk M (upd H p o) v d
  | _, _, .nil => .nil
  | _, _, .cons a r => .cons (RD.off hp a) (RDk.off hp r)
theorem RDt.off {M : Mm} {H : Hp} {p : Addr} {o : HO} (hp : p ∈ M.u) : ∀ {v : List KA} {d : List (D × D)}, RDt M H v d → RDt M (upd H p o) v d
  | _, _, .nil => .nil
  | _, _, .cons n e a r => .cons n (e.to fun _ q => by rw [upd_ne (fun z => n (.inl (by rw [z]; exact hp)))]; exact q) (RD.off hp a) (RDt.off hp r)
end
theorem RO.off {M : Mm} {H : Hp} {p a : Addr} {o : HO} {m : MO} (hp : p ∈ M.u) (hn : a ≠ p) (r : RO M H a m) : RO M (upd H p o) a m := by
  cases m with
  | lst ds => obtain ⟨xs, h, r⟩ := r; exact ⟨xs, by rw [upd_ne hn]; exact h, r.off hp⟩
  | dic ds => obtain ⟨xs, h, r⟩ := r; exact ⟨xs, by rw [upd_ne hn]; exact h, r.off hp⟩
  | dit ds => obtain ⟨xs, h, r⟩ := r; exact ⟨xs, by rw [upd_ne hn]; exact h, r.off hp⟩
  | ins C fs => obtain ⟨dx, gs, h, r⟩ := r; exact ⟨dx, gs, by rw [upd_ne hn]; exact h, r.to fun _ _ => RD.off hp⟩
  | obj C fs => obtain ⟨dx, gs, h, r⟩ := r; exact ⟨dx, gs, by rw [upd_ne hn]; exact h, r.to (fun _ _ _ q => .inl q) fun _ _ => RD.off hp⟩
  | los os => obtain ⟨xs, h, r⟩ := r; exact ⟨xs, by rw [upd_ne hn]; exact h, r.to (fun _ _ _ n => n) (fun b _ q _ n => by rw [upd_ne (fun z => n (.inl (by rw [z]; exact hp)))]; exact q) fun _ _ => RD.off hp⟩
  | dpk es => obtain ⟨kvs, h, r⟩ := r; exact ⟨kvs, by rw [upd_ne hn]; exact h, r.to (fun b xs ds n t => ⟨n, t.to fun _ q => by rw [upd_ne (fun z => n (.inl (by rw [z]; exact hp)))]; exact q⟩) (fun _ _ _ q => .inl q) fun _ _ => RD.off hp⟩
  | tab q P =>
    obtain ⟨z, ps, h, t, r⟩ := r
    refine ⟨z, ps, by rw [upd_ne hn]; exact h, t, fun pos cv hc => ?_⟩
    obtain ⟨c, e1, n, e2⟩ := r pos cv hc
    exact ⟨c, e1, n, by rw [upd_ne (fun z => n (.inl (by rw [z]; exact hp)))]; exact e2⟩
theorem Rep.off {M : Mm} {H : Hp} {h : Hh} (r : Rep M H h) {p : Addr} {o : HO} (hp : p ∈ M.u) (ho : tpO o = false := by rfl) : Rep M (upd H p o) h := by
  refine ⟨fun a m => ?_, r.len, r.inj, fun i a e => ?_, r.dead⟩
  · obtain ⟨h1, u, e, ht⟩ := r.us a m
    refine ⟨h1, ?_⟩
    by_cases z : a = p
    · subst z; exact ⟨o, upd_same, ho⟩
    · exact ⟨u, by rw [upd_ne z]; exact e, ht⟩
  · obtain ⟨u, hu, ro⟩ := r.at_ i a e
    exact ⟨u, hu, ro.off hp fun z => (r.us p hp).1 (by rw [← z]; exact List.mem_of_getElem? e)⟩
theorem RV.off {M : Mm} {H : Hp} {p : Addr} {o : HO} {v : V} (hp : p ∈ M.u) : ∀ {w : W}, RV M H v w → RV M (upd H p o) v w
  | .dat _, r => RD.off hp r
  | .ref _, r => r
  | .scr _, ⟨a, u, e, n, q⟩ => ⟨a, u, e, n, by rw [upd_ne (fun z => n (.inl (by rw [z]; exact hp)))]; exact q⟩
  | .pack _, ⟨a, u, e, n, q, r⟩ => ⟨a, u, e, n, by rw [upd_ne (fun z => n (.inl (by rw [z]; exact hp)))]; exact q, r.move (fun _ _ z => z) fun _ _ => RD.off hp⟩
  | .tpk _, ⟨a, u, e, n, q, r⟩ => ⟨a, u, e, n, by rw [upd_ne (fun z => n (.inl (by rw [z]; exact hp)))]; exact q, r.move (fun _ _ z => z) fun _ _ => RD.off hp⟩
  | .lock _, ⟨a, u, kvs, e, n, q, r⟩ => ⟨a, u, kvs, e, n, by rw [upd_ne (fun z => n (.inl (by rw [z]; exact hp)))]; exact q, r.off hp⟩
  | .ins _ _, ⟨a, u, gs, e, n, q, r⟩ => ⟨a, u, gs, e, n, by rw [upd_ne (fun z => n (.inl (by rw [z]; exact hp)))]; exact q, r.to fun _ _ => RD.off hp⟩
  | .objs _, r => RWs.to r (fun _ _ _ n => n) (fun b _ q _ n => by rw [upd_ne (fun z => n (.inl (by rw [z]; exact hp)))]; exact q) fun _ _ => RD.off hp
  | .exc _ _ _, ⟨a, d, gs, e, r⟩ => ⟨a, d, gs, e, r.to (fun _ _ _ n => n) (fun b _ q _ n => by rw [upd_ne (fun z => n (.inl (by rw [z]; exact hp)))]; exact q) fun _ _ => RD.off hp⟩
theorem RS.off {M : Mm} {H : Hp} {ρ : Env} {σ : L2.St} {p : Addr} {o : HO} (hp : p ∈ M.u) (r : RS M H ρ σ) : RS M (upd H p o) ρ σ := ⟨r.1, fun i w e => by
  obtain ⟨v, e1, q⟩ := r.2 i w e
  exact ⟨v, e1, q.off hp⟩⟩
theorem RV.moveu {M M' : Mm} {H H' : Hp} (x : Ext M M' H H') (hm : M'.m = M.m) {v : V} : ∀ {w : W}, RV M H v w → RV M' H' v w
  | .dat _, r => RD.mono x r
  | .ref n, ⟨a, e, r⟩ => ⟨a, by rw [hm]; exact e, r⟩
  | .scr ns, ⟨a, o, e, n, q⟩ => ⟨a, o, e, x.out n q, x.st n q⟩
  | .pack its, ⟨a, xs, e, n, q, r⟩ => ⟨a, xs, e, x.out n q, x.st n q, r.move (fun i b z => by rw [hm]; exact z) fun _ _ => RD.mono x⟩
  | .tpk its, ⟨a, xs, e, n, q, r⟩ => ⟨a, xs, e, x.out n q, x.st n q, r.move (fun i b z => by rw [hm]; exact z) fun _ _ => RD.mono x⟩
  | .lock es, ⟨a, o, kvs, e, n, q, r⟩ => ⟨a, o, kvs, e, x.out n q, x.st n q, r.mono x⟩
  | .ins _ _, ⟨a, o, gs, e, n, q, r⟩ => ⟨a, o, gs, e, x.out n q, x.st n q, r.to fun _ _ => RD.mono x⟩
  | .objs _, r => RWs.to r (fun _ _ q n => x.out n q) (fun _ _ q _ n => x.st n q) fun _ _ => RD.mono x
  | .exc _ _ _, ⟨a, d, gs, e, r⟩ => ⟨a, d, gs, e, r.to (fun _ _ q n => x.out n q) (fun _ _ q _ n => x.st n q) fun _ _ => RD.mono x⟩
theorem RS.moveu {M M' : Mm} {H H' : Hp} (x : Ext M M' H H') (hm : M'.m = M.m) {ρ : Env} {σ : L2.St} (r : RS M H ρ σ) : RS M' H' ρ σ := ⟨r.1, fun i w e => by
  obtain ⟨v, e1, q⟩ := r.2 i w e
  exact ⟨v, e1, q.moveu x hm⟩⟩
mutual
theorem RD.sub {M M' : Mm} {H : Hp} (x : ∀ a, M'.Has a → M.Has a) : ∀ {v : V} {d : D}, RD M H v d → RD M' H v d
  | _, _, .non => .non
  | _, _, .bl b => .bl b
  | _, _, .int i => .int i
  | _, _, .str s => .str s
  | _, _, .tup n e r => .tup (fun z => n (x _ z)) e (RDs.sub x r)
  | _, _, .lst n e r => .lst (fun z => n (x _ z)) e (RDs.sub x r)
  | _, _, .dic n e r => .dic (fun z => n (x _ z)) e (RDk.sub x r)
  | _, _, .dit n e r => .dit (fun z => n (x _ z)) e (RDt.sub x r)
theorem RDs.sub {M M' : Mm} {H : Hp} (x : ∀ a, M'.Has a → M.Has a) : ∀ {v : List V} {d : List D}, RDs M H v d → RDs M' H v d
  | _, _, .nil => .nil
  | _, _, .cons a r => .cons (RD.sub x a) (RDs.sub x r)
theorem RDk.sub {M M' : Mm} {H : Hp} (x : ∀ a, M'.Has a → M.Has a) : ∀ {v : List (Key × V)} {d : List (D × D)}, RDk M H v d → RDk M' H v d
  | _, _, .nil => .nil
  | _, _, .cons a r => .cons (RD.sub x a) (RDk.sub x r)
theorem RDt.sub {M M' : Mm} {H : Hp} (x : ∀ a, M'.Has a → M.Has a) : ∀ {v : List KA} {d : List (D × D)}, RDt M H v d → RDt M' H v d
  | _, _, .nil => .nil
  | _, _, .cons n e a r => .cons (fun z => n (x _ z)) e (RD.sub x a) (RDt.sub x r)
end
theorem RO.sub {M M' : Mm} {H : Hp} {a : Addr} {m : MO} (x : ∀ a, M'.Has a → M.Has a) (k : ∀ n ∈ m.refs, ∀ z, M.m[n]? = some z → M'.m[n]? = some z ∨ M'.m[n]? = some none) (r : RO M H a m) : RO M' H a m := by
  cases m with
  | lst ds => obtain ⟨xs, h, r⟩ := r; exact ⟨xs, h, r.sub x⟩
  | dic ds => obtain ⟨xs, h, r⟩ := r; exact ⟨xs, h, r.sub x⟩
  | dit ds => obtain ⟨xs, h, r⟩ := r; exact ⟨xs, h, r.sub x⟩
  | ins C fs => obtain ⟨dx, gs, h, r⟩ := r; exact ⟨dx, gs, h, r.to fun _ _ => RD.sub x⟩
  | obj C fs => obtain ⟨dx, gs, h, r⟩ := r; exact ⟨dx, gs, h, r.to k fun _ _ => RD.sub x⟩
  | los os => obtain ⟨xs, h, r⟩ := r; exact ⟨xs, h, r.to (fun b _ _ n z => n (x b z)) (fun _ _ q _ _ => q) fun _ _ => RD.sub x⟩
  | dpk es => obtain ⟨kvs, h, r⟩ := r; exact ⟨kvs, h, r.to (fun b xs ds n t => ⟨fun z => n (x b z), t⟩) k fun _ _ => RD.sub x⟩
  | tab q P =>
    obtain ⟨z, ps, h, t, r⟩ := r
    refine ⟨z, ps, h, t, fun pos cv hc => ?_⟩
    obtain ⟨c, e1, n, e2⟩ := r pos cv hc
    exact ⟨c, e1, fun z => n (x _ z), e2⟩
theorem less_has {u : List Addr} {m : List (Option Addr)} {p : Addr} : ∀ b, Mm.Has ⟨u, m⟩ b → Mm.Has ⟨p :: u, m⟩ b := fun b z => by
  rcases z with z | z
  · exact .inl (List.mem_cons_of_mem _ z)
  · exact .inr z
theorem Rep.told {u : List Addr} {m : List (Option Addr)} {p : Addr} {H : Hp} {h : Hh} (r : Rep ⟨p :: u, m⟩ H h) : Rep ⟨u, m⟩ H h :=
  ⟨fun a z => r.us a (List.mem_cons_of_mem _ z), r.len, r.inj, fun i a e => by
    obtain ⟨o, h1, h2⟩ := r.at_ i a e
    exact ⟨o, h1, h2.sub less_has fun _ _ _ q => .inl q⟩, r.dead⟩
theorem Rep.owned {u : List Addr} {m : List (Option Addr)} {p : Addr} {H : Hp} {h : Hh} {o : MO} (r : Rep ⟨p :: u, m⟩ H h) (hp : p ∉ u) (ro : RO ⟨p :: u, m⟩ H p o) : Rep ⟨u, m ++ [some p]⟩ H (h ++ [some o]) := by
  have hpm : some p ∉ m := (r.us p List.mem_cons_self).1
  have hsub : ∀ b, Mm.Has ⟨u, m ++ [some p]⟩ b → Mm.Has ⟨p :: u, m⟩ b := fun b z => by
    rcases z with z | z
    · exact .inl (List.mem_cons_of_mem _ z)
    · rcases List.mem_append.mp z with z | z
      · exact .inr z
      · have : b = p := by simpa using z
        rw [this]; exact .inl List.mem_cons_self
  have hk : ∀ {w : MO}, ∀ n ∈ w.refs, ∀ z, m[n]? = some z → (m ++ [some p])[n]? = some z ∨ (m ++ [some p])[n]? = some none := fun n _ z q => .inl (by rw [List.getElem?_append_left (List.getElem?_eq_some_iff.mp q).1]; exact q)
  have rl : m.length = h.length := r.len
  have cases_ : ∀ (i : Nat) (z : Option Addr), (m ++ [some p])[i]? = some z → (i < m.length ∧ m[i]? = some z) ∨ (i = m.length ∧ z = some p) := fun i z e => by
    by_cases hi : i < m.length
    · rw [List.getElem?_append_left hi] at e
      exact .inl ⟨hi, e⟩
    · rw [List.getElem?_append_right (by omega)] at e
      by_cases h0 : i - m.length = 0
      · rw [h0] at e
        exact .inr ⟨by omega, by simpa using e.symm⟩
      · rw [List.getElem?_eq_none (by simp; omega)] at e
        cases e
  refine ⟨fun a z => ?_, by simp [rl], fun i j a e1 e2 => ?_, fun i a e => ?_, fun i e => ?_⟩
  · obtain ⟨h1, q⟩ := r.us a (List.mem_cons_of_mem _ z)
    refine ⟨fun y => ?_, q⟩
    rcases List.mem_append.mp y with y | y
    · exact h1 y
    · have : a = p := by simpa using y
      rw [this] at z; exact hp z
  · rcases cases_ i _ e1 with ⟨h1, e1⟩ | ⟨h1, e1⟩ <;> rcases cases_ j _ e2 with ⟨h2, e2⟩ | ⟨h2, e2⟩
    · exact r.inj i j a e1 e2
    · cases e2; exact absurd (List.mem_of_getElem? e1) hpm
    · cases e1; exact absurd (List.mem_of_getElem? e2) hpm
    · omega
  · rcases cases_ i _ e with ⟨h1, e1⟩ | ⟨h1, e1⟩
    · obtain ⟨z, hz, q⟩ := r.at_ i a e1
      exact ⟨z, by rw [List.getElem?_append_left (by rw [← rl]; exact h1)]; exact hz, q.sub hsub hk⟩
    · cases e1
      subst h1
      exact ⟨o, by rw [rl]; simp, ro.sub hsub hk⟩
  · rcases cases_ i _ e with ⟨h1, e1⟩ | ⟨h1, e1⟩
    · rw [List.getElem?_append_left (by rw [← rl]; exact h1)]
      exact r.dead i e1
    · cases e1
theorem ExtE.reu {M M' : Mm} {H H' : Hp} (x : ExtE M M' H H') (u : List Addr) : ExtE ⟨u, M.m⟩ ⟨u, M'.m⟩ H H' := ⟨rfl, x.trk, x.stab, x.fresh, x.len, x.pre⟩
theorem ExtE.beside {M M' : Mm} {H H' : Hp} {p : Addr} {o : HO} (x : ExtE M M' H H') (n : H p = none) : ExtE M M' H (upd H' p o) :=
  ⟨x.same, fun a u e => by obtain ⟨u', e'⟩ := x.trk a u e; exact trk_upd a u' e', fun a u e na => by rw [upd_ne (ne_of_none e n)]; exact x.stab a u e na, x.fresh, x.len, x.pre⟩
theorem ExtE.into {M : Mm} {m : List (Option Addr)} {H H' : Hp} {p : Addr} (x : ExtE M ⟨M.u, m⟩ H H') (n : H p = none) : Ext M ⟨p :: M.u, m⟩ H H' :=
  ⟨fun a z => by
    rcases List.mem_cons.mp z with rfl | z
    · exact .inr n
    · exact .inl z, x.trk, x.stab, x.fresh, x.len, fun i hi => .inl (x.pre i hi)⟩
theorem lc_imp {gi : IM} {k : TM} {t : BM} {f : EM} {ts vs : List Nat} {m : Bool} (hs : ∀ j ∈ ts, j ∈ vs) : ∀ σ H Q, tE (fLc m gi k t f vs) σ H Q → tLc (tI gi) (tGd ts k) (tT t) (tE f) vs σ H Q := fun σ H Q => by
  rintro ⟨M, h, ρ, r, rs, c⟩
  obtain ⟨ds, h1, e1, c1⟩ := Cont.bind (δ := Unit) c
  refine ⟨M, h, ρ, ds, h1, r, rs, e1, fun M1 H1 J x1 r1 it D nD => ?_⟩
  obtain ⟨out, h2, e2, c2⟩ := Cont.bind (δ := Unit) (c1 M1 H1 x1)
  have x0 := ext_made (M := M1) (o := .lst []) nD
  have r0 := r1.make (o := .lst []) nD
  have rs0 : RS (M1.made D) (upd H1 D (.lst [])) (wipeE ρ vs) (L2.wipe σ vs) := ((rs.mono x1).moveu x0 rfl).wipe vs
  let P : Nat → Hp → Prop := fun i Hi => ∃ mi hi acc dacc rest, ExtE M1 ⟨M1.u, mi⟩ H1 Hi ∧ Rep ⟨D :: M1.u, mi⟩ Hi hi ∧ RS ⟨D :: M1.u, mi⟩ Hi (wipeE ρ vs) (L2.wipe σ vs) ∧ Hi D = some (.lst acc) ∧ RDs ⟨D :: M1.u, mi⟩ Hi acc dacc ∧ lcL k t f (wipeE ρ vs) (ds.drop i) hi = some (rest, h2) ∧ dacc ++ rest = out
  have outlen : out.length ≤ sizeLine := by
    have c3 := c2 M1 H1 (.refl _ _)
    by_cases hz : out.length ≤ sizeLine
    · exact hz
    · rw [if_neg hz] at c3; exact c3.no.elim
  refine ⟨fun i n Hi => n + i = ds.length ∧ P i Hi, ⟨ds.length, by omega, M1.m, h1, [], [], out, (ExtE.refl M1 H1).beside nD, r0, rs0, upd_same, .nil, by rw [List.drop_zero]; exact e2, rfl⟩, fun i n Hi w => ?_⟩
  obtain ⟨hn, mi, hi, acc, dacc, rest, xi, ri, rsi, hD, qa, el, eo⟩ := w
  have inD : D ∈ (⟨D :: M1.u, mi⟩ : Mm).u := List.mem_cons_self
  have itx := xi.into nD
  obtain ⟨ity, its⟩ := it _ Hi itx fun a ha => ri.tracked ha
  by_cases hlt : i < ds.length
  · refine .inr ?_
    have ed : ds[i]? = some ds[i] := List.getElem?_eq_getElem hlt
    obtain ⟨go, yl⟩ := ity i _ ed
    rw [List.drop_eq_getElem_cons hlt] at el
    refine ⟨go, P (i + 1), fun H' p => ⟨n - 1, by omega, by omega, p⟩, fun x H2 hy => ?_⟩
    obtain ⟨sm, rx⟩ := yl x H2 hy
    obtain ⟨ri2, xi2⟩ := ri.grow sm
    unfold lcL at el
    split at el
    · rename_i ρ1 ek
      refine ⟨_, hi, wipeE ρ vs, .dat ds[i], ρ1, ri2, rsi.mono xi2, rx, ek, fun σ2 rs2 l2 o2 => ⟨wipe_of (by rw [l2, L2.wipe_length]) o2 hs, ?_⟩⟩
      cases et : t ρ1 hi with
      | none => rw [et] at el; cases el
      | some pr =>
        obtain ⟨b, h3⟩ := pr
        rw [et] at el
        simp only [obnd_some] at el
        refine ⟨_, hi, ρ1, ri2, rs2, b, h3, et, fun M3 H3 b' x3 r3 eb => ?_⟩
        subst eb
        obtain ⟨u3, m3⟩ := M3
        obtain rfl : u3 = D :: M1.u := x3.same
        have xi3 : ExtE M1 ⟨M1.u, m3⟩ H1 H3 := xi.trans ((xi2.trans x3).reu M1.u)
        have hD3 : H3 D = some (.lst acc) := x3.stab _ _ (sm _ _ hD) fun z => (ri.us D inD).1 z
        cases b' with
        | false =>
          simp only [Bool.false_eq_true, if_false] at el
          exact iteF ⟨m3, h3, acc, dacc, rest, xi3, r3, (rsi.mono xi2).mono x3, hD3, (qa.mono xi2.ext).mono x3.ext, el, eo⟩
        | true =>
          simp only [if_true] at el
          refine iteT ?_
          cases ef : f ρ1 h3 with
          | none => rw [ef] at el; cases el
          | some pr =>
            obtain ⟨w, h4⟩ := pr
            rw [ef] at el
            simp only [obnd_some] at el
            refine ⟨_, h3, ρ1, r3, rs2.mono x3, w, h4, ef, fun M4 H4 y x4 r4 ry => ?_⟩
            obtain ⟨u4, m4⟩ := M4
            obtain rfl : u4 = D :: M1.u := x4.same
            have hD4 : H4 D = some (.lst acc) := x4.stab _ _ hD3 fun z => (r3.us D List.mem_cons_self).1 z
            split at el
            · rename_i d'
              cases er : lcL k t f (wipeE ρ vs) (ds.drop (i + 1)) h4 with
              | none => rw [er] at el; cases el
              | some pr =>
                obtain ⟨rest', h5⟩ := pr
                rw [er] at el
                simp only [obnd_some, Option.some.injEq, Prod.mk.injEq] at el
                obtain ⟨e5, e6⟩ := el
                subst e5 e6
                have q4 := ((qa.mono xi2.ext).mono x3.ext).mono x4.ext
                have hlen : acc.length < sizeLine := by
                  have h7 := congrArg List.length eo
                  rw [List.length_append, List.length_cons] at h7
                  rw [qa.length]; omega
                have in4 : D ∈ (⟨D :: M1.u, m4⟩ : Mm).u := List.mem_cons_self
                exact ⟨acc, hD4, hlen, m4, h4, acc ++ [y], dacc ++ [d'], rest', (xi3.trans (x4.reu M1.u)).beside nD, r4.off in4, (((rsi.mono xi2).mono x3).mono x4).off in4, upd_same, (q4.off in4).app (.cons (RD.off in4 ry) .nil), er, by rw [List.append_assoc]; exact eo⟩
            · cases el
    · cases el
  · refine .inl ?_
    have hi' : i = ds.length := by omega
    subst hi'
    rw [List.drop_length] at el
    cases el
    rw [List.append_nil] at eo
    subst eo
    refine ⟨its, ?_⟩
    have c3 := c2 M1 H1 (.refl _ _)
    rw [if_pos outlen] at c3
    have nu : D ∉ M1.u := fun z => r1.new nD (.inl z)
    have nm : some D ∉ mi := (ri.us D inD).1
    cases m with
    | false =>
      exact c3.fin xi ri.told (RD.lst (fun z => z.elim nu nm) hD (qa.sub less_has))
    | true =>
      refine c3.fin (M' := ⟨M1.u, mi ++ [some D]⟩) ⟨rfl, xi.trk, xi.stab, fun a z => ?_, Nat.le_trans xi.len (by simp), fun j hj => ?_⟩ (ri.owned nu ⟨acc, hD, qa⟩) ⟨D, ?_, rfl⟩
      · rcases List.mem_append.mp z with z | z
        · exact xi.fresh a z
        · have : a = D := by simpa using z
          rw [this]; exact .inr nD
      · have hl : j < mi.length := Nat.lt_of_lt_of_le hj xi.len
        show (mi ++ [some D])[j]? = _
        rw [List.getElem?_append_left hl]; exact xi.pre j hj
      · show (mi ++ [some D])[h2.length]? = _
        rw [← show mi.length = h2.length from ri.len]; simp
section
variable {X : Cx}
theorem d_lc (m : Bool) {elt tg iter : Expr} {ifs : List Expr} {scope : Scope} {own : List (Str × Nat)} {pos : Pos} {gi : IM} {ts : List Nat} {k : TM} {t : BM} {f : EM} (hc : X.calm = true) (hN : X.N.Nodup) (hi : DI X tg iter gi) (ok : BlkOk X.N X.env.scope scope own)
    (hg : ∀ (s : Shared) (H : Hp) (C : Addr) (cl : List (Str × Addr)) (fp : List Addr), DG (X.blk s H scope (compEnvC scope cl C X.env) fp) tg ts k) (ht : ∀ (s : Shared) (H : Hp) (C : Addr) (cl : List (Str × Addr)) (fp : List Addr), DTs (X.blk s H scope (compEnvC scope cl C X.env) fp) ifs t)
    (he : ∀ (s : Shared) (H : Hp) (C : Addr) (cl : List (Str × Addr)) (fp : List Addr), DE (X.blk s H scope (compEnvC scope cl C X.env) fp) elt f) (hsub : ∀ j ∈ ts, j ∈ own.map (·.2)) (hs : ∀ x, foldedSetIterable iter X.env x = pure x := by intro _; rfl) :
    DE X (.ListComp elt [⟨tg, iter, ifs, 0⟩] scope pos) (fLc m gi k t f (own.map (·.2))) := (pe_lc hc hN hi ok hg ht he hs).weak (lc_imp hsub)
end
end DL
set_option maxRecDepth 100000
set_option maxHeartbeats 4000000
namespace DL
open PySem PySem.Spec PyProof.Rows L2
variable [HW]
inductive Out where
  | nx (ρ : Env) | rt (w : W) | bk (ρ : Env) | ct (ρ : Env)
abbrev SM := Env → Hh → Option (Out × Hh)
def SPost (D : Ends) (M0 : Mm) (H0 : Hp) (r : Option (Out × Hh)) : Prop := match r with
  | some (.nx ρ, h) => ∀ M H σ, M.u = M0.u → Ext M0 M H0 H → Rep M H h → RS M H ρ σ → D.nx σ H
  | some (.rt w, h) => ∀ M H v, M.u = M0.u → Ext M0 M H0 H → Rep M H h → RV M H v w → D.rt v H
  | some (.bk ρ, h) => ∀ M H σ, M.u = M0.u → Ext M0 M H0 H → Rep M H h → RS M H ρ σ → D.bk σ H
  | some (.ct ρ, h) => ∀ M H σ, M.u = M0.u → Ext M0 M H0 H → Rep M H h → RS M H ρ σ → D.ct σ H
  | none => False
theorem SPost.mono {D : Ends} {M0 M1 : Mm} {H0 H1 : Hp} {r : Option (Out × Hh)} (p : SPost D M0 H0 r) (u : M1.u = M0.u) (x : Ext M0 M1 H0 H1) : SPost D M1 H1 r := by
  match r, p with
  | some (.nx ρ, h), p => exact fun M H σ e y => p M H σ (e.trans u) (x.trans y)
  | some (.rt w, h), p => exact fun M H σ e y => p M H σ (e.trans u) (x.trans y)
  | some (.bk ρ, h), p => exact fun M H σ e y => p M H σ (e.trans u) (x.trans y)
  | some (.ct ρ, h), p => exact fun M H σ e y => p M H σ (e.trans u) (x.trans y)
def tS (f : SM) : TS := fun D σ H => ∃ M h ρ, Rep M H h ∧ RS M H ρ σ ∧ SPost D M H (f ρ h)
abbrev DS (X : Cx) (st : Stmt) (f : SM) : Prop := PS X st (tS f)
abbrev DSs (X : Cx) (sts : List Stmt) (f : SM) : Prop := PSs X sts (tS f)
def sSeq (f g : SM) : SM := fun ρ h => match f ρ h with
  | some (.nx ρ1, h1) => g ρ1 h1
  | r => r
def sSkip : SM := fun ρ h => some (.nx ρ, h)
def sNever : SM := fun _ _ => none
section
variable {X : Cx}
theorem seq_imp {f g : SM} : ∀ D σ H, tS (sSeq f g) D σ H → tSeq (tS f) (tS g) D σ H := fun D σ H => by
  rintro ⟨M, h, ρ, r, rs, p⟩
  refine ⟨M, h, ρ, r, rs, ?_⟩
  unfold sSeq at p
  cases e : f ρ h with
  | none => rw [e] at p; exact p
  | some q =>
    obtain ⟨o, h1⟩ := q
    rw [e] at p
    cases o with
    | nx ρ1 => exact fun M1 H1 σ1 u x r1 rs1 => ⟨M1, h1, ρ1, r1, rs1, p.mono u x⟩
    | rt w => exact p
    | bk ρ1 => exact p
    | ct ρ1 => exact p
theorem ds_cons {st : Stmt} {sts : List Stmt} {f g : SM} (h1 : DS X st f) (h2 : DSs X sts g) : DSs X (st :: sts) (sSeq f g) := (pss_cons h1 h2).weak seq_imp
theorem ds_one {st : Stmt} {f : SM} (h1 : DS X st f) : DSs X [st] f := pss_one h1
theorem ds_nil : DSs X [] sSkip := pss_nil.weak fun D σ H => by
  rintro ⟨M, h, ρ, r, rs, p⟩
  exact p M H σ rfl (.refl _ _) r rs
theorem ds_never {st : Stmt} : DS X st sNever := ps_never.weak fun D σ H => by
  rintro ⟨M, h, ρ, r, rs, p⟩
  exact p
def sbnd {α : Type} (r : Option (α × Hh)) (k : α → Hh → Option (Out × Hh)) : Option (Out × Hh) := match r with
  | some (a, h) => k a h
  | none => none
@[simp] theorem sbnd_some {α : Type} (a : α) (h : Hh) (k : α → Hh → Option (Out × Hh)) : sbnd (some (a, h)) k = k a h := rfl
@[simp] theorem sbnd_none {α : Type} (k : α → Hh → Option (Out × Hh)) : sbnd none k = none := rfl
theorem SPost.bind {α : Type} {D : Ends} {M : Mm} {H : Hp} {r : Option (α × Hh)} {k : α → Hh → Option (Out × Hh)} (p : SPost D M H (sbnd r k)) : ∃ a h1, r = some (a, h1) ∧ SPost D M H (k a h1) := by
  cases r with
  | none => exact p.elim
  | some q => obtain ⟨a, h1⟩ := q; exact ⟨a, h1, rfl, p⟩
def sExpr (f : EM) : SM := fun ρ h => sbnd (f ρ h) fun _ h1 => some (.nx ρ, h1)
theorem ds_expr {e : Expr} {pos : Pos} {f : EM} (he : DE X e f) (hs : swapsWith e none pos.line X.env = pure false := by rfl) : DS X (.Expr e pos) (sExpr f) := (ps_expr he hs).weak fun D σ H => by
  rintro ⟨M, h, ρ, r, rs, p⟩
  obtain ⟨w, h1, e1, p1⟩ := p.bind
  exact ⟨M, h, ρ, r, rs, w, h1, e1, fun M1 H1 v x1 r1 v1 => p1 M1 H1 σ x1.same x1.ext r1 (rs.mono x1)⟩
def sRet (f : EM) : SM := fun ρ h => sbnd (f ρ h) fun w h1 => some (.rt w, h1)
theorem ds_ret {e : Expr} {pos : Pos} {f : EM} (he : DE X e f) : DS X (.Return (some e) pos) (sRet f) := (ps_ret he).weak fun D σ H => by
  rintro ⟨M, h, ρ, r, rs, p⟩
  obtain ⟨w, h1, e1, p1⟩ := p.bind
  exact ⟨M, h, ρ, r, rs, w, h1, e1, fun M1 H1 v x1 r1 v1 => p1 M1 H1 v x1.same x1.ext r1 v1⟩
def sRetN : SM := fun _ h => some (.rt (.dat .none), h)
def sIf (t : BM) (f g : SM) : SM := fun ρ h => sbnd (t ρ h) fun b h1 => if b = true then f ρ h1 else g ρ h1
theorem ds_if {c : Expr} {a b : List Stmt} {pos : Pos} {t : BM} {f g : SM} (hc : DT X c t) (ha : DSs X a f) (hb : DSs X b g) : DS X (.If c a b pos) (sIf t f g) := (ps_if hc ha hb).weak fun D σ H => by
  rintro ⟨M, h, ρ, r, rs, p⟩
  obtain ⟨w, h1, e1, p1⟩ := p.bind
  refine ⟨M, h, ρ, r, rs, w, h1, e1, fun M1 H1 v x1 r1 v1 => ?_⟩
  subst v1
  have p2 := p1.mono x1.same x1.ext
  cases v with
  | true => exact iteT ⟨M1, h1, ρ, r1, rs.mono x1, p2⟩
  | false => exact iteF ⟨M1, h1, ρ, r1, rs.mono x1, p2⟩
def sAsg (f : EM) (g : TM) : SM := fun ρ h => sbnd (f ρ h) fun w h1 => match g w ρ h1 with
  | some ρ1 => some (.nx ρ1, h1)
  | none => none
theorem ds_set {i : Nat} {x : Str} {e : Expr} {pos pos' : Pos} {f : EM} (h : PS X (.Assign [.Name x pos'] e pos) (tAsg (tE f) (gName i))) : DS X (.Assign [.Name x pos'] e pos) (sAsg f (gN i)) := h.weak fun D σ H => by
  rintro ⟨M, h, ρ, r, rs, p⟩
  obtain ⟨w, h1, e1, p1⟩ := p.bind
  exact ⟨M, h, ρ, r, rs, w, h1, e1, fun M1 H1 v x1 r1 v1 => p1 M1 H1 _ x1.same x1.ext r1 ((rs.mono x1).set v1)⟩
theorem ds_setLc (m : Bool) {i : Nat} {y : Str} {py : Pos} {elt tg iter : Expr} {ifs : List Expr} {scope : Scope} {own : List (Str × Nat)} {pos spos : Pos} {gi : IM} {ts : List Nat} {k : TM} {t : BM} {f : EM} (hc : X.calm = true) (hN : X.N.Nodup) (hy : X.N[i]? = some y) (hyl : X.env.scope.names.lookup y = some .local)
    (hsw : swapsWith (.ListComp elt [⟨tg, iter, ifs, 0⟩] scope pos) (some (.Name y py)) spos.line X.env = pure true) (hi : DI X tg iter gi) (ok : BlkOk X.N X.env.scope scope own)
    (hg : ∀ (s : Shared) (H : Hp) (C : Addr) (cl : List (Str × Addr)) (fp : List Addr), DG (X.blk s H scope (compEnvC scope cl C X.env) fp) tg ts k) (ht : ∀ (s : Shared) (H : Hp) (C : Addr) (cl : List (Str × Addr)) (fp : List Addr), DTs (X.blk s H scope (compEnvC scope cl C X.env) fp) ifs t)
    (he : ∀ (s : Shared) (H : Hp) (C : Addr) (cl : List (Str × Addr)) (fp : List Addr), DE (X.blk s H scope (compEnvC scope cl C X.env) fp) elt f) (hsub : ∀ j ∈ ts, j ∈ own.map (·.2)) (hs : ∀ x, foldedSetIterable iter X.env x = pure x := by intro _; rfl) :
    DS X (.Assign [.Name y py] (.ListComp elt [⟨tg, iter, ifs, 0⟩] scope pos) spos) (sAsg (fLc m gi k t f (own.map (·.2))) (gN i)) := (ps_setLc hc hN hy hyl hsw hi ok hg ht he hs).weak fun D σ H => by
  rintro ⟨M, h, ρ, r, rs, p⟩
  obtain ⟨w, h1, e1, p1⟩ := p.bind
  exact lc_imp hsub σ H _ ⟨M, h, ρ, r, rs, w, h1, e1, fun M1 H1 v x1 r1 v1 => p1 M1 H1 _ x1.same x1.ext r1 ((rs.mono x1).set v1)⟩
def sPar (g : AM) (is : List Nat) : SM := fun ρ h => sbnd (g ρ h) fun ws h1 => if ws.length = is.length then some (.nx ((is.zip ws).foldl (fun ρ p => ρ.set p.1 (some p.2)) ρ), h1) else none
theorem ds_par2 {i j : Nat} {st : Stmt} {g : AM} (h : PS X st (tPar i j (tA g))) : DS X st (sPar g [i, j]) := h.weak fun D σ H => by
  rintro ⟨M, h, ρ, r, rs, p⟩
  obtain ⟨ws, h1, e1, p1⟩ := p.bind
  refine ⟨M, h, ρ, r, rs, ws, h1, e1, fun M1 H1 vs x1 r1 v1 => ?_⟩
  split at p1
  · rename_i hz
    match ws, hz, v1, p1 with
    | [w1, w2], _, v1, p1 =>
      obtain ⟨a, b, rfl, ra, rb⟩ := rvs2 v1
      exact ⟨a, b, rfl, p1 M1 H1 _ x1.same x1.ext r1 (((rs.mono x1).set ra).set rb)⟩
  · exact p1.elim
def setW (o i : W) (w : W) (h : Hh) : Option Hh := match o, i, w with
  | .ref n, .dat (.int k), .dat d => match lstAt h n with
    | some ds => match ixN ds.length k with
      | some j => some (h.set n (some (.lst (ds.set j d))))
      | none => none
    | none => none
  | _, _, _ => none
def sSub (f o i : EM) : SM := fun ρ h => sbnd (f ρ h) fun w h1 => sbnd (o ρ h1) fun a h2 => sbnd (i ρ h2) fun b h3 => match setW a b w h3 with
  | some h4 => some (.nx ρ, h4)
  | none => none
theorem sub_imp {f o i : EM} : ∀ D σ H, tS (sSub f o i) D σ H → tAsg (tE f) (gSub (tE o) (tE i) rSetL) D σ H := fun D σ H => by
  rintro ⟨M, h, ρ, r, rs, p⟩
  obtain ⟨w, h1, e1, p1⟩ := p.bind
  refine ⟨M, h, ρ, r, rs, w, h1, e1, fun M1 H1 v x1 r1 v1 => ?_⟩
  obtain ⟨a, h2, e2, p2⟩ := p1.bind
  refine ⟨M1, h1, ρ, r1, rs.mono x1, a, h2, e2, fun M2 H2 v' x2 r2 v2 => ?_⟩
  obtain ⟨b, h3, e3, p3⟩ := p2.bind
  refine ⟨M2, h2, ρ, r2, (rs.mono x1).mono x2, b, h3, e3, fun M3 H3 v'' x3 r3 v3 => ?_⟩
  have ra := v2.mono x3
  have rw' := (v1.mono x2).mono x3
  unfold setW at p3
  split at p3
  · rename_i h4 e4
    split at e4
    · rename_i n k d
      obtain ⟨ad, ea, rfl⟩ := ra
      cases (show RD M3 H3 _ _ from v3)
      split at e4
      · rename_i ds el
        obtain ⟨xs, hx, q⟩ := lstAt_ok r3 el ea
        split at e4
        · rename_i j ej
          cases e4
          refine ⟨ad, xs, k, j, rfl, rfl, hx, by rw [q.length]; exact ej, ?_⟩
          have x4 := ext_set (H := H3) (o := .lst (xs.set j v)) ea
          have xx := ((x1.trans x2).trans x3).trans x4
          exact p3 M3 _ σ xx.same xx.ext (r3.set ea ⟨_, upd_same, (q.set j rw').mono x4.ext⟩) (rs.mono xx)
        · cases e4
      · cases e4
    · cases e4
  · exact p3.elim
theorem ds_sub {o i e : Expr} {pos tpos : Pos} {f fo fi : EM} (he : DE X e f) (ho : DE X o fo) (hi : DE X i fi) (h : PS X (.Assign [.Subscript o i tpos] e pos) (tAsg (tE f) (gSub (tE fo) (tE fi) rSetL))) : DS X (.Assign [.Subscript o i tpos] e pos) (sSub f fo fi) := h.weak sub_imp
def forL (k : TM) (body : SM) : List D → Env → Hh → Option (Out × Hh)
  | [], ρ, h => some (.nx ρ, h)
  | d :: ds, ρ, h => match k (.dat d) ρ h with
    | some ρ1 => match body ρ1 h with
      | some (.nx ρ2, h2) => forL k body ds ρ2 h2
      | some (.ct ρ2, h2) => forL k body ds ρ2 h2
      | some (.bk ρ2, h2) => some (.nx ρ2, h2)
      | some (.rt w, h2) => some (.rt w, h2)
      | none => none
    | none => none
def sFor (gi : IM) (k : TM) (body : SM) : SM := fun ρ h => sbnd (gi ρ h) fun ds h1 => forL k body ds ρ h1
theorem for_imp {gi : IM} {k : TM} {body : SM} {ts : List Nat} : ∀ D σ H, tS (sFor gi k body) D σ H → tFor (tI gi) (tGd ts k) (tS body) D σ H := fun D σ H => by
  rintro ⟨M, h, ρ, r, rs, p⟩
  obtain ⟨ds, h1, e1, p1⟩ := p.bind
  refine ⟨M, h, ρ, ds, h1, r, rs, e1, fun M1 H1 J x1 r1 it => ?_⟩
  have p2 := p1.mono x1.same x1.ext
  let P : Nat → L2.St → Hp → Prop := fun i σi Hi => ∃ Mi hi ρi, Mi.u = M1.u ∧ Ext M1 Mi H1 Hi ∧ Rep Mi Hi hi ∧ RS Mi Hi ρi σi ∧ SPost D Mi Hi (forL k body (ds.drop i) ρi hi)
  refine ⟨fun i n σi Hi => n + i = ds.length ∧ P i σi Hi, ⟨ds.length, by omega, M1, h1, ρ, rfl, .refl _ _, r1, rs.mono x1, by rw [List.drop_zero]; exact p2⟩, fun i n σi Hi w => ?_⟩
  obtain ⟨hn, Mi, hi, ρi, ui, xi, ri, rsi, pi⟩ := w
  obtain ⟨ity, its⟩ := it Mi Hi xi fun a ha => ri.tracked ha
  by_cases hlt : i < ds.length
  · refine .inr ?_
    have ed : ds[i]? = some ds[i] := List.getElem?_eq_getElem hlt
    obtain ⟨go, yl⟩ := ity i _ ed
    rw [List.drop_eq_getElem_cons hlt] at pi
    refine ⟨go, P (i + 1), fun σ' H' q => ⟨n - 1, by omega, by omega, q⟩, fun x H2 hy => ?_⟩
    obtain ⟨sm, rx⟩ := yl x H2 hy
    obtain ⟨ri2, xi2⟩ := ri.grow sm
    unfold forL at pi
    split at pi
    · rename_i ρ1 ek
      refine ⟨Mi, hi, ρi, .dat ds[i], ρ1, ri2, rsi.mono xi2, rx, ek, fun σ2 rs2 _ _ => ⟨Mi, hi, ρ1, ri2, rs2, ?_⟩⟩
      have pi' := pi.mono rfl xi2.ext
      cases eb : body ρ1 hi with
      | none => rw [eb] at pi'; exact pi'.elim
      | some q =>
        obtain ⟨o, h3⟩ := q
        rw [eb] at pi'
        cases o with
        | nx ρ2 => exact fun M3 H3 σ3 u3 x3 r3 rs3 => ⟨M3, h3, ρ2, u3.trans ui, (xi.trans xi2.ext).trans x3, r3, rs3, SPost.mono pi' u3 x3⟩
        | ct ρ2 => exact fun M3 H3 σ3 u3 x3 r3 rs3 => ⟨M3, h3, ρ2, u3.trans ui, (xi.trans xi2.ext).trans x3, r3, rs3, SPost.mono pi' u3 x3⟩
        | bk ρ2 => exact pi'
        | rt w => exact pi'
    · exact pi.elim
  · refine .inl ?_
    have hi' : i = ds.length := by omega
    subst hi'
    rw [List.drop_length] at pi
    exact ⟨its, pi Mi Hi σi rfl (.refl _ _) ri rsi⟩
theorem ds_for {tg iter : Expr} {body : List Stmt} {pos : Pos} {gi : IM} {k : TM} {ts : List Nat} {f : SM} (hc : X.calm = true) (hp : PassesOwn (model X.prog X.w) X.A X.env X.xe) (hi : DI X tg iter gi) (hg : DG X tg ts k) (hb : DSs X body f) (hs : ∀ x, foldedSetIterable iter X.env x = pure x := by intro _; rfl) : DS X (.For tg iter body [] pos) (sFor gi k f) :=
  (ps_for hp hc hi hg hb hs).weak for_imp
def whileL (t : BM) (body : SM) : Nat → Env → Hh → Option (Out × Hh)
  | 0, _, _ => none
  | n + 1, ρ, h => sbnd (t ρ h) fun b h1 => if b = true then match body ρ h1 with
      | some (.nx ρ2, h2) => whileL t body n ρ2 h2
      | some (.ct ρ2, h2) => whileL t body n ρ2 h2
      | some (.bk ρ2, h2) => some (.nx ρ2, h2)
      | some (.rt w, h2) => some (.rt w, h2)
      | none => none
    else some (.nx ρ, h1)
def sWhile (n : Nat) (t : BM) (body : SM) : SM := whileL t body n
theorem while_imp {n : Nat} {t : BM} {body : SM} : ∀ D σ H, tS (sWhile n t body) D σ H → tWhile (tT t) (tS body) D σ H := fun D σ H => by
  rintro ⟨M, h, ρ, r, rs, p⟩
  refine ⟨fun m σi Hi => ∃ Mi hi ρi, Mi.u = M.u ∧ Ext M Mi H Hi ∧ Rep Mi Hi hi ∧ RS Mi Hi ρi σi ∧ SPost D Mi Hi (whileL t body m ρi hi), ⟨n, M, h, ρ, rfl, .refl _ _, r, rs, p⟩, fun m σi Hi w => ?_⟩
  obtain ⟨Mi, hi, ρi, ui, xi, ri, rsi, pi⟩ := w
  cases m with
  | zero => exact pi.elim
  | succ m =>
    unfold whileL at pi
    obtain ⟨b, h1, e1, p1⟩ := pi.bind
    refine ⟨Mi, hi, ρi, ri, rsi, b, h1, e1, fun M1 H1 v x1 r1 v1 => ?_⟩
    subst v1
    have p2 := p1.mono x1.same x1.ext
    cases v with
    | true =>
      simp only [if_true] at p2
      refine iteT ⟨fun σ' H' => ∃ Mi hi ρi, Mi.u = M.u ∧ Ext M Mi H H' ∧ Rep Mi H' hi ∧ RS Mi H' ρi σ' ∧ SPost D Mi H' (whileL t body m ρi hi), fun σ' H' q => ⟨m, Nat.lt_succ_self m, q⟩, M1, h1, ρi, r1, rsi.mono x1, ?_⟩
      cases eb : body ρi h1 with
      | none => rw [eb] at p2; exact p2.elim
      | some q =>
        obtain ⟨o, h3⟩ := q
        rw [eb] at p2
        cases o with
        | nx ρ2 => exact fun M3 H3 σ3 u3 x3 r3 rs3 => ⟨M3, h3, ρ2, (u3.trans x1.same).trans ui, (xi.trans x1.ext).trans x3, r3, rs3, SPost.mono p2 u3 x3⟩
        | ct ρ2 => exact fun M3 H3 σ3 u3 x3 r3 rs3 => ⟨M3, h3, ρ2, (u3.trans x1.same).trans ui, (xi.trans x1.ext).trans x3, r3, rs3, SPost.mono p2 u3 x3⟩
        | bk ρ2 => exact p2
        | rt w => exact p2
    | false => exact iteF (p2 M1 H1 σi rfl (.refl _ _) r1 (rsi.mono x1))
theorem ds_while (n : Nat) {c : Expr} {body : List Stmt} {pos : Pos} {t : BM} {f : SM} (hp : PassesOwn (model X.prog X.w) X.A X.env X.xe) (hc : DT X c t) (hb : DSs X body f) : DS X (.While c body [] pos) (sWhile n t f) := (ps_while hp hc hb).weak while_imp
end
abbrev FM := List W → Hh → Option (W × Hh)
def live (h : Hh) : List (Option (List Nat)) := h.map (Option.map MO.refs)
def leave (rm : Bool) (h : Hh) (w : W) (h' : Hh) : Option (W × Hh) := if live (h'.take h.length) = live h then match w with
    | .ref n => if n < h.length then some (.ref n, h'.take h.length) else match h'[n]? with
      | some (some (.lst ds)) => if rm = true then some (.ref h.length, h'.take h.length ++ [some (.lst ds)]) else some (.dat (.list ds), h'.take h.length)
      | some (some (.dic es)) => if rm = true then some (.ref h.length, h'.take h.length ++ [some (.dic es)]) else some (.dat (.dict es), h'.take h.length)
      | some (some (.dit es)) => if rm = true then some (.ref h.length, h'.take h.length ++ [some (.dit es)]) else none
      | _ => none
    | .pack _ => none
    | .lock _ => none
    | .tpk _ => none
    | w => some (w, h'.take h.length)
  else none
def fnM (rm : Bool) (np nl : Nat) (body : SM) : FM := fun ws h => if ws.length = np then match body (ws.map some ++ List.replicate (nl - np) none) h with
    | some (.rt w, h') => leave rm h w h'
    | some (.nx _, h') => leave rm h (.dat .none) h'
    | _ => none
  else none
def spD (m : FM) : Sp := fun vs H Q _ => ∃ M h ws, Rep M H h ∧ RVs M H vs ws ∧ Cont RV (m ws h) M H Q
end DL
set_option maxRecDepth 100000
set_option maxHeartbeats 400000
namespace DL
open PySem PySem.Spec PyProof.Rows L2
variable [HW]
theorem live_get0 {h h' : Hh} (e : live (h'.take h.length) = live h) {i : Nat} (hi : i < h.length) : (h'[i]?).map (Option.map MO.refs) = (h[i]?).map (Option.map MO.refs) := by
  have := congrArg (fun l => l[i]?) e
  simp only [live, List.getElem?_map] at this
  rw [List.getElem?_take_of_lt hi] at this
  exact this
theorem RO.lt {M : Mm} {H : Hp} {a : Addr} {m : MO} (r : RO M H a m) : ∀ n ∈ m.refs, n < M.m.length := fun n z => by
  cases m with
  | obj C fs => obtain ⟨dx, gs, h, r⟩ := r; exact r.lt n z
  | dpk es => obtain ⟨kvs, h, r⟩ := r; exact r.lt n z
  | _ => cases z
theorem live_get {h h' : Hh} (e : live (h'.take h.length) = live h) {i : Nat} (hi : i < h.length) : (h'[i]?).map Option.isSome = (h[i]?).map Option.isSome := by
  have h0 : (h'[i]?).map (Option.map MO.refs) = (h[i]?).map (Option.map MO.refs) := live_get0 e hi
  have h1 := congrArg (Option.map Option.isSome) h0
  simpa [Option.map_map, Function.comp_def] using h1
section
variable {M M' : Mm} {H H' : Hp} {h h' : Hh}
theorem leave_same (x : Ext M M' H H') (r : Rep M H h) (r' : Rep M' H' h') (e : live (h'.take h.length) = live h) {i : Nat} {a : Addr} (q : M.m[i]? = some (some a)) : M'.m[i]? = some (some a) := by
  have hi := lt_of_get q
  rcases x.kill i hi with k | k
  · rw [k]; exact q
  · have d := r'.dead i k
    obtain ⟨o, ho, _⟩ := r.at_ i a q
    have l := live_get e (i := i) (by rw [← r.len]; exact hi)
    rw [d, ho] at l
    cases l
theorem leave_has (x : Ext M M' H H') (u : M'.u = M.u) (r : Rep M H h) (r' : Rep M' H' h') (e : live (h'.take h.length) = live h) : ∀ b, M.Has b → M'.Has b := fun b z => by
  rcases z with z | z
  · exact .inl (by rw [u]; exact z)
  · obtain ⟨i, hi, q⟩ := List.getElem_of_mem z
    exact .inr (List.mem_of_getElem? (leave_same x r r' e (i := i) (by rw [List.getElem?_eq_getElem hi, q])))
theorem leave_k (x : Ext M M' H H') (r : Rep M H h) (r' : Rep M' H' h') (e : live (h'.take h.length) = live h) {i : Nat} {a : Addr} {o : MO} (q : M.m[i]? = some (some a)) (ho : h'[i]? = some (some o)) : ∀ n ∈ o.refs, ∀ z, M'.m[n]? = some z → M.m[n]? = some z ∨ M.m[n]? = some none := fun n hn z hz => by
  obtain ⟨o0, ho0, ro⟩ := r.at_ i a q
  have l := live_get0 e (i := i) (by rw [← r.len]; exact lt_of_get q)
  rw [ho, ho0] at l
  simp only [Option.map_some, Option.some.injEq] at l
  rw [l] at hn
  have hlt := ro.lt n hn
  cases y : M.m[n] with
  | none => exact .inr (by rw [List.getElem?_eq_getElem hlt, y])
  | some b =>
    have e1 : M.m[n]? = some (some b) := by rw [List.getElem?_eq_getElem hlt, y]
    have e2 := leave_same x r r' e e1
    rw [hz] at e2
    exact .inl (by rw [e1, e2])
theorem leave_rep (x : Ext M M' H H') (u : M'.u = M.u) (r : Rep M H h) (r' : Rep M' H' h') (e : live (h'.take h.length) = live h) : Rep M H' (h'.take h.length) := by
  have hl : (h'.take h.length).length = h.length := by
    have := congrArg List.length e
    simpa [live] using this
  refine ⟨fun a z => ?_, by rw [hl]; exact r.len, r.inj, fun i a q => ?_, fun i q => ?_⟩
  · obtain ⟨h1, o, h2, ht⟩ := r.us a z
    exact ⟨h1, o, x.stab a o h2 h1, ht⟩
  · obtain ⟨o, ho, ro⟩ := r'.at_ i a (leave_same x r r' e q)
    exact ⟨o, by rw [List.getElem?_take_of_lt (by rw [← r.len]; exact lt_of_get q)]; exact ho, ro.sub (leave_has x u r r' e) (leave_k x r r' e q ho)⟩
  · have hi : i < h.length := by rw [← r.len]; exact lt_of_get q
    have l := live_get e hi
    rw [r.dead i q] at l
    rw [List.getElem?_take_of_lt hi]
    cases z : h'[i]? with
    | none => rw [z] at l; cases l
    | some o =>
      rw [z] at l
      cases o with
      | none => rfl
      | some _ => cases l
theorem leave_ext (x : Ext M M' H H') : ExtE M M H H' := ⟨rfl, x.trk, x.stab, fun _ m => .inl m, Nat.le_refl _, fun _ _ => rfl⟩
theorem leave_out (x : Ext M M' H H') (u : M'.u = M.u) (r : Rep M H h) (r' : Rep M' H' h') (e : live (h'.take h.length) = live h) {n : Nat} {a : Addr} (hn : ¬ n < h.length) (q : M'.m[n]? = some (some a)) : ¬ M.Has a := fun z => by
  rcases z with z | z
  · exact (r'.us a (by rw [u]; exact z)).1 (List.mem_of_getElem? q)
  · obtain ⟨i, hi, qi⟩ := List.getElem_of_mem z
    have q' := leave_same x r r' e (i := i) (by rw [List.getElem?_eq_getElem hi, qi])
    have := r'.inj i n a q' q
    rw [r.len] at hi
    omega
theorem leave_mut (x : Ext M M' H H') (u : M'.u = M.u) (r : Rep M H h) (r' : Rep M' H' h') (e : live (h'.take h.length) = live h) {n : Nat} {a : Addr} {o : MO} (hn : ¬ n < h.length) (q : M'.m[n]? = some (some a)) (ho : h'[n]? = some (some o)) (hr : o.refs = [] := by rfl) :
    Rep ⟨M.u, M.m ++ [some a]⟩ H' (h'.take h.length ++ [some o]) ∧ ExtE M ⟨M.u, M.m ++ [some a]⟩ H H' := by
  have out := leave_out x u r r' e hn q
  obtain ⟨o', ho', ro⟩ := r'.at_ n a q
  rw [ho] at ho'; cases ho'
  have R := leave_rep x u r r' e
  have hsub : ∀ b, Mm.Has ⟨a :: M.u, M.m⟩ b → M'.Has b := fun b z => by
    rcases z with z | z
    · rcases List.mem_cons.mp z with rfl | z
      · exact .inr (List.mem_of_getElem? q)
      · exact .inl (by rw [u]; exact z)
    · exact leave_has x u r r' e b (.inr z)
  have R2 : Rep ⟨a :: M.u, M.m⟩ H' (h'.take h.length) := by
    refine ⟨fun b z => ?_, R.len, R.inj, fun i b z => ?_, R.dead⟩
    · rcases List.mem_cons.mp z with rfl | z
      · exact ⟨fun y => out (.inr y), ro.kind⟩
      · exact R.us b z
    · obtain ⟨w, hw, rw'⟩ := r'.at_ i b (leave_same x r r' e z)
      exact ⟨w, by rw [List.getElem?_take_of_lt (by rw [← r.len]; exact lt_of_get z)]; exact hw, rw'.sub hsub (leave_k x r r' e z hw)⟩
  refine ⟨R2.owned (fun y => out (.inl y)) (ro.sub hsub (fun k hk => by rw [hr] at hk; cases hk)), ⟨rfl, x.trk, x.stab, fun b z => ?_, by simp, fun i hi => List.getElem?_append_left hi⟩⟩
  rcases List.mem_append.mp z with z | z
  · exact .inl z
  · have : b = a := by simpa using z
    subst this
    exact x.fresh b (List.mem_of_getElem? q)
theorem leave_ok {rm : Bool} {w : W} {v : V} {Q : VK} (x : Ext M M' H H') (u : M'.u = M.u) (r : Rep M H h) (r' : Rep M' H' h') (rv : RV M' H' v w) (c : Cont RV (leave rm h w h') M H Q) : Q v H' := by
  unfold leave at c
  split at c
  · rename_i e
    have sub := leave_has x u r r' e
    have R := leave_rep x u r r' e
    split at c
    · rename_i n
      obtain ⟨a, ea, rfl⟩ := rv
      split at c
      · rename_i hn
        refine c.fin (leave_ext x) R ⟨a, ?_, rfl⟩
        rcases x.kill n (by rw [r.len]; exact hn) with k | k
        · rw [← k]; exact ea
        · rw [ea] at k; cases k
      · rename_i hn
        have out := leave_out x u r r' e hn ea
        obtain ⟨o, ho, ro⟩ := r'.at_ n a ea
        rw [ho] at c
        have hlen : M.m.length = (h'.take h.length).length := R.len
        have hl : (h'.take h.length).length = h.length := by
          have := congrArg List.length e
          simpa [live] using this
        cases o with
        | lst ds =>
          obtain ⟨xs, hx, q⟩ := ro
          cases rm with
          | false => exact c.fin (leave_ext x) R (RD.lst out hx (q.sub sub))
          | true =>
            obtain ⟨R2, x2⟩ := leave_mut x u r r' e hn ea ho
            exact c.fin x2 R2 ⟨a, by show (M.m ++ [some a])[h.length]? = _; rw [← hl, ← hlen]; simp, rfl⟩
        | dic ds =>
          obtain ⟨xs, hx, q⟩ := ro
          cases rm with
          | false => exact c.fin (leave_ext x) R (RD.dic out hx (q.sub sub))
          | true =>
            obtain ⟨R2, x2⟩ := leave_mut x u r r' e hn ea ho
            exact c.fin x2 R2 ⟨a, by show (M.m ++ [some a])[h.length]? = _; rw [← hl, ← hlen]; simp, rfl⟩
        | dit ds =>
          obtain ⟨xs, hx, q⟩ := ro
          cases rm with
          | false => exact c.no.elim
          | true =>
            obtain ⟨R2, x2⟩ := leave_mut x u r r' e hn ea ho
            exact c.fin x2 R2 ⟨a, by show (M.m ++ [some a])[h.length]? = _; rw [← hl, ← hlen]; simp, rfl⟩
        | tab q P => exact c.no.elim
        | ins C fs => exact c.no.elim
        | obj C fs => exact c.no.elim
        | los os => exact c.no.elim
        | dpk es => exact c.no.elim
    · exact c.no.elim
    · exact c.no.elim
    · exact c.no.elim
    · rename_i w' hw hp hk ht
      cases w with
      | ref n => exact absurd rfl (hw n)
      | pack n => exact absurd rfl (hp n)
      | lock n => exact absurd rfl (hk n)
      | tpk n => exact absurd rfl (ht n)
      | dat d => exact c.fin (leave_ext x) R (RD.sub sub rv)
      | ins C fs =>
        obtain ⟨a, dx, gs, e1, n, q, rf⟩ := rv
        exact c.fin (leave_ext x) R ⟨a, dx, gs, e1, fun z => n (sub a z), q, rf.to fun _ _ => RD.sub sub⟩
      | objs os => exact c.fin (leave_ext x) R (RWs.to (show RWs _ _ _ _ from rv) (fun b _ _ n z => n (sub b z)) (fun _ _ q _ _ => q) fun _ _ => RD.sub sub)
      | exc k C fs =>
        obtain ⟨a, d, gs, e1, r1⟩ := rv
        exact c.fin (leave_ext x) R ⟨a, d, gs, e1, r1.to (fun b _ _ n z => n (sub b z)) (fun _ _ q _ _ => q) fun _ _ => RD.sub sub⟩
      | scr ns =>
        obtain ⟨a, o, e1, n, q⟩ := rv
        exact c.fin (leave_ext x) R ⟨a, o, e1, fun z => n (sub a z), q⟩
  · exact c.no.elim
end
theorem rs_start {M : Mm} {H : Hp} {vs : List V} {ws : List W} (r : RVs M H vs ws) (n : Nat) : RS M H (ws.map some ++ List.replicate n none) (vs.map some ++ List.replicate n none) := by
  refine ⟨by simp [r.length], ?_⟩
  induction r with
  | nil =>
    intro i w e
    rw [List.map_nil, List.nil_append, List.getElem?_replicate] at e
    split at e <;> cases e
  | cons a t ih =>
    intro i w e
    cases i with
    | zero => simp at e; subst e; exact ⟨_, rfl, a⟩
    | succ i => exact ih i w (by simpa using e)
end DL
set_option maxRecDepth 100000
set_option maxHeartbeats 400000
namespace DL
open PySem PySem.Spec PyProof.Rows L2
variable [HW]
def dcL (k : TM) (t : BM) (fk fv : EM) (ρ : Env) : List D → List (D × D) → Hh → Option (List (D × D) × Hh)
  | [], es, h => some (es, h)
  | d :: ds, es, h => match k (.dat d) ρ h with
    | some ρ1 => obnd (t ρ1 h) fun b h2 => if b = true then obnd (fk ρ1 h2) fun w h3 => obnd (fv ρ1 h3) fun v h4 => match w, v with
        | .dat kd, .dat d' => match dKey kd with
          | some key => if es.length < sizeLine then dcL k t fk fv ρ ds (putK' es key d') h4 else none
          | none => none
        | _, _ => none
      else dcL k t fk fv ρ ds es h2
    | none => none
def fDc (m : Bool) (gi : IM) (k : TM) (t : BM) (fk fv : EM) (vs : List Nat) : EM := fun ρ h => obnd (gi ρ h) fun ds h1 => obnd (dcL k t fk fv (wipeE ρ vs) ds [] h1) fun es h2 => mkK m es h2
theorem dc_imp {gi : IM} {k : TM} {t : BM} {fk fv : EM} {ts vs : List Nat} {m : Bool} (hs : ∀ j ∈ ts, j ∈ vs) : ∀ σ H Q, tE (fDc m gi k t fk fv vs) σ H Q → tDc (tI gi) (tGd ts k) (tT t) (tE fk) (tE fv) vs σ H Q := fun σ H Q => by
  rintro ⟨M, h, ρ, r, rs, c⟩
  obtain ⟨ds, h1, e1, c1⟩ := Cont.bind (δ := Unit) c
  refine ⟨M, h, ρ, ds, h1, r, rs, e1, fun M1 H1 J x1 r1 it D nD => ?_⟩
  obtain ⟨out, h2, e2, c2⟩ := Cont.bind (δ := Unit) (c1 M1 H1 x1)
  have x0 := ext_made (M := M1) (o := .dK []) nD
  have r0 := r1.make (o := .dK []) nD
  have rs0 : RS (M1.made D) (upd H1 D (.dK [])) (wipeE ρ vs) (L2.wipe σ vs) := ((rs.mono x1).moveu x0 rfl).wipe vs
  let P : Nat → Hp → Prop := fun i Hi => ∃ mi hi acc dacc, ExtE M1 ⟨M1.u, mi⟩ H1 Hi ∧ Rep ⟨D :: M1.u, mi⟩ Hi hi ∧ RS ⟨D :: M1.u, mi⟩ Hi (wipeE ρ vs) (L2.wipe σ vs) ∧ Hi D = some (.dK acc) ∧ RDk ⟨D :: M1.u, mi⟩ Hi acc dacc ∧ dcL k t fk fv (wipeE ρ vs) (ds.drop i) dacc hi = some (out, h2)
  refine ⟨fun i n Hi => n + i = ds.length ∧ P i Hi, ⟨ds.length, by omega, M1.m, h1, [], [], (ExtE.refl M1 H1).beside nD, r0, rs0, upd_same, .nil, by rw [List.drop_zero]; exact e2⟩, fun i n Hi w => ?_⟩
  obtain ⟨hn, mi, hi, acc, dacc, xi, ri, rsi, hD, qa, el⟩ := w
  have inD : D ∈ (⟨D :: M1.u, mi⟩ : Mm).u := List.mem_cons_self
  obtain ⟨ity, its⟩ := it _ Hi (xi.into nD) fun a ha => ri.tracked ha
  by_cases hlt : i < ds.length
  · refine .inr ?_
    have ed : ds[i]? = some ds[i] := List.getElem?_eq_getElem hlt
    obtain ⟨go, yl⟩ := ity i _ ed
    rw [List.drop_eq_getElem_cons hlt] at el
    refine ⟨go, P (i + 1), fun H' p => ⟨n - 1, by omega, by omega, p⟩, fun x H2 hy => ?_⟩
    obtain ⟨sm, rx⟩ := yl x H2 hy
    obtain ⟨ri2, xi2⟩ := ri.grow sm
    unfold dcL at el
    split at el
    · rename_i ρ1 ek
      refine ⟨_, hi, wipeE ρ vs, .dat ds[i], ρ1, ri2, rsi.mono xi2, rx, ek, fun σ2 rs2 l2 o2 => ⟨wipe_of (by rw [l2, L2.wipe_length]) o2 hs, ?_⟩⟩
      cases et : t ρ1 hi with
      | none => rw [et] at el; cases el
      | some pr =>
        obtain ⟨b, h3⟩ := pr
        rw [et] at el
        simp only [obnd_some] at el
        refine ⟨_, hi, ρ1, ri2, rs2, b, h3, et, fun M3 H3 b' x3 r3 eb => ?_⟩
        subst eb
        obtain ⟨u3, m3⟩ := M3
        obtain rfl : u3 = D :: M1.u := x3.same
        have xi3 : ExtE M1 ⟨M1.u, m3⟩ H1 H3 := xi.trans ((xi2.trans x3).reu M1.u)
        have hD3 : H3 D = some (.dK acc) := x3.stab _ _ (sm _ _ hD) fun z => (ri.us D inD).1 z
        cases b' with
        | false =>
          simp only [Bool.false_eq_true, if_false] at el
          exact iteF ⟨m3, h3, acc, dacc, xi3, r3, (rsi.mono xi2).mono x3, hD3, (qa.mono xi2.ext).mono x3.ext, el⟩
        | true =>
          simp only [if_true] at el
          refine iteT ?_
          cases ef : fk ρ1 h3 with
          | none => rw [ef] at el; cases el
          | some pr =>
            obtain ⟨w, h4⟩ := pr
            rw [ef] at el
            simp only [obnd_some] at el
            refine ⟨_, h3, ρ1, r3, rs2.mono x3, w, h4, ef, fun M4 H4 y x4 r4 ry => ?_⟩
            obtain ⟨u4, m4⟩ := M4
            obtain rfl : u4 = D :: M1.u := x4.same
            have hD4 : H4 D = some (.dK acc) := x4.stab _ _ hD3 fun z => (r3.us D List.mem_cons_self).1 z
            cases eg : fv ρ1 h4 with
            | none => rw [eg] at el; cases el
            | some pr =>
              obtain ⟨w', h5⟩ := pr
              rw [eg] at el
              simp only [obnd_some] at el
              refine ⟨_, h4, ρ1, r4, (rs2.mono x3).mono x4, w', h5, eg, fun M5 H5 z x5 r5 rz => ?_⟩
              obtain ⟨u5, m5⟩ := M5
              obtain rfl : u5 = D :: M1.u := x5.same
              have hD5 : H5 D = some (.dK acc) := x5.stab _ _ hD4 fun z => (r4.us D List.mem_cons_self).1 z
              split at el
              · rename_i kd d'
                split at el
                · rename_i key ekey
                  split at el
                  · rename_i hz
                    have := kP_dKey ekey
                    subst this
                    have ry' : RD ⟨D :: M1.u, m5⟩ H5 y (kP key) := (show RD _ _ y _ from ry).mono x5.ext
                    have q5 := (((qa.mono xi2.ext).mono x3.ext).mono x4.ext).mono x5.ext
                    have in5 : D ∈ (⟨D :: M1.u, m5⟩ : Mm).u := List.mem_cons_self
                    exact ⟨acc, key, rd_kP ry', hD5, by rw [qa.length]; exact hz, m5, h5, _, putK' dacc key d', ((xi3.trans (x4.reu M1.u)).trans (x5.reu M1.u)).beside nD, r5.off in5, ((((rsi.mono xi2).mono x3).mono x4).mono x5).off in5, upd_same, (q5.put key rz).off in5, el⟩
                  · cases el
                · cases el
              · cases el
    · cases el
  · refine .inl ?_
    have hi' : i = ds.length := by omega
    subst hi'
    rw [List.drop_length] at el
    cases el
    refine ⟨its, ?_⟩
    have c3 := c2 M1 H1 (.refl _ _)
    have nu : D ∉ M1.u := fun z => r1.new nD (.inl z)
    have nm : some D ∉ mi := (ri.us D inD).1
    cases m with
    | false => exact c3.fin xi ri.told (RD.dic (fun z => z.elim nu nm) hD (qa.sub less_has))
    | true =>
      refine c3.fin (M' := ⟨M1.u, mi ++ [some D]⟩) ⟨rfl, xi.trk, xi.stab, fun a z => ?_, Nat.le_trans xi.len (by simp), fun j hj => ?_⟩ (ri.owned nu ⟨acc, hD, qa⟩) ⟨D, ?_, rfl⟩
      · rcases List.mem_append.mp z with z | z
        · exact xi.fresh a z
        · have : a = D := by simpa using z
          rw [this]; exact .inr nD
      · have hl : j < mi.length := Nat.lt_of_lt_of_le hj xi.len
        show (mi ++ [some D])[j]? = _
        rw [List.getElem?_append_left hl]; exact xi.pre j hj
      · show (mi ++ [some D])[h2.length]? = _
        rw [← show mi.length = h2.length from ri.len]; simp
section
variable {X : Cx}
theorem d_dc (m : Bool) {kx vx tg iter : Expr} {ifs : List Expr} {scope : Scope} {own : List (Str × Nat)} {pos : Pos} {gi : IM} {ts : List Nat} {k : TM} {t : BM} {fk fv : EM} (hc : X.calm = true) (hN : X.N.Nodup) (hi : DI X tg iter gi) (ok : BlkOk X.N X.env.scope scope own)
    (hg : ∀ (s : Shared) (H : Hp) (C : Addr) (cl : List (Str × Addr)) (fp : List Addr), DG (X.blk s H scope (compEnvC scope cl C X.env) fp) tg ts k) (ht : ∀ (s : Shared) (H : Hp) (C : Addr) (cl : List (Str × Addr)) (fp : List Addr), DTs (X.blk s H scope (compEnvC scope cl C X.env) fp) ifs t)
    (hk : ∀ (s : Shared) (H : Hp) (C : Addr) (cl : List (Str × Addr)) (fp : List Addr), DE (X.blk s H scope (compEnvC scope cl C X.env) fp) kx fk) (he : ∀ (s : Shared) (H : Hp) (C : Addr) (cl : List (Str × Addr)) (fp : List Addr), DE (X.blk s H scope (compEnvC scope cl C X.env) fp) vx fv)
    (hsub : ∀ j ∈ ts, j ∈ own.map (·.2)) (hs : ∀ x, foldedSetIterable iter X.env x = pure x := by intro _; rfl) :
    DE X (.DictComp kx vx [⟨tg, iter, ifs, 0⟩] scope pos) (fDc m gi k t fk fv (own.map (·.2))) := (pe_dc hc hN hi ok hg ht hk he hs).weak (dc_imp hsub)
end
end DL
set_option maxRecDepth 100000
set_option maxHeartbeats 400000
namespace DL
open PySem PySem.Spec PyProof.Rows L2
variable [HW]
structure RG (k : Nat) (A : Around) : Prop where
  room : Room k A
  gd : A.guards = some []
theorem RG.mono {j k : Nat} {A : Around} (r : RG k A) (h : j ≤ k) : RG j A := ⟨r.room.mono h, r.gd⟩
structure FnG (P : Program) (w : World) (K : PySem.W.Frag) (mg : Str → Option Value) (base : Heap) (C : CXT) (k : Nat) (f : Addr) (fd : FuncData) (ps : List Str) (sp : Sp) : Prop where
  len : ∀ vs H Q E, sp vs H Q E → vs.length = ps.length
  run : ∀ (A : Around) (outer : List PySem.Env) (s : Shared) (H : Hp) (args : Args) (us : List Value) (vs : List V) (Q : VK) (E : XK), RG k A → Env0 P w K mg base A outer s H → BindsTo s fd args (ps.zip us) → Vals vs us →
    sp vs H Q E → codeAny (model P w) A (.call (.ref f) args) (CR C outer P w H s Q E) s
section
variable {P : Program} {w : World} {K : PySem.W.Frag} {mg : Str → Option Value} {base : Heap}
theorem fn_g0 {x qual : Str} {st : Stmt} {f : Addr} {fd : FuncData} {N ps : List Str} {k : Nat} {sp : Sp} (F : Fun K x qual st f fd) (S : FnScope N ps (defScope st)) (len : ∀ vs H Q E, sp vs H Q E → vs.length = ps.length)
    (hb : ∀ (cdv : Value), fd.code = cdv → ∀ (A : Around) (outer : List PySem.Env) (s : Shared) (H : Hp) (vs : List V) (Q : VK) (E : XK), RG k (A.deeper (envOfC qual (defScope st) s.heap.objs.size f cdv)) → sp vs H Q E →
      ∃ t, PSs (cxOf CX0 P w K mg base N qual (defScope st) f cdv A outer s H E).nox (defBody st) t ∧ t { nx := fun _ H' => Q .non H', rt := Q } (L2.start N vs) H) : FnG P w K mg base CX0 (k + 1) f fd ps sp := by
  obtain ⟨oc, od, kV, doc, pm, an, cdv, ct, osl, rfl, lk, hcd⟩ := F.ex
  constructor
  · exact len
  intro A outer s H args us vs Q E rg e0 bd vl q
  have kin : K.In s.heap := e0.mod.kin.keeps fun b o e => (e0.bs b o e).1
  have nl : s.heap.NoLimit := e0.mod.nolimit.keeps fun b o e => (e0.bs b o e).1
  have kinds : ∀ y ∈ ps.zip us, (defScope st).names.lookup y.1 = some .local ∨ ((defScope st).names.lookup y.1 = some .cell ∧ ((PySem.cellsFrom (s.heap.objs.size + 1) (defScope st).names []).lookup y.1).isSome = true) := by
    intro y hy
    have hp : y.1 ∈ ps := (List.of_mem_zip (show (y.1, y.2) ∈ ps.zip us from hy)).1
    rcases S.par y.1 hp with h | h
    · left; exact h
    · right; exact ⟨h, PySem.W.cellsFrom_some _ _ _ (.inl h)⟩
  apply codeAny_call_function rg.room.depth (kin _ _ lk) rfl S.co S.gen rfl (PySem.W.codeRec_of kin hcd)
  apply bd
  apply wpAny_newFunctionEnv_cells S.kind kinds
  intro env he s1 hx
  subst he
  constructor
  · exact nl.keeps hx.toInCall.keep
  apply codeAny_func
  obtain ⟨t, ht, hq⟩ := hb cdv rfl A outer s H vs Q E ⟨rg.room.deeper _, rg.gd⟩ q
  have I0 := inv_start (CX := CX0) (E := E) S rg.room.hd e0 (len _ _ _ _ q) vl hx
  apply wpAny_mono (ht.nox.run [] s1 _ H _ I0 hq)
  · intro fl s' hs
    cases fl
    case ret u => obtain ⟨v, σ', H', J, rv, q'⟩ := hs; exact ⟨v, H', J.os, J.bare, J.base, J.hok, rv, q'⟩
    case next => obtain ⟨σ', H', J, q'⟩ := hs; exact ⟨.non, H', J.os, J.bare, J.base, J.hok, rfl, q'⟩
    case brk => obtain ⟨_, _, _, q'⟩ := hs; exact q'.elim
    case cont => obtain ⟨_, _, _, q'⟩ := hs; exact q'.elim
  · intro e s' hs; exact hs
structure GD (P : Program) (w : World) (K : PySem.W.Frag) (mg : Str → Option Value) (base : Heap) (k : Nat) (x : Str) (st : Stmt) (ps : List Str) (m : FM) : Prop where
  ex : ∃ (f : Addr) (fd : FuncData), Fun K x x st f fd ∧ mg x = some (.ref f) ∧ FnG P w K mg base CX0 k f fd ps (spD m)
theorem fng_ok0 {x : Str} {st : Stmt} {f : Addr} {fd : FuncData} {N ps : List Str} {k : Nat} {body : SM} (rm : Bool) (F : Fun K x x st f fd) (S : FnScope N ps (defScope st))
    (hb : ∀ (cdv : Value), fd.code = cdv → ∀ (A : Around) (outer : List PySem.Env) (s : Shared) (H : Hp) (E : XK), RG k (A.deeper (envOfC x (defScope st) s.heap.objs.size f cdv)) → DSs (cxOf CX0 P w K mg base N x (defScope st) f cdv A outer s H E).nox (defBody st) body) :
    FnG P w K mg base CX0 (k + 1) f fd ps (spD (fnM rm ps.length N.length body)) := by
  refine fn_g0 F S (fun vs H Q E q => ?_) (fun cdv ec A outer s H vs Q E hr q => ?_)
  · obtain ⟨M, h, ws, rep, rv, c⟩ := q
    unfold fnM at c
    split at c
    · rename_i hl
      rw [rv.length]; exact hl
    · exact c.no.elim
  · obtain ⟨M, h, ws, rep, rv, c⟩ := q
    unfold fnM at c
    split at c
    · rename_i hl
      refine ⟨_, hb cdv ec A outer s H E hr, M, h, ws.map some ++ List.replicate (N.length - ps.length) none, rep, ?_, ?_⟩
      · have e : L2.start N vs = vs.map some ++ List.replicate (N.length - ps.length) none := by unfold L2.start; rw [rv.length, hl]
        rw [e]
        exact rs_start rv _
      · cases eb : body (ws.map some ++ List.replicate (N.length - ps.length) none) h with
        | none => rw [eb] at c; exact c.no.elim
        | some pr =>
          obtain ⟨o, h'⟩ := pr
          rw [eb] at c
          cases o with
          | nx ρ => exact fun M1 H1 σ u x1 r1 rs1 => leave_ok x1 u rep r1 (show RV M1 H1 .non (.dat .none) from .non) c
          | rt w => exact fun M1 H1 v u x1 r1 v1 => leave_ok x1 u rep r1 v1 c
          | bk ρ => exact c.no.elim
          | ct ρ => exact c.no.elim
    · exact c.no.elim
theorem fng_ok {x : Str} {st : Stmt} {f : Addr} {fd : FuncData} {N ps : List Str} {k : Nat} {body : SM} (rm : Bool) (F : Fun K x x st f fd) (S : FnScope N ps (defScope st))
    (hb : ∀ (cdv : Value) (A : Around) (outer : List PySem.Env) (s : Shared) (H : Hp) (E : XK), RG k (A.deeper (envOfC x (defScope st) s.heap.objs.size f cdv)) → DSs (cxOf CX0 P w K mg base N x (defScope st) f cdv A outer s H E).nox (defBody st) body) :
    FnG P w K mg base CX0 (k + 1) f fd ps (spD (fnM rm ps.length N.length body)) := fng_ok0 rm F S fun cdv _ => hb cdv
theorem gd_ok {x : Str} {st : Stmt} {f : Addr} {fd : FuncData} {N ps : List Str} {k : Nat} {body : SM} (rm : Bool) (F : Fun K x x st f fd) (hm : mg x = some (.ref f)) (S : FnScope N ps (defScope st))
    (hb : ∀ (cdv : Value) (A : Around) (outer : List PySem.Env) (s : Shared) (H : Hp) (E : XK), RG k (A.deeper (envOfC x (defScope st) s.heap.objs.size f cdv)) → DSs (cxOf CX0 P w K mg base N x (defScope st) f cdv A outer s H E).nox (defBody st) body) :
    GD P w K mg base (k + 1) x st ps (fnM rm ps.length N.length body) := ⟨f, fd, F, hm, fng_ok rm F S hb⟩
theorem GD.no {x : Str} {st : Stmt} {f : Addr} {fd : FuncData} {ps : List Str} {k : Nat} (F : Fun K x x st f fd) (hm : mg x = some (.ref f)) : GD P w K mg base k x st ps (fun _ _ => none) :=
  ⟨f, fd, F, hm, fun _ _ _ _ ⟨_, _, _, _, _, c⟩ => c.no.elim, fun _ _ _ _ _ _ _ _ _ _ _ _ _ ⟨_, _, _, _, _, c⟩ => c.no.elim⟩
end
section
variable {X : Cx} {k : Nat} {f : Addr} {fd : FuncData} {ps : List Str} {m : FM} {x : Str} {p pos : Pos} {e : Expr} {es : List Expr} {g : AM} {st : Stmt}
theorem run_g {sp : Sp} {pins : List (Addr × Obj)} {σ : L2.St} {H : Hp} {s : Shared} {Q : VK} {args : Args} {us : List Value} {vs : List V} (F : FnG X.prog X.w X.K X.mg X.base CX0 k f fd ps sp) (hr : RG k X.A)
    (I : Inv X pins σ H s) (hb : BindsTo s fd args (ps.zip us)) (r : Vals vs us) (h : sp vs H Q E0) : codeAny (model X.prog X.w) X.A (.call (.ref f) args) (fun r s' => match r with
      | .ok (.ret u) => EP X pins σ Q u s'
      | _ => False) s := by
  apply codeAny_mono (F.run X.A X.stack s H args us vs Q E0 hr I.env0 hb r h)
  intro r s' hq
  cases r with
  | error e => exact hq
  | ok fl =>
    cases fl with
    | ret u => exact I.after hq
    | next => exact hq
    | brk => exact hq
    | cont => exact hq
theorem d_call' (G : GD X.prog X.w X.K X.mg X.base k x st ps m) (hr : RG k X.A) (ha : DA X (e :: es) g)
    (hbd : ∀ (kV doc pm : Value) (an : Option Addr) (cdv ct : Value) (us : List Value), us.length = ps.length → bindArgs (PySem.W.fnOf x x (defArgs st) (defBody st) (defScope st) .none kV doc pm an cdv ct) ⟨us, []⟩ = pure (ps.zip us))
    (hg : Gl X x := by rfl)
    (hdb : (x == ("__debug__" : Str)) = false := by decide) (he : starEach (e :: es) X.env = (false, eval e X.env) :: starEach es X.env := by rfl) (hpl : (backTo pos (starEach es X.env)).any (·.1) = false := by rfl) : DE X (.Call (.Name x p) (e :: es) [] pos) (fA m g) := by
  obtain ⟨f, fd, F, hm, G⟩ := G.ex
  refine ⟨fun pins s σ H Q I q => ?_⟩
  obtain ⟨M, h, ρ, r, rs, c⟩ := q
  obtain ⟨ws, h1, e1, c1⟩ := Cont.bind (δ := Unit) c
  apply wpAny_Call_Name_kw
  apply ld_glob I hg hm _ hdb
  apply PySem.W.callWith_K (h₀ := X.base) I.ok.mod.kin F.kp _ he hpl
  refine thn (ha.run pos pins s σ H (fun vs H1 => spD m vs H1 Q E0) I ⟨M, h, ρ, r, rs, ws, h1, e1, fun M1 H1 vs x1 r1 v1 => ⟨M1, h1, ws, r1, v1, c1 M1 H1 x1⟩⟩) fun us s1 ⟨vs, H1, I1, rv, q⟩ => ⟨I1.kIn, ?_⟩
  have hl : us.length = ps.length := by rw [← rv.length]; exact G.len _ _ _ _ q
  apply wpAny_call
  have bd := (F.binds (ps := ps) hbd) s1 us I1.kIn (by simpa using hl)
  rw [List.append_nil] at bd
  apply codeAny_mono (run_g G hr I1 bd rv q)
  intro r s' hq
  cases r with
  | error e => exact hq.elim
  | ok fl =>
    cases fl with
    | ret u => exact hq
    | next => exact hq
    | brk => exact hq
    | cont => exact hq
def permL {α : Type} (is : List Nat) (ws : List α) : Option (List α) := (is.map fun i => ws[i]?).foldr (fun o r => match o, r with
    | some w, some l => some (w :: l)
    | _, _ => none) (some [])
def permM (is : List Nat) (m : FM) : FM := fun ws h => match permL is ws with
  | some l => m l h
  | none => none
theorem permL_cons {α : Type} (i : Nat) (is : List Nat) (ws : List α) : permL (i :: is) ws = match ws[i]?, permL is ws with
    | some w, some l => some (w :: l)
    | _, _ => none := rfl
def kwM (n : Nat) (is : List Nat) (m : FM) : FM := fun ws h => if ws.length = n then permM is m ws h else none
theorem permL_rvs {M : Mm} {H : Hp} {vs : List V} {ws : List W} (r : RVs M H vs ws) : ∀ {is : List Nat} {l : List W}, permL is ws = some l → ∃ l', permL is vs = some l' ∧ RVs M H l' l
  | [], l, e => by cases e; exact ⟨[], rfl, .nil⟩
  | i :: is, l, e => by
    rw [permL_cons] at e
    cases e1 : ws[i]? with
    | none => rw [e1] at e; cases e
    | some w =>
      cases e2 : permL is ws with
      | none => rw [e1, e2] at e; cases e
      | some l0 =>
        rw [e1, e2] at e
        cases e
        obtain ⟨l', h1, h2⟩ := permL_rvs r e2
        obtain ⟨v, h3, h4⟩ : ∃ v, vs[i]? = some v ∧ RV M H v w := by
          clear e2 h1 h2
          induction r generalizing i with
          | nil => simp at e1
          | cons a t ih => cases i with
            | zero => simp at e1; subst e1; exact ⟨_, rfl, a⟩
            | succ i => exact ih i (by simpa using e1)
        exact ⟨v :: l', by rw [permL_cons, h3, h1], .cons h4 h2⟩
theorem permL_vals {vs : List V} {us : List Value} (r : Vals vs us) : ∀ {is : List Nat} {l : List V}, permL is vs = some l → ∃ l', permL is us = some l' ∧ Vals l l'
  | [], l, e => by cases e; exact ⟨[], rfl, .nil⟩
  | i :: is, l, e => by
    rw [permL_cons] at e
    cases e1 : vs[i]? with
    | none => rw [e1] at e; cases e
    | some w =>
      cases e2 : permL is vs with
      | none => rw [e1, e2] at e; cases e
      | some l0 =>
        rw [e1, e2] at e
        cases e
        obtain ⟨l', h1, h2⟩ := permL_vals r e2
        obtain ⟨v, h3, h4⟩ : ∃ v, us[i]? = some v ∧ RelV w v := by
          clear e2 h1 h2
          induction r generalizing i with
          | nil => simp at e1
          | cons a t ih => cases i with
            | zero => simp at e1; subst e1; exact ⟨_, rfl, a⟩
            | succ i => exact ih i (by simpa using e1)
        exact ⟨v :: l', by rw [permL_cons, h3, h1], .cons h4 h2⟩
theorem d_callK {kws : List Keyword} {ks : List Str} {is : List Nat} (G : GD X.prog X.w X.K X.mg X.base k x st ps m) (hr : RG k X.A) (ha : DK X kws g)
    (hbd : ∀ (kV doc pm : Value) (an : Option Addr) (cdv ct : Value) (us l : List Value), us.length = ks.length → permL is us = some l → bindArgs (PySem.W.fnOf x x (defArgs st) (defBody st) (defScope st) .none kV doc pm an cdv ct) ⟨[], ks.zip us⟩ = pure (ps.zip l))
    (hkl : kws.length = ks.length)
    (hall : (backToKw pos (keywordEach kws X.env)).all (·.1.isSome) = true := by rfl) (hks : (backToKw pos (keywordEach kws X.env)).filterMap (·.1) = ks := by rfl)
    (hpl : ((backTo pos (starEach [] X.env)).any (·.1) || (backToKw pos (keywordEach kws X.env)).any (·.1.isNone)) = false := by rfl)
    (hg : Gl X x := by rfl) (hdb : (x == ("__debug__" : Str)) = false := by decide) : DE X (.Call (.Name x p) [] kws pos) (fA (kwM ks.length is m) g) := by
  obtain ⟨f, fd, F, hm, G⟩ := G.ex
  refine ⟨fun pins s σ H Q I q => ?_⟩
  obtain ⟨M, h, ρ, r, rs, c⟩ := q
  obtain ⟨ws, h1, e1, c1⟩ := Cont.bind (δ := Unit) c
  apply wpAny_Call_Name_kw
  apply ld_glob I hg hm _ hdb
  apply PySem.W.callWith_KW0 (h₀ := X.base) I.ok.mod.kin F.kp hall _ hpl
  refine thn (ha.run pos pins s σ H (fun vs H1 => vs.length = ks.length ∧ ∃ l, permL is vs = some l ∧ spD m l H1 Q E0) I ⟨M, h, ρ, r, rs, ws, h1, e1, fun M1 H1 vs x1 r1 v1 => ?_⟩) fun us s1 ⟨vs, H1, I1, rv, hlen, l, el, q⟩ => ⟨I1.kIn, ?_⟩
  · have c2 := c1 M1 H1 x1
    unfold kwM at c2
    split at c2
    · rename_i hw
      refine ⟨by rw [v1.length]; exact hw, ?_⟩
      unfold permM at c2
      split at c2
      · rename_i l el
        obtain ⟨l', h2, h3⟩ := permL_rvs v1 el
        exact ⟨l', h2, M1, h1, l, r1, h3, c2⟩
      · exact c2.no.elim
    · exact c2.no.elim
  · obtain ⟨l', h2, h3⟩ := permL_vals rv el
    have hl : us.length = ks.length := by rw [← rv.length]; exact hlen
    rw [hks]
    apply wpAny_call
    have bd : BindsTo s1 fd ⟨[], ks.zip us⟩ (ps.zip l') := by
      obtain ⟨oc, od, kV, doc, pm, an, cdv, ct, osl, rfl, lk, hcd⟩ := F.ex
      exact .of_eq (hbd kV doc pm an cdv ct us l' hl h2)
    apply codeAny_mono (run_g G hr I1 bd h3 q)
    intro r s' hq
    cases r with
    | error e => exact hq.elim
    | ok fl =>
      cases fl with
      | ret u => exact hq
      | next => exact hq
      | brk => exact hq
      | cont => exact hq
end
end DL
set_option maxRecDepth 100000
set_option maxHeartbeats 400000
namespace DL
open PySem PySem.Spec PyProof.Rows L2
variable [HW]
section
variable {X : Cx}
def revS (z : Str) : Str := ⟨z.cps.toList.reverse.toArray⟩
def backW (m : Bool) (w : W) (h : Hh) : Option (W × Hh) := match w with
  | .dat (.list ds) => mkL m ds.reverse h
  | .dat (.tuple ds) => some (.dat (.tuple ds.reverse), h)
  | .dat (.str z) => if z.length ≤ sizeLine then some (.dat (.str (revS z)), h) else none
  | .ref n => match lstAt h n with
    | some ds => mkL m ds.reverse h
    | none => none
  | _ => none
def fRev (m : Bool) (f : EM) : EM := fun ρ h => obnd (f ρ h) fun w h1 => backW m w h1
end
end DL
set_option maxRecDepth 100000
set_option maxHeartbeats 400000
namespace DL
open PySem PySem.Spec PyProof.Rows L2
variable [HW]
structure Bi (mg : Str → Option Value) : Prop where
  len : mg "len" = none
  abs : mg "abs" = none
  int : mg "int" = none
  max : mg "max" = none
  min : mg "min" = none
  all : mg "all" = none
  any : mg "any" = none
  sum : mg "sum" = none
  tuple : mg "tuple" = none
  list : mg "list" = none
  dict : mg "dict" = none
  sorted : mg "sorted" = none
  isinstance : mg "isinstance" = none
  str : mg "str" = none
  bool : mg "bool" = none
  range : mg "range" = none
  enumerate : mg "enumerate" = none
  zip : mg "zip" = none
  reversed : mg "reversed" = none
  repr : mg "repr" = none
  set : mg "set" = none
section
variable {X : Cx} {p pos : Pos} {e e2 : Expr} {es : List Expr} {g : AM} {f : EM}
theorem bt_int : bootBuiltins "int" = some (.type "int") := by decide +kernel
theorem bt_str : bootBuiltins "str" = some (.type "str") := by decide +kernel
theorem bt_list : bootBuiltins "list" = some (.type "list") := by decide +kernel
theorem bt_tuple : bootBuiltins "tuple" = some (.type "tuple") := by decide +kernel
theorem bt_bool : bootBuiltins "bool" = some (.type "bool") := by decide +kernel
theorem bt_dict : bootBuiltins "dict" = some (.type "dict") := by decide +kernel
theorem d_abs (hm : X.mg "abs" = none) (ha : DA X [e] g) (hg : Gl X "abs" := by rfl) (he : starEach [e] X.env = (false, eval e X.env) :: starEach [] X.env := by rfl) (hpl : (backTo pos (starEach [] X.env)).any (·.1) = false := by rfl) : DE X (.Call (.Name "abs" p) [e] [] pos) (fA absW g) :=
  d_callB call_abs s_abs hm (by decide +kernel) ha hg (by decide) (by decide) he hpl
theorem d_all (hc : X.calm = true) (hm : X.mg "all" = none) (ha : DA X [e] g) (hg : Gl X "all" := by rfl) (he : starEach [e] X.env = (false, eval e X.env) :: starEach [] X.env := by rfl) (hpl : (backTo pos (starEach [] X.env)).any (·.1) = false := by rfl) : DE X (.Call (.Name "all" p) [e] [] pos) (fA allW g) :=
  d_callB (cr_all hc) s_all hm (by decide +kernel) ha hg (by decide) (by decide) he hpl
theorem d_sum (hc : X.calm = true) (hm : X.mg "sum" = none) (ha : DA X [e] g) (hg : Gl X "sum" := by rfl) (he : starEach [e] X.env = (false, eval e X.env) :: starEach [] X.env := by rfl) (hpl : (backTo pos (starEach [] X.env)).any (·.1) = false := by rfl) : DE X (.Call (.Name "sum" p) [e] [] pos) (fA sumW g) :=
  d_callB (cr_sum hc) s_sum hm (by decide +kernel) ha hg (by decide) (by decide) he hpl
theorem d_sorted {k : Nat} (hr : RG k X.A) (m : Bool) (hm : X.mg "sorted" = none) (ha : DA X [e] g) (hg : Gl X "sorted" := by rfl) (he : starEach [e] X.env = (false, eval e X.env) :: starEach [] X.env := by rfl) (hpl : (backTo pos (starEach [] X.env)).any (·.1) = false := by rfl) : DE X (.Call (.Name "sorted" p) [e] [] pos) (fA (sortW m) g) :=
  d_callB (cr_sortedA hr.room) (s_sorted m) hm (by decide +kernel) ha hg (by decide) (by decide) he hpl
theorem d_intC (hm : X.mg "int" = none) (ha : DA X [e] g) (hg : Gl X "int" := by rfl) (he : starEach [e] X.env = (false, eval e X.env) :: starEach [] X.env := by rfl) (hpl : (backTo pos (starEach [] X.env)).any (·.1) = false := by rfl) : DE X (.Call (.Name "int" p) [e] [] pos) (fA intC g) :=
  d_callT call_int1 s_intC hm bt_int ha hg (by decide) (by decide) he hpl
theorem d_tuple (hm : X.mg "tuple" = none) (ha : DA X [e] g) (hg : Gl X "tuple" := by rfl) (he : starEach [e] X.env = (false, eval e X.env) :: starEach [] X.env := by rfl) (hpl : (backTo pos (starEach [] X.env)).any (·.1) = false := by rfl) : DE X (.Call (.Name "tuple" p) [e] [] pos) (fA tupleW g) :=
  d_callT call_tupB s_tuple hm bt_tuple ha hg (by decide) (by decide) he hpl
theorem d_list (m : Bool) (hm : X.mg "list" = none) (ha : DA X [e] g) (hg : Gl X "list" := by rfl) (he : starEach [e] X.env = (false, eval e X.env) :: starEach [] X.env := by rfl) (hpl : (backTo pos (starEach [] X.env)).any (·.1) = false := by rfl) : DE X (.Call (.Name "list" p) [e] [] pos) (fA (listW m) g) :=
  d_callT call_list_of (s_list m) hm bt_list ha hg (by decide) (by decide) he hpl
end
def noList (K : PySem.W.Frag) : Bool := K.all fun p => match p.2.cls with
  | .type "list" => false
  | _ => true
theorem lookup_mem {K : PySem.W.Frag} {a : Addr} {o : Obj} (e : K.lookup a = some o) : (a, o) ∈ K := by
  induction K with
  | nil => cases e
  | cons p r ih =>
    obtain ⟨b, u⟩ := p
    rw [List.lookup_cons] at e
    split at e
    · rename_i q
      have : a = b := by simpa using q
      cases e
      subst this
      exact List.mem_cons_self
    · exact List.mem_cons_of_mem _ (ih e)
end DL
set_option maxRecDepth 100000
set_option maxHeartbeats 1000000
namespace DL
open PySem PySem.Spec PyProof.Rows L2
variable [HW]
theorem enum_meets {v : Value} {o : Obj} {H : Heap → Prop} (B : Begins v o H) : Meets (Builtin.«enumerate.__new__» ⟨[.type "enumerate", v], []⟩) (fun _ R s => H s.heap ∧
    R (.ok (.ret (.ref (s.heap.push o).objs.size))) { s with heap := (s.heap.push o).push { cls := .type "enumerate", data := .fields #[.none, .bool false, .ref s.heap.objs.size, rawInt 0, .none, .none] } }) := by
  apply Meets.of_wp
  intro prog w A R s h
  obtain ⟨hp, g, d, tk, os⟩ := s
  obtain ⟨h1, h⟩ := h
  have hsub := sub_enumerate
  have it : ∀ {A' : Around} {E : Value → Shared → Prop} {Q : Value → Shared → Prop}, Q (.ref hp.objs.size) ⟨hp.push o, g, d, tk, os⟩ → wpAny (model prog w) A' (pyIter v) Q E ⟨hp, g, d, tk, os⟩ := by
    intro A' E Q q
    exact B.iter prog w _ _ ⟨hp, g, d, tk, os⟩ _ h1 q
  wp_walk using it
  apply wpAny_stack_any
  intro st
  apply wpAny_pure
  split
  · rename_i c _ _ _ _ _
    cases (c == Value.type "enumerate") <;> (wp_walk using it; exact ⟨_, rfl, h⟩)
  · wp_walk using it
    exact ⟨_, rfl, h⟩
section
variable {prog : Program} {w : World} {A : Around} {E : Value → Shared → Prop} {s : Shared}
theorem call_enumT {v : Value} {o : Obj} {H : Heap → Prop} {Q : Value → Shared → Prop} (B : Begins v o H) (h1 : H s.heap)
    (h : ∀ h', IsEnum h' (s.heap.objs.size + 1) s.heap.objs.size 0 .none → h'.get? s.heap.objs.size = some o → (∀ b o, s.heap.get? b = some o → h'.get? b = some o) → Q (.ref (s.heap.objs.size + 1)) { s with heap := h' }) :
    wpAny (model prog w) A (call (.type "enumerate") [v]) Q E s := by
  apply callType_new F.called_enumerate (by decide) (F.typeCall_enumerate_1 _) (F.newCall_enumerate_1 _) (fun obj => F.args_object_init_2 obj _) F.entry_enumerate_new (enum_meets B)
  refine ⟨h1, ?_⟩
  have hz : (s.heap.push o).objs.size = s.heap.objs.size + 1 := Heap.size_push ..
  show _ ∧ _
  rw [hz]
  have he : IsEnum ((s.heap.push o).push { cls := .type "enumerate", data := .fields #[.none, .bool false, .ref s.heap.objs.size, rawInt 0, .none, .none] }) (s.heap.objs.size + 1) s.heap.objs.size 0 .none := by
    have z := Heap.get?_push_size (s.heap.push o) (o := { cls := .type "enumerate", data := .fields #[.none, .bool false, .ref s.heap.objs.size, rawInt 0, .none, .none] }) rfl
    rw [hz] at z
    exact z
  exact ⟨⟨_, he, rfl⟩, h _ he (Heap.get?_push_of_some _ (Heap.get?_push_size _ B.free)) fun b o x => Heap.get?_push_of_some _ (Heap.get?_push_of_some _ x)⟩
end
def IteT (K : PySem.W.Frag) (a : Addr) : It :=
  ⟨fun i H => ∃ (xs : List V) (x : V), SqT K H a xs ∧ xs[i]? = some x, fun i H v H' => ∃ T x, v = .ref T ∧ H T = none ∧ H' = upd H T (.tup [.int (i : Nat), x]) ∧ ∀ xs, SqT K H a xs → xs[i]? = some x, fun i H => ∃ xs : List V, SqT K H a xs ∧ xs.length ≤ i⟩
theorem turn_enumT {P : Program} {w : World} {K : PySem.W.Frag} {elts : List Expr} {kk : Nat} {tpos : Pos} (a e it : Addr) :
    Turn P w K (.Tuple elts kk tpos) (IteT K a) [e, it] e (fun i h => (∃ old, IsEnum h e it ((i : Nat) : Int) old) ∧ h.IsTupleIter it a i ∧ e ≠ it ∧ a ≠ it ∧ e ≠ a) where
  mem := by simp
  obj := fun i h st b hb => by
    obtain ⟨⟨old, he⟩, ⟨o, ho, hc, hd⟩, _⟩ := st
    have e' : b = e ∨ b = it := by simpa using hb
    rcases e' with z | z
    · rw [z]; exact ⟨_, he, fun v q => nomatch q⟩
    · rw [z]; exact ⟨o, ho, fun v q => by rw [hd] at q; cases q⟩
  keep := fun i h h' st k => let ⟨⟨old, he⟩, hi, hne⟩ := st; ⟨⟨old, k e (by simp) _ he⟩, hi.at fun o q => k it (by simp) o q, hne⟩
  item := by
    intro X hP hw hK hc i pins s σ H E I hf st hg
    subst hP hw hK
    obtain ⟨⟨old, he⟩, hit, hne, hna, hea⟩ := st
    obtain ⟨xs, x, hq, hx⟩ := hg
    obtain ⟨its, rv, p, hz⟩ := I.tuple hq
    obtain ⟨u, hu, ru⟩ := rv.get hx
    have hel : e < s.heap.objs.size := Heap.lt_size he
    have hil : it < s.heap.objs.size := by obtain ⟨_, q, _⟩ := hit; exact Heap.lt_size q
    have hi : i < its.toArray.size := by
      have := (List.getElem?_eq_some_iff.mp hu).1
      simpa using this
    have DD := Draws.tuple (prog := X.prog) (w := X.w) (A := X.A.in1) (I.ok.hd hc) it a hna its.toArray
    apply wpAny_pyNext_enum_itemD DD he ⟨hit, p⟩ hi hne (by simp [hne, hea])
    intro x' h' tk hP ho hs hT hsz hk
    obtain ⟨hit', p'⟩ := hs
    have ex : x' = u := by
      have h2 : its[i]? = some x' := by simpa using hP
      rw [hu] at h2
      exact (Option.some.inj h2).symm
    subst ex
    refine ⟨_, rfl, wpAny_letOwnedTupleGo_enum (s := { s with heap := h', toks := tk + 1 }) ho fun h'' he' sb => ?_⟩
    have hT2 : h''.get? s.heap.objs.size = some { cls := .type "tuple", data := .seq #[.int i tk, x'] } := (sb.2 _ (Nat.ne_of_gt hel)).trans hT
    have new : ObjOk X.prog X.w (upd H s.heap.objs.size (.tup [.int (i : Nat), x])) h'' s.heap.objs.size (.tup [.int (i : Nat), x]) :=
      ⟨by show 2 ≤ sizeLine; decide, [.int i tk, x'], .cons ⟨_, rfl⟩ (.cons ru .nil), ⟨_, hT2, rfl, _, rfl⟩⟩
    have I1 : Inv X pins σ (upd H s.heap.objs.size (.tup [.int (i : Nat), x])) { s with heap := h'', toks := tk + 1 } := by
      apply I.turnedNew (ch := [e, it]) _ hf (Nat.le_refl _) new
      intro b ob hb q
      have h1 : b ≠ e := fun z => hb (by simp [z])
      have h2 : b ≠ it := fun z => hb (by simp [z])
      rw [sb.2 b h1]
      exact hk b ob h1 h2 q
    refine ⟨.ref s.heap.objs.size, _, I1, rfl, ⟨_, x, rfl, I.hok.fresh (Nat.le_refl _), rfl, fun ys hy => by rw [I.tuple_inj hy hq]; exact hx⟩, ⟨⟨x', ?_⟩, hit'.at fun o q => (sb.2 it (Ne.symm hne)).trans q, hne, hna, hea⟩, fun b hb => ?_⟩
    · have e1 : ((i + 1 : Nat) : Int) = (i : Int) + 1 := by omega
      rw [e1]; exact he'
    · have hb' : b < s.heap.objs.size := by
        have e' : b = e ∨ b = it := by simpa using hb
        rcases e' with z | z
        · rw [z]; exact hel
        · rw [z]; exact hil
      rw [upd_ne (Nat.ne_of_lt hb')]
      exact (hf b hb).1
  done := by
    intro X hP hw hK hc i pins s σ H E I hf st hg
    subst hP hw hK
    obtain ⟨⟨old, he⟩, hit, hne, hna, hea⟩ := st
    obtain ⟨xs, hq, hx⟩ := hg
    obtain ⟨its, rv, p, hz⟩ := I.tuple hq
    obtain ⟨f0, f1, f2, f3, f4, f5⟩ := hf it (by simp)
    have hl := rv.length
    unfold pyNext
    have hT : s.TypeIs (.ref e) "enumerate" := ⟨_, he, rfl⟩
    apply wpAny_bind
    apply wpAny_attempt
    apply wpAny_callSpecial?_slot (name := Str.ofString "__next__") hT F.slot_enumerate_next
    apply wpAny_call_entry F.slot_enumerate_next hT F.entry_enumerate_next _ (F.args_enumerate_next_1 _)
    show wpAny _ _ (field (.ref e) 2 >>= _) _ _ _
    apply wpAny_bind
    apply wpAny_field he rfl (x := .ref it) rfl
    apply wpAny_bind
    apply wpAny_nextOf_tuple_end (A := X.A.in1) (show X.A.in1.handled = none from I.ok.hd hc) hit p (by simp; omega)
    intro h' x he' hx'
    obtain ⟨o, ho, hc'⟩ := hx'
    refine wpAny_bind (wpAny_isInstance (T := "StopIteration") (b := true) ⟨o, ho, hc'⟩ isSubtype_stop ?_)
    apply wpAny_pure
    exact ⟨rfl, I.turned (t' := s.toks) (fun b o hb q => he' b o hb q) f0 f1 f3 f4 f5⟩
  self := fun A i s Q E st h => let ⟨⟨_, he⟩, _⟩ := st; wpAny_pyIter_enum he h
def iEnumT (K : PySem.W.Frag) (ta : TA) : TI := fun σ H R => ta σ H fun vs H1 => (∃ a xs, vs = [.ref a] ∧ SqL K H1 a xs ∧ R (Ite K a) H1) ∨ ∃ a xs, vs = [.ref a] ∧ SqT K H1 a xs ∧ H1 a ≠ none ∧ R (IteT K a) H1
theorem pi_enumT {X : Cx} {e : Expr} {ta : TA} {p pos tpos : Pos} {elts : List Expr} {kk : Nat} (hg : Gl X "enumerate") (hm : X.mg "enumerate" = none) (ha : PA X [e] ta) (hs : starEach [e] X.env = [(false, eval e X.env)] := by rfl) :
    PI X (.Tuple elts kk tpos) (.Call (.Name "enumerate" p) [e] [] pos) (iEnumT X.K ta) := by
  constructor
  intro pins s σ H R I h
  refine Call_ ?_
  apply ld_blt I hg hm boot_enumerate
  apply PyProof.Rows.callWith_type1 _ hs rfl
  refine thn (ha.run pos pins s σ H _ I h) fun us s1 ⟨vs, H1, I1, r1, q1⟩ => ?_
  rcases q1 with ⟨a, xs, ex, hq, q⟩ | ⟨a, xs, ex, hq, hn, q⟩
  · subst ex
    obtain rfl := Vals.ref1 r1
    obtain ⟨its, rv, p', hz⟩ := I1.list hq
    apply call_enumerate_list p'.isList
    intro h' he hit hsz hk
    apply wpAny_pyIter_enum he
    have I2 : Inv X pins σ H1 { s1 with heap := h' } := I1.kept (t' := s1.toks) hk
    refine ⟨s1.heap.objs.size + 1, [s1.heap.objs.size + 1, s1.heap.objs.size], _, _, H1, rfl, I2, turn_enum a (s1.heap.objs.size + 1) s1.heap.objs.size, ⟨⟨.none, he⟩, hit, Nat.succ_ne_self _⟩, fun b hb => ?_, q⟩
    have hle : s1.heap.objs.size ≤ b := by
      have e' : b = s1.heap.objs.size + 1 ∨ b = s1.heap.objs.size := by simpa using hb
      rcases e' with z | z
      · rw [z]; exact Nat.le_succ _
      · rw [z]; exact Nat.le_refl _
    exact I1.fpOk hle (I1.hok.fresh hle)
  · subst ex
    obtain rfl := Vals.ref1 r1
    obtain ⟨its, rv, p', hz⟩ := I1.tuple hq
    have hlt : a < s1.heap.objs.size := p'.lt
    apply call_enumT (begins_tuple a its.toArray) p'
    intro h' he hit hk
    apply wpAny_pyIter_enum he
    have I2 : Inv X pins σ H1 { s1 with heap := h' } := I1.kept (t' := s1.toks) hk
    refine ⟨s1.heap.objs.size + 1, [s1.heap.objs.size + 1, s1.heap.objs.size], _, _, H1, rfl, I2, turn_enumT a (s1.heap.objs.size + 1) s1.heap.objs.size, ⟨⟨.none, he⟩, ⟨_, hit, rfl, rfl⟩, Nat.succ_ne_self _, Nat.ne_of_lt hlt, Nat.ne_of_gt (Nat.lt_succ_of_lt hlt)⟩, fun b hb => ?_, q⟩
    have hle : s1.heap.objs.size ≤ b := by
      have e' : b = s1.heap.objs.size + 1 ∨ b = s1.heap.objs.size := by simpa using hb
      rcases e' with z | z
      · rw [z]; exact Nat.le_succ _
      · rw [z]; exact Nat.le_refl _
    exact I1.fpOk hle (I1.hok.fresh hle)
end DL
set_option maxRecDepth 100000
set_option maxHeartbeats 400000
namespace DL
open PySem PySem.Spec PyProof.Rows L2
variable [HW]
theorem itd_enumT {K : PySem.W.Frag} {M : Mm} {H : Hp} {a : Addr} {xs : List V} {ds : List D} (n : ¬ M.Has a) (ha : TupAt H a xs ds) (q : RDs M H xs ds) : ItD M H (IteT K a) (enumD 0 ds) := fun M1 H1 x tr => by
  have h1 := (ha.to fun _ z => x.st n z).sq (K := K)
  have q1 := q.mono x
  refine ⟨fun i d e => ?_, xs, h1, by rw [enumD_len, q.length]; exact Nat.le_refl _⟩
  obtain ⟨d', e1, rfl⟩ := enumD_get e
  obtain ⟨v, e2, r⟩ := q1.get e1
  refine ⟨⟨xs, v, h1, e2⟩, fun y H2 hy => ?_⟩
  obtain ⟨T, u, rfl, nT, rfl, hu⟩ := hy
  have eu : u = v := by
    have := hu xs h1
    rw [e2] at this
    exact (Option.some.inj this).symm
  subst eu
  refine ⟨same_new nT, RD.tup (new_out tr nT) (.inl ⟨rfl, upd_same⟩) ?_⟩
  rw [Nat.zero_add]
  exact .cons (.int _) (.cons (r.mono (grow_ext (same_new nT))) .nil)
def enumA (g : AM) : IM := fun ρ h => obnd (g ρ h) fun ws h1 => match ws with
  | [.dat (.list ds)] => some (enumD 0 ds, h1)
  | [.dat (.tuple ds)] => some (enumD 0 ds, h1)
  | _ => none
section
variable {X : Cx}
theorem di_enumA (hm : X.mg "enumerate" = none) {e : Expr} {elts : List Expr} {kk : Nat} {p pos tpos : Pos} {g : AM} (ha : DA X [e] g) (hg : Gl X "enumerate" := by rfl) (hs : starEach [e] X.env = [(false, eval e X.env)] := by rfl) : DI X (.Tuple elts kk tpos) (.Call (.Name "enumerate" p) [e] [] pos) (enumA g) := (pi_enumT hg hm ha hs).weak fun σ H R => by
  rintro ⟨M, h, ρ, ds, h', r, rs, e0, k⟩
  unfold enumA at e0
  cases eg : g ρ h with
  | none => rw [eg] at e0; cases e0
  | some pr =>
    obtain ⟨ws, h1⟩ := pr
    rw [eg] at e0
    simp only [obnd_some] at e0
    refine ⟨M, h, ρ, r, rs, ws, h1, eg, fun M1 H1 vs x1 r1 v1 => ?_⟩
    split at e0
    · cases e0
      obtain ⟨v, rfl, rv⟩ := rvs1 v1
      cases (show RD M1 H1 _ _ from rv) with
      | lst n e q => exact .inl ⟨_, _, rfl, .of e, k M1 H1 _ x1 r1 (itd_enum n e q)⟩
    · cases e0
      obtain ⟨v, rfl, rv⟩ := rvs1 v1
      cases (show RD M1 H1 _ _ from rv) with
      | tup n e q => exact .inr ⟨_, _, rfl, e.sq, (by obtain ⟨_, z⟩ := e.some_; rw [z]; exact nofun), k M1 H1 _ x1 r1 (itd_enumT n e q)⟩
    · cases e0
end
end DL
set_option maxRecDepth 100000
set_option maxHeartbeats 400000
namespace DL
open PySem PySem.Spec PyProof.Rows L2
variable [HW]
def moD : MO → D
  | .lst ds => .list ds
  | .dic es => .dict es
  | .dit es => .dict ((.none, .none) :: es)
  | .tab _ _ => .none
  | .ins _ _ => .none
  | .obj _ _ => .none
  | .los _ => .none
  | .dpk _ => .none
def isTab : MO → Bool
  | .tab _ _ => true
  | .ins _ _ => true
  | .obj _ _ => true
  | .los _ => true
  | .dpk _ => true
  | .dit _ => true
  | _ => false
def isR (n : Nat) : Option W → Bool
  | some (.ref m) => decide (m = n)
  | some (.pack _) => true
  | some (.tpk its) => its.any fun z => match z with | .inl m => decide (m = n) | .inr _ => false
  | _ => false
theorem isR_tpk {n : Nat} {its : List (Sum Nat D)} (h : ¬ isR n (some (.tpk its)) = true) : ∀ m, Sum.inl m ∈ its → m ≠ n := fun m hm e => h (List.any_eq_true.mpr ⟨_, hm, by simp [e]⟩)
def frz (i : Nat) (ρ : Env) (h : Hh) : Option (Env × Hh) := match ρ[i]? with
  | some (some (.ref n)) => match h[n]? with
    | some (some o) => if ((ρ.set i none).any (isR n) || isTab o) = true then none else some (ρ.set i (some (.dat (moD o))), h.set n none)
    | _ => none
  | _ => none
def sFrz (i : Nat) (f : SM) : SM := fun ρ h => match frz i ρ h with
  | some (ρ', h') => f ρ' h'
  | none => none
section
variable {M : Mm} {H : Hp} {h : Hh}
theorem less_set {n : Nat} : ∀ b, Mm.Has ⟨M.u, M.m.set n none⟩ b → M.Has b := fun b z => by
  rcases z with z | z
  · exact .inl z
  · right
    rcases List.mem_or_eq_of_mem_set z with q | q
    · exact q
    · cases q
theorem not_set {n : Nat} {a : Addr} (rep : Rep M H h) (e : M.m[n]? = some (some a)) : ¬ Mm.Has ⟨M.u, M.m.set n none⟩ a := fun z => by
  rcases z with z | z
  · exact (rep.us a z).1 (List.mem_of_getElem? e)
  · obtain ⟨i, hi, q⟩ := List.getElem_of_mem z
    have q' : (M.m.set n none)[i]? = some (some a) := by rw [List.getElem?_eq_getElem hi, q]
    by_cases hn : n = i
    · subst hn
      have hi' : n < M.m.length := lt_of_get e
      rw [List.getElem?_set_self hi'] at q'
      cases q'
    · rw [List.getElem?_set_ne hn] at q'
      exact hn (rep.inj i n a q' e).symm
theorem ext_frz {n : Nat} : Ext M ⟨M.u, M.m.set n none⟩ H H where
  us := fun _ m => .inl m
  trk := fun a o e => ⟨o, e⟩
  stab := fun _ _ e _ => e
  fresh := fun a m => by
    rcases List.mem_or_eq_of_mem_set m with q | q
    · exact .inl q
    · cases q
  len := by simp
  kill := fun i hi => by
    by_cases hn : n = i
    · subst hn
      right
      show (M.m.set n none)[n]? = _
      rw [List.getElem?_set_self hi]
    · left
      show (M.m.set n none)[i]? = _
      rw [List.getElem?_set_ne hn]
theorem Rep.frz {n : Nat} {a : Addr} (rep : Rep M H h) (e : M.m[n]? = some (some a)) : Rep ⟨M.u, M.m.set n none⟩ H (h.set n none) := by
  have hn : n < h.length := by rw [← rep.len]; exact lt_of_get e
  refine ⟨fun b z => ?_, by simpa using rep.len, fun i j b q1 q2 => ?_, fun i b q => ?_, fun i q => ?_⟩
  · obtain ⟨h1, h2⟩ := rep.us b z
    refine ⟨fun y => h1 ?_, h2⟩
    rcases List.mem_or_eq_of_mem_set y with q | q
    · exact q
    · cases q
  · have g : ∀ (k : Nat), (M.m.set n none)[k]? = some (some b) → M.m[k]? = some (some b) := fun k q => by
      by_cases hk : n = k
      · subst hk
        rw [List.getElem?_set_self (lt_of_get e)] at q
        cases q
      · rwa [List.getElem?_set_ne hk] at q
    exact rep.inj i j b (g i q1) (g j q2)
  · have hk : n ≠ i := fun z => by
      subst z
      have q' : (M.m.set n none)[n]? = some (some b) := q
      rw [List.getElem?_set_self (lt_of_get e)] at q'
      cases q'
    have q' : M.m[i]? = some (some b) := by
      have z : (M.m.set n none)[i]? = some (some b) := q
      rwa [List.getElem?_set_ne hk] at z
    obtain ⟨o, ho, ro⟩ := rep.at_ i b q'
    exact ⟨o, by rw [List.getElem?_set_ne hk]; exact ho, ro.sub less_set fun k _ z q => by
      by_cases y : n = k
      · subst y; exact .inr (List.getElem?_set_self (List.getElem?_eq_some_iff.mp q).1)
      · exact .inl (by rw [List.getElem?_set_ne y]; exact q)⟩
  · have q' : (M.m.set n none)[i]? = some none := q
    by_cases hk : n = i
    · subst hk
      rw [List.getElem?_set_self hn]
    · rw [List.getElem?_set_ne hk] at q' ⊢
      exact rep.dead i q'
theorem RS.frz {n i : Nat} {a : Addr} {o : MO} {ρ : Env} {σ : L2.St} (rep : Rep M H h) (rs : RS M H ρ σ) (e : M.m[n]? = some (some a)) (er : ρ[i]? = some (some (.ref n))) (ro : RO M H a o) (hn : ¬ ((ρ.set i none).any (isR n)) = true) (ht : isTab o = false) :
    RS ⟨M.u, M.m.set n none⟩ H (ρ.set i (some (.dat (moD o)))) σ := by
  refine ⟨by simp [rs.1], fun j w q => ?_⟩
  by_cases hj : i = j
  · subst hj
    rw [List.getElem?_set_self (lt_of_get er)] at q
    cases q
    obtain ⟨v, ev, a', ea, rfl⟩ := rs.2 i _ er
    rw [e] at ea
    cases ea
    refine ⟨_, ev, ?_⟩
    cases o with
    | lst ds => obtain ⟨xs, hx, qx⟩ := ro; exact RD.lst (not_set rep e) hx (qx.sub less_set)
    | dic ds => obtain ⟨xs, hx, qx⟩ := ro; exact RD.dic (not_set rep e) hx (qx.sub less_set)
    | dit ds => exact absurd ht (by simp [isTab])
    | tab q P => exact absurd ht (by simp [isTab])
    | ins C fs => exact absurd ht (by simp [isTab])
    | obj C fs => exact absurd ht (by simp [isTab])
    | los os => exact absurd ht (by simp [isTab])
    | dpk es => exact absurd ht (by simp [isTab])
  · rw [List.getElem?_set_ne hj] at q
    obtain ⟨v, ev, rv⟩ := rs.2 j w q
    refine ⟨v, ev, ?_⟩
    cases w with
    | dat d => exact RD.sub less_set rv
    | ins C fs =>
      obtain ⟨b, u, gs, e1, n1, q1, r1⟩ := rv
      exact ⟨b, u, gs, e1, fun z => n1 (less_set b z), q1, r1.to fun _ _ => RD.sub less_set⟩
    | objs os => exact RWs.to (show RWs _ _ _ _ from rv) (fun b _ _ n z => n (less_set b z)) (fun _ _ q _ _ => q) fun _ _ => RD.sub less_set
    | exc k C fs =>
      obtain ⟨b, d, gs, e1, r1⟩ := rv
      exact ⟨b, d, gs, e1, r1.to (fun c _ _ n z => n (less_set c z)) (fun _ _ q _ _ => q) fun _ _ => RD.sub less_set⟩
    | tpk its =>
      obtain ⟨b, xs, e1, n1, q1, r1⟩ := rv
      exact ⟨b, xs, e1, fun z => n1 (less_set b z), q1, r1.moveI (fun _ _ => RD.sub less_set) fun m hm' a' ea' => by
        have hne := isR_tpk (fun y => hn (List.any_eq_true.mpr ⟨some (.tpk its), List.mem_of_getElem? (i := j) (by rw [List.getElem?_set_ne hj]; exact q), y⟩)) m hm'
        show (M.m.set n none)[m]? = _
        rw [List.getElem?_set_ne (Ne.symm hne)]; exact ea'⟩
    | pack its =>
      exact absurd (List.any_eq_true.mpr ⟨some (.pack its), List.mem_of_getElem? (i := j) (by rw [List.getElem?_set_ne hj]; exact q), rfl⟩) hn
    | lock es =>
      obtain ⟨b, u, kvs, e1, n1, q1, r1⟩ := rv
      exact ⟨b, u, kvs, e1, fun z => n1 (less_set b z), q1, r1.sub less_set⟩
    | scr ns =>
      obtain ⟨b, u, e1, n1, q1⟩ := rv
      exact ⟨b, u, e1, fun z => n1 (less_set b z), q1⟩
    | ref k =>
      obtain ⟨b, eb, rfl⟩ := rv
      have hk : n ≠ k := fun z => by
        subst z
        apply hn
        rw [List.any_eq_true]
        refine ⟨some (.ref n), ?_, by simp [isR]⟩
        exact List.mem_of_getElem? (i := j) (by rw [List.getElem?_set_ne hj]; exact q)
      exact ⟨b, by show (M.m.set n none)[k]? = _; rw [List.getElem?_set_ne hk]; exact eb, rfl⟩
end
theorem ds_frz {X : Cx} {sts : List Stmt} {f : SM} (i : Nat) (hd : DSs X sts f) : DSs X sts (sFrz i f) := PSs.weak hd fun D σ H => by
  rintro ⟨M, h, ρ, rep, rs, p⟩
  unfold sFrz at p
  split at p
  · rename_i ρ' h' ef
    unfold frz at ef
    split at ef
    · rename_i n er
      split at ef
      · rename_i o eo
        split at ef
        · cases ef
        · rename_i hn
          cases ef
          obtain ⟨v, ev, a, ea, rfl⟩ := rs.2 i _ er
          obtain ⟨o', ho', ro⟩ := rep.at_ n a ea
          rw [eo] at ho'
          cases ho'
          simp only [Bool.or_eq_true, not_or, Bool.not_eq_true] at hn
          exact ⟨_, _, _, rep.frz ea, rs.frz rep ea er ro (by simpa using hn.1) hn.2, p.mono rfl ext_frz⟩
      · cases ef
    · cases ef
  · exact p.elim
end DL
set_option maxRecDepth 100000
set_option maxHeartbeats 1000000
namespace DL
open PySem PySem.Spec PyProof.Rows L2
variable [HW]
section
variable {X : Cx}
theorem pairs_two {pins : List (Addr × Obj)} {σ : L2.St} {H : Hp} {s : Shared} (I : Inv X pins σ H s) : ∀ {ps : List Addr} {kvs : List (Key × V)}, Paired (fun p kv => SqT X.K H p [kV kv.1, kv.2]) ps kvs →
    ∃ (pv : List (Value × Value)) (prs : List (Key × Value)), KV kvs prs ∧ prs.length = ps.length ∧ pv.length = ps.length ∧
      ∀ (j : Nat) (k v : Value), pv[j]? = some (k, v) → ∃ b kk, ps[j]? = some b ∧ IsTup s.heap b #[k, v] ∧ prs[j]? = some (kk, v) ∧ (mixKind X.prog X.w).is kk k = true
  | _, _, .nil => ⟨[], [], .nil, rfl, rfl, fun j k v e => by cases j <;> cases e⟩
  | _, _, .cons (a := p) (b := kv) h t => by
    obtain ⟨pv, prs, r, h1, h2, h3⟩ := pairs_two I t
    obtain ⟨its, rv, ht, _⟩ := I.tuple h
    obtain ⟨u, y, rfl, ru, ry⟩ := vals2 rv
    refine ⟨(u, y) :: pv, (kv.1, y) :: prs, .cons ⟨rfl, ry⟩ r, congrArg (· + 1) h1, congrArg (· + 1) h2, fun j k v e => ?_⟩
    cases j with
    | zero => cases e; exact ⟨p, kv.1, rfl, ht, rfl, kV_is ru⟩
    | succ j => exact h3 j k v e
def rDictT : List V → Hp → VK → Prop := fun xs H Q => ∃ (a : Addr) (o : Obj) (ps : List Addr) (kvs : List (Key × V)), xs = [.ref a] ∧ o.dict = none ∧ H a = some (.frz o (.tup (ps.map V.ref))) ∧ Paired (fun p kv => Rd H p (.tup [kV kv.1, kv.2])) ps kvs ∧
    ∀ p, H p = none → Q (.ref p) (upd H p (.dK (mergeK [] kvs)))
theorem call_dictT (hcalm : X.calm = true) : CallR X (.type "dict") rDictT := by
  intro pins s σ H xs us Q I r q
  obtain ⟨a, o, ps, kvs, rfl, ho, ha, hp, q⟩ := q
  obtain ⟨u, rfl, rx⟩ := vals1 r
  cases rx
  obtain ⟨g1, hz, its, rv, o', g2, hc, n, hd⟩ := (show ObjOk X.prog X.w H s.heap a (.frz o (.tup (ps.map V.ref))) from I.hok a _ ha)
  rw [g1] at g2
  cases g2
  obtain rfl := refs_at rv
  rw [List.length_map] at hz
  obtain ⟨pv, prs, rel, h1, h2, h3⟩ := pairs_two I (Paired.mapP hp fun _ _ z => .inl z)
  have hlen : (ps.map Value.ref).toArray.size = pv.length := by simp [h2]
  have P := PairArg.tuple (prog := X.prog) (w := X.w) a (ps.map Value.ref).toArray (fun j => ps[j]?.getD 0) pv
  apply PySem.call_dict_pairs (knd := mixKind X.prog X.w) (kvs := prs) P (I.ok.hd hcalm) ⟨⟨o, n, g1, hc, ho, hd⟩, hlen, fun j k v e => ?_⟩ ⟨by rw [h1, h2], fun i k v e => ?_⟩ (by rw [h2]; exact hz)
  · intro h' tk hd' k
    have hm : (s.heap.objs.size == sysModules) = false := beq_eq_false_iff_ne.mpr (Nat.ne_of_gt I.big)
    have hk : (mergeK [] kvs).length ≤ sizeLine := by
      apply Nat.le_trans (length_mergeK kvs [])
      rw [List.length_nil, Nat.zero_add, rel.length, h1]
      exact hz
    exact ⟨.ref s.heap.objs.size, _, I.laid (t' := tk) (o := .dK (mergeK [] kvs)) (fun b o e => k b o (fun z => nomatch z) e) (Nat.le_refl _) ⟨hk, hm, merged [] prs, KV.merge rel .nil, hd'⟩, rfl, q _ (I.hok.fresh (Nat.le_refl _))⟩
  · obtain ⟨b, kk, e1, e2, _⟩ := h3 j k v e
    exact ⟨by simp [e1], .inl (by show IsTup s.heap (ps[j]?.getD 0) _; rw [e1]; exact e2)⟩
  · obtain ⟨b, kk, _, _, e3, e4⟩ := h3 i k v e
    exact ⟨kk, e3, e4⟩
def dictA (m : Bool) (ws : List W) (h : Hh) : Option (W × Hh) := match ws with
  | [w] => match deref h w with
    | some (.tuple ds) => if callD ds = true then (match pairsK ds with
      | some qs => mkK m (mergeD [] qs) h
      | none => none) else none
    | _ => dictW m [w] h
  | _ => none
theorem s_dictA (m : Bool) : SemA (fun xs H Q => ((∃ (a : Addr) (ps : List Addr) (kvs : List (Key × V)), xs = [.ref a] ∧ SqL X.K H a (ps.map V.ref) ∧ Paired (fun p kv => SqT X.K H p [kV kv.1, kv.2]) ps kvs ∧
    ∀ p, H p = none → Q (.ref p) (upd H p (.dK (mergeK [] kvs)))) ∨ ∃ (a : Addr) (kvs : List (Key × V)), xs = [.ref a] ∧ Rd H a (.dK kvs) ∧ ∀ p, H p = none → Q (.ref p) (upd H p (.dK kvs))) ∨ rDictT xs H Q) (dictA m) := by
  intro M H h vs ws Q rep rv c
  unfold dictA at c
  split at c
  · obtain ⟨v, rfl, r⟩ := rvs1 rv
    split at c
    · rename_i ds e
      obtain ⟨a, xs, rfl, na, ha, q⟩ := rr_tup (deref_rr rep r e)
      split at c
      · rename_i hc
        split at c
        · rename_i qs e2
          obtain ⟨ps, kvs, rfl, h1, h2⟩ := pairs_ok q e2
          rcases ha with ⟨hn, _⟩ | ⟨_, o, ho, ha⟩
          · rw [hc] at hn; cases hn
          · exact .inr ⟨a, o, ps, kvs, rfl, ho, ha, h1, fun p np => mkK_fin rep np (RDk.merge h2 .nil) c⟩
        · exact c.no.elim
      · exact c.no.elim
    · exact .inl (s_dict m M H h _ _ Q rep rv c)
  · exact c.no.elim
theorem d_dictA (hc : X.calm = true) (m : Bool) (hm : X.mg "dict" = none) {p pos : Pos} {e : Expr} {g : AM} (ha : DA X [e] g) (hg : Gl X "dict" := by rfl) (he : starEach [e] X.env = (false, eval e X.env) :: starEach [] X.env := by rfl) (hpl : (backTo pos (starEach [] X.env)).any (·.1) = false := by rfl) : DE X (.Call (.Name "dict" p) [e] [] pos) (fA (dictA m) g) :=
  d_callT (((call_dictP hc).or call_dictD).or (call_dictT hc)) (s_dictA m) hm bt_dict ha hg (by decide) (by decide) he hpl
end
end DL
set_option maxRecDepth 100000
set_option maxHeartbeats 1000000
namespace DL
open PySem PySem.Spec PyProof.Rows L2
variable [HW]
end DL
set_option maxRecDepth 100000
set_option maxHeartbeats 1000000
namespace DL
open PySem PySem.Spec PyProof.Rows L2
variable [HW]
end DL
set_option maxRecDepth 100000
set_option maxHeartbeats 1000000
namespace DL
open PySem PySem.Spec PyProof.Rows L2
variable [HW]
theorem law_gT {P : Program} {w : World} {K : PySem.W.Frag} {mg mb : Str → Option Value} {k : Nat} {fa a : Addr} {fd : FuncData} {x : Str} {sp : Sp} {s₁ : Shared} {vs : List Value} {ns : List Int} {cs : List (Addr × Addr)}
    (kx : K.In s₁.heap) (hns : s₁.heap.Ns mainGlobals mg) (hb : s₁.heap.Ns builtinsNs mb) (hbb : ∀ x : Str, x ≠ "__name__" → mb x = bootBuiltins x) (hlim : s₁.heap.NoLimit) (hg : s₁.gens = #[])
    (hT : ∀ p ∈ cs, PySem.W.CodeHd s₁.heap p.1 p.2 ∧ s₁.heap.get? p.2 = some { cls := .none, data := .fields #[] }) (nT : ∀ p ∈ cs, K.lookup p.2 = none)
    (hbm : ∃ (bm : Addr) (ob : Obj), mg "__builtins__" = some (.ref bm) ∧ bm ≠ builtinsNs ∧ s₁.heap.get? bm = some ob ∧ ob.cls = .type "module" ∧ ob.dict = some builtinsNs ∧ ob.data = .plain)
    (ha : s₁.heap.get? a = some { cls := .type "list", data := .seq vs.toArray }) (hi : IntsAre vs ns) (hl : ns.length ≤ sizeLine) (hr : Room k callerA)
    (F : ∀ base : Heap, K.In base → base.Ns mainGlobals mg → (∀ p ∈ cs, LamX.TabB base mg p.1 p.2) → FnG P w K mg base CX0 k fa fd [x] sp) (hbind : ∀ (s : Shared) (u : Value), BindsTo s fd ⟨[u], []⟩ [(x, u)])
    (hka : K.lookup a = none)
    (hsp : ∀ H : Hp, (∃ o, H a = some (.frz o (.lst (ns.map V.int)))) → (∀ p ∈ cs, H p.2 = some (.tbl #[])) → a ∉ cs.map (·.2) → sp [.ref a] H (fun v _ => v = .bl true) fun _ _ _ => False) :
    codeAny (model P w) callerA (.call (.ref fa) ⟨[.ref a], []⟩) (fun r s' => r = .ok (.ret (.bool true)) ∧ OldK s₁.heap s'.heap ∧ s'.os = s₁.os ∧ AllBare s'.gens) s₁ := by
  have rv := vals_ints hi
  let ob : Obj := { cls := .type "list", data := .seq vs.toArray }
  let H : Hp := fun b => if b = a then some (.frz ob (.lst (ns.map V.int))) else if b ∈ cs.map (·.2) then some (.tbl #[]) else none
  have tabs : ∀ b, b ∈ cs.map (·.2) → s₁.heap.get? b = some { cls := .none, data := .fields #[] } := fun b z => by
    obtain ⟨p, hp, rfl⟩ := List.mem_map.mp z
    exact (hT p hp).2
  have na : a ∉ cs.map (·.2) := fun z => by
    have y := tabs a z
    rw [ha] at y
    injection y with y
    injection y with _ _ y
    cases y
  have Ha : H a = some (.frz ob (.lst (ns.map V.int))) := if_pos rfl
  have Hc : ∀ b, b ∈ cs.map (·.2) → H b = some (.tbl #[]) := fun b z => by
    have h1 : b ≠ a := fun y => na (y ▸ z)
    show (if b = a then _ else if b ∈ cs.map (·.2) then _ else _) = _
    rw [if_neg h1, if_pos z]
  have Hn : ∀ b, b ≠ a → b ∉ cs.map (·.2) → H b = none := fun b h1 h2 => by
    show (if b = a then _ else if b ∈ cs.map (·.2) then _ else _) = _
    rw [if_neg h1, if_neg h2]
  have hok : HOk P w H s₁.heap := by
    intro b u e
    by_cases h : b = a
    · subst h
      rw [Ha] at e
      cases e
      exact ⟨ha, by rw [List.length_map]; exact hl, vs, _, rv, ha⟩
    · by_cases h2 : b ∈ cs.map (·.2)
      · rw [Hc b h2] at e
        cases e
        exact tabs b h2
      · rw [Hn b h h2] at e; cases e
  have hid : ∀ {b : Addr} {o : Obj}, s₁.heap.get? b = some o → H b = none → (hidT s₁.heap H).get? b = some o := fun e n => hidT_get e n
  have free : ∀ {b : Addr} {o : Obj}, s₁.heap.get? b = some o → (∀ vs n, o.data ≠ .seq vs n) → o.data ≠ .fields #[] → H b = none := by
    intro b o e h1 h2
    apply Hn
    · intro z
      subst z
      rw [ha] at e
      cases e
      exact h1 _ _ rfl
    · intro z
      rw [tabs b z] at e
      cases e
      exact h2 rfl
  have isd : ∀ {b : Addr} {o : Obj} {es : Array DictEntry} {ep : Nat}, s₁.heap.get? b = some o → o.data = .dict es ep → H b = none := by
    intro b o es ep e d
    apply free e
    · intro vs n z; rw [d] at z; cases z
    · intro z; rw [d] at z; cases z
  have nsk : ∀ {b : Addr} {m : Str → Option Value}, s₁.heap.Ns b m → (hidT s₁.heap H).Ns b m := fun {b m} q => by
    obtain ⟨o, es, ep, e, d, r⟩ := q
    exact ⟨o, es, ep, hid e (isd e d), d, r⟩
  have kb : K.In (hidT s₁.heap H) := by
    intro b o e
    apply hid (kx b o e)
    apply Hn
    · intro z
      subst z
      rw [hka] at e
      cases e
    · intro z
      obtain ⟨p, hp, rfl⟩ := List.mem_map.mp z
      rw [nT p hp] at e
      cases e
  have hM : Mod K mg (hidT s₁.heap H) := by
    refine ⟨kb, nsk hns, ⟨mb, nsk hb, hbb⟩, ?_⟩
    obtain ⟨mc, h1, h2⟩ := hlim
    exact ⟨mc, nsk h1, h2⟩
  have TB : ∀ p ∈ cs, LamX.TabB (hidT s₁.heap H) mg p.1 p.2 := by
    intro p hp
    obtain ⟨hc, ht⟩ := hT p hp
    constructor
    · obtain ⟨o, us, fi, tf, fl, tg, inF, tx, tt, e1, e2, e3, e4, r⟩ := hc
      refine ⟨o, us, fi, tf, fl, tg, inF, tx, tt, hid e1 (free e1 ?_ ?_), e2, e3, e4, r⟩
      · intro vs n z; rw [e3] at z; cases z
      · intro z
        rw [e3] at z
        injection z with z
        rw [z] at e4
        simp at e4
    · obtain ⟨bm, ob', b1, b2, b3, b4, b5, b6⟩ := hbm
      have n1 : bm ≠ mainGlobals := by
        intro z
        obtain ⟨o, es, ep, e, hd, _⟩ := hns
        rw [z, e] at b3
        cases b3
        rw [hd] at b6
        cases b6
      have n2 : bm ≠ p.2 := by
        intro z
        rw [z, ht] at b3
        cases b3
        cases b6
      refine ⟨bm, ob', b1, b2, n1, n2, hid b3 (free b3 ?_ ?_), b4, b5, b6⟩
      · intro vs n z; rw [b6] at z; cases z
      · intro z; rw [b6] at z; cases z
    · intro z
      obtain ⟨o, es, ep, e, hd, _⟩ := hns
      rw [z, ht] at e
      cases e
      cases hd
  have e0 : Env0 P w K mg (hidT s₁.heap H) callerA [] s₁ H := by
    refine ⟨rfl, hM, fun b o e => of_hidT e, Nat.le_of_eq (hidT_size _ _), trivial, fun b hb => ?_, hok, .of_eq hg⟩
    exact absurd (show b ∈ ([] : List Addr) from hb) (by simp)
  apply codeAny_mono ((F _ kb (nsk hns) TB).run callerA [] s₁ H ⟨[.ref a], []⟩ [.ref a] [.ref a] _ _ ⟨hr, rfl⟩ e0 (hbind s₁ (.ref a)) (.cons rfl .nil) (hsp H ⟨ob, Ha⟩ (fun p hp => Hc p.2 (List.mem_map.mpr ⟨p, hp, rfl⟩)) na))
  intro r s' h
  cases r with
  | error e => exact h.elim
  | ok fl => cases fl with
    | next => exact h.elim
    | brk => exact h.elim
    | cont => exact h.elim
    | ret u =>
      obtain ⟨v, H', os, bare, un, hok', r', q⟩ := h
      obtain rfl : v = .bl true := q
      obtain rfl : u = Value.bool true := r'
      have key : ∀ b o, b ∉ cs.map (·.2) → s₁.heap.get? b = some o → s'.heap.get? b = some o := by
        intro b o nb e
        by_cases hb' : b = a
        · subst hb'
          have z2 := un.frzs b ob _ Ha
          obtain ⟨e1, _⟩ := hok b _ Ha
          obtain ⟨e2, _⟩ := hok' b _ z2
          rw [e] at e1
          cases e1
          exact e2
        · exact un.keep b o e (Hn b hb' nb) (fun z => absurd (show b ∈ ([] : List Addr) from z) (by simp)) (by simp)
      have grown : ∀ p ∈ cs, ∃ more : Array Value, s'.heap.get? p.2 = some { cls := .none, data := .fields more } := by
        intro p hp
        obtain ⟨more, z⟩ := un.tbls p.2 #[] (Hc p.2 (List.mem_map.mpr ⟨p, hp, rfl⟩))
        exact ⟨_, hok' p.2 _ z⟩
      refine ⟨rfl, ⟨fun b o e => ?_, fun b o e => ?_⟩, os, bare⟩
      · by_cases hb' : b ∈ cs.map (·.2)
        · obtain ⟨p, hp, rfl⟩ := List.mem_map.mp hb'
          obtain ⟨more, hm⟩ := grown p hp
          rw [(hT p hp).2] at e
          cases e
          exact .inr (.inl ⟨((hT p hp).1.tab (hT p hp).2).isCodeTable, rfl, #[], more, rfl, by rw [Array.empty_append]; exact hm⟩)
        · exact .inl (key b o hb' e)
      · by_cases hb' : b ∈ cs.map (·.2)
        · obtain ⟨p, hp, rfl⟩ := List.mem_map.mp hb'
          obtain ⟨more, hm⟩ := grown p hp
          exact ⟨_, hm⟩
        · exact ⟨o, key b o hb' e⟩
end DL
set_option maxRecDepth 100000
set_option maxHeartbeats 1000000
namespace DL
open PySem PySem.Spec PyProof.Rows L2
variable [HW]
end DL
set_option maxRecDepth 100000
set_option maxHeartbeats 1000000
namespace DL
open PySem PySem.Spec PyProof.Rows L2
variable [HW]
section
variable {X : Cx}
theorem rowS_map : ∀ {ds : List D} {l : List Str}, rowS ds = some l → ds = l.map .str
  | [], _, e => by cases e; rfl
  | d :: ds, l, e => by
    unfold rowS at e
    split at e
    · rename_i q; cases q
    · rename_i a ds' q
      cases q
      simp only [Option.map_eq_some_iff] at e
      obtain ⟨l', e1, rfl⟩ := e
      rw [rowS_map e1]; rfl
    · cases e
theorem rowS_strs : ∀ l : List Str, rowS (l.map .str) = some l
  | [] => rfl
  | a :: l => by
    show (rowS (l.map .str)).map (a :: ·) = _
    rw [rowS_strs l]; rfl
theorem rds_strs {M : Mm} {H : Hp} : ∀ {xs : List V} {l : List Str}, RDs M H xs (l.map .str) → xs = l.map V.str
  | _, [], .nil => rfl
  | _, a :: l, .cons r t => by cases r; rw [rds_strs t]; rfl
end
end DL
set_option maxRecDepth 100000
set_option maxHeartbeats 1000000
namespace DL
open PySem PySem.Spec PyProof.Rows L2
variable [HW]
section
variable {X : Cx}
def isDc (w : W) (h : Hh) : Bool := match deref h w with
  | some (.dict _) => true
  | _ => false
def getW (w k x : W) (h : Hh) : Option (W × Hh) := match deref h w, k, x with
  | some (.dict es), .dat kd, .dat xd => match getD es kd with
    | some o => ok (o.getD xd) h
    | none => none
  | _, _, _ => none
def fGet (fd fk fx : EM) : EM := fun ρ h => obnd (fd ρ h) fun w h1 => if isDc w h1 = true then obnd (fk ρ h1) fun k h2 => obnd (fx ρ h2) fun x h3 => getW w k x h3 else none
theorem RDo.getD_ {M : Mm} {H : Hp} {o : Option V} {p : Option D} {v : V} {d : D} (r : RDo M H o p) (q : RD M H v d) : RD M H (o.getD v) (p.getD d) := by
  cases o <;> cases p <;> first | exact q | exact r | exact r.elim
theorem d_dget {k : Nat} (hr : RG k X.A) {o e f : Expr} {apos cpos : Pos} {fd fk fx : EM} (ho : DE X o fd) (he : DE X e fk) (hf : DE X f fx) (m : M2 X o "get" apos e f cpos) (W : HWX X := by exact ⟨rfl, rfl⟩) : DE X (.Call (.Attribute o "get" apos) [e, f] [] cpos) (fGet fd fk fx) :=
  (pe_dgetX2 (by have := hr.room.un; omega) W ho he hf m).weak fun σ H Q => by
    rintro ⟨M, h, ρ, r, rs, c⟩
    obtain ⟨w, h1, e1, c1⟩ := Cont.bind (δ := Unit) c
    refine ⟨M, h, ρ, r, rs, w, h1, e1, fun M1 H1 v x1 r1 v1 => ?_⟩
    have c2 := c1 M1 H1 x1
    split at c2
    · rename_i hd
      have hd' : ∃ es, deref h1 w = some (.dict es) := by
        unfold isDc at hd
        split at hd
        · exact ⟨_, ‹_›⟩
        · cases hd
      obtain ⟨es, q⟩ := hd'
      have hI : ∃ a, v = .ref a ∧ IsDX H1 a := by
        rcases deref_rr r1 v1 q with ⟨a, kvs, rfl, ha, _⟩ | ⟨a, kvs, es', rfl, rfl, ha, _⟩
        · exact ⟨a, rfl, .inl (.inl ⟨kvs, .inl ha⟩)⟩
        · exact ⟨a, rfl, .inr ⟨kvs, ha⟩⟩
      obtain ⟨a, rfl, hI⟩ := hI
      refine ⟨a, rfl, hI, M1, h1, ρ, r1, rs.mono x1, ?_⟩
      obtain ⟨w2, h2, e2, c3⟩ := Cont.bind (δ := Unit) c2
      refine ⟨w2, h2, e2, fun M2 H2 v2 x2 r2 q2 => ⟨M2, h2, ρ, r2, (rs.mono x1).mono x2, ?_⟩⟩
      obtain ⟨w3, h3, e3, c4⟩ := Cont.bind (δ := Unit) (c3 M2 H2 x2)
      refine ⟨w3, h3, e3, fun M3 H3 v3 x3 r3 q3 => ?_⟩
      have c5 := c4 M3 H3 x3
      have va := (v1.mono x2).mono x3
      have vk := q2.mono x3
      unfold getW at c5
      split at c5
      · rename_i es' kd xd hq
        split at c5
        · rename_i oo eo
          obtain ⟨a', ov, ea, g, ro⟩ := get_ok (deref_rr r3 va hq) (show RD M3 H3 v2 kd from vk) eo
          cases ea
          exact ⟨ov, g, c5.here r3 (RDo.getD_ ro (show RD M3 H3 v3 xd from q3))⟩
        · exact c5.no.elim
      · exact c5.no.elim
    · exact c2.no.elim
def leT (a b : Str) : Bool := decide (a.cps.toList ≤ b.cps.toList)
theorem leT_trans (a b c : Str) (h1 : leT a b = true) (h2 : leT b c = true) : leT a c = true := by
  unfold leT at *
  simp only [decide_eq_true_eq] at *
  exact List.le_trans h1 h2
theorem leT_total (a b : Str) : (leT a b || leT b a) = true := by
  unfold leT
  simp only [Bool.or_eq_true, decide_eq_true_eq]
  exact List.le_total _ _
theorem leT_anti {a b : Str} (h1 : leT a b = true) (h2 : leT b a = true) : a = b := by
  unfold leT at *
  simp only [decide_eq_true_eq] at *
  have e := List.le_antisymm h1 h2
  obtain ⟨⟨x⟩⟩ := a
  obtain ⟨⟨y⟩⟩ := b
  simp at e
  rw [e]
theorem rds_ofS {M : Mm} {H : Hp} : ∀ l : List Str, RDs M H (l.map V.str) (l.map .str)
  | [] => .nil
  | a :: l => .cons (.str a) (rds_ofS l)
end
end DL
set_option maxRecDepth 100000
set_option maxHeartbeats 4000000
namespace DL
open PySem PySem.Spec PyProof.Rows L2
variable [HW]
section
variable {P : Program} {w : World}
structure TxR (P : Program) (w : World) (B : Froz.SD) (l : List Str) : Prop where
  ok : Froz.TxOk P w B l
  ris : Ris B.2.2.place.toList
  led : w.params.followText "set-order" = true ∨ B.2.2.led = true
theorem tail_ris {ep : Nat} {es : Array (Int × Value)} {t : SetTable} {b : Bool} (r : Ris t.place.toList) : Ris (Froz.tailTx ep es t b).2.2.place.toList := by
  unfold Froz.tailTx
  split
  · exact relayAll_ris _ _ _
  · exact r
theorem tail_led {ep : Nat} {es : Array (Int × Value)} {t : SetTable} {b : Bool} : (Froz.tailTx ep es t b).2.2.led = t.led := by
  unfold Froz.tailTx
  split
  · exact relayAll_led _ _ _
  · rfl
theorem TxR.add {B : Froz.SD} {l : List Str} {k : Str} (u : Tok) (F : TxR P w B l) : TxR P w (Froz.addTx (hashStr w k) (.str k u) B) (k :: l) := by
  refine ⟨Froz.add_ok u F.ok, ?_, ?_⟩
  · have r1 := layNew_ris B.2.2 B.1 (hashStr w k) (.str k u) F.ris
    unfold Froz.addTx
    apply tail_ris
    split
    · exact r1
    · exact r1
  · have l1 := layNew_led B.2.2 B.1 (hashStr w k) (.str k u)
    rcases F.led with q | q
    · exact .inl q
    · right
      unfold Froz.addTx
      rw [tail_led]
      split
      · exact l1.trans q
      · exact l1.trans q
def TxAt (P : Program) (w : World) (h : Heap) (a : Addr) (l : List Str) : Prop := ∃ B, h.get? a = some (Froz.sObj "set" B) ∧ TxR P w B l
theorem TxAt.at {h h' : Heap} {a : Addr} {l : List Str} (x : TxAt P w h a l) (k : ∀ o, h.get? a = some o → h'.get? a = some o) : TxAt P w h' a l := by
  obtain ⟨B, e, r⟩ := x
  exact ⟨B, k _ e, r⟩
end
section
variable {P : Program} {w : World} {A : Around} {R : Result → Shared → Prop} {I : Addr} {fp wr : List Addr} {G : Array GenState → Array GenState → Prop} {n : Nat} {Pv : Nat → Value → Prop} {St : Nat → Shared → Prop}
theorem txs_loop (W : WalksS P w A.in1 I fp wr G n Pv St) (a : Addr) (hf : a ∉ fp) (xs : List Str) (nd : xs.Nodup) (hn : xs.length = n) (hb : n + 1 < scanBound) (hv : ∀ i v, Pv i v → ∃ (y : Str) (t : Tok), xs[i]? = some y ∧ v = .str y t) :
    ∀ (k i : Nat) (s : Shared), i + k = n → St i s → TxAt P w s.heap a (xs.take i).reverse → (∀ s', Moved (a :: wr) G s s' → TxAt P w s'.heap a xs.reverse → R (.ok (.ret .none)) s') → codeAny (model P w) A (.builtin "set.update.loop" ⟨[.ref a, .ref I], []⟩) R s
  | 0, i, s, e, st, x, hR => by
    have hi : i = n := by omega
    subst hi
    apply codeAny_builtin PyProof.Rows.F.entry_set_update_loop
    rw [Around.under_plainId PyProof.Rows.F.plain_set_update_loop _]
    show wpAny _ A.in1 (pyNext (.ref I) >>= _) _ _ s
    apply wpAny_bind
    refine W.done s _ _ st fun s1 m => ?_
    show wpAny _ A.in1 (ret Value.none) _ _ s1
    refine wpAny_pure (hR s1 (m.mono fun b hb => List.mem_cons_of_mem _ hb) ?_)
    have x' := x.at fun o q => m.heap a o (fun z => hf (W.sub _ z)) q
    rwa [← hn, List.take_length] at x'
  | k + 1, i, s, e, st, x, hR => by
    apply codeAny_builtin PyProof.Rows.F.entry_set_update_loop
    rw [Around.under_plainId PyProof.Rows.F.plain_set_update_loop _]
    show wpAny _ A.in1 (pyNext (.ref I) >>= _) _ _ s
    apply wpAny_bind
    refine W.item i s _ _ (by omega) st fun v s1 pv st1 m => ?_
    obtain ⟨y, t, ey, rfl⟩ := hv i v pv
    obtain ⟨B, eB, rB⟩ := x.at fun o q => m.heap a o (fun z => hf (W.sub _ z)) q
    show wpAny _ A.in1 (holding [Value.str y t] (setAdd a (.str y t)) >>= _) _ _ s1
    apply wpAny_bind
    apply wpAny_holding
    unfold setAdd
    apply wpAny_holding
    apply wpAny_bind
    refine (PySem.strKind P w).pyHash (k := y) (strKind_is _ _ _ _) ?_
    have hnew : y ∉ (xs.take i).reverse := fun z => by
      have z := List.mem_reverse.mp z
      obtain ⟨j, hj, ej⟩ := List.mem_take_iff_getElem.mp z
      obtain ⟨hi, ei⟩ := List.getElem?_eq_some_iff.mp ey
      have := (List.pairwise_iff_getElem.mp nd) j i (by omega) hi (by omega)
      exact this (by rw [ej, ei])
    refine Froz.add_x (s := { s1 with toks := s1.toks + 1 }) eB rB.ok hnew (by rw [List.length_reverse, List.length_take]; omega) ?_
    have e2 := Froz.get_upd (h := s1.heap) (Froz.sObj "set" (Froz.addTx (hashStr w y) (.str y t) B)) eB rfl
    have oth : ∀ b o, b ≠ a → s1.heap.get? b = some o → (s1.heap.update a (fun _ => Froz.sObj "set" (Froz.addTx (hashStr w y) (.str y t) B))).get? b = some o := fun b o nb q => (Heap.get?_update_other _ _ (Ne.symm nb)).trans q
    refine wpAny_pure ⟨plainId_quiet PyProof.Rows.F.plain_set_update_loop _, txs_loop W a hf xs nd hn hb hv k (i + 1) _ (by omega) (W.frame _ s1 _ _ st1 (Nat.le_succ _) fun b hb o q => oth b o (fun z => hf (z ▸ hb)) q) ⟨_, e2, ?_⟩ fun s2 m2 x2 => ?_⟩
    · rw [List.take_add_one, ey]
      simp only [Option.toList_some, List.reverse_append, List.reverse_cons, List.reverse_nil, List.nil_append, List.singleton_append]
      exact rB.add t
    · exact hR s2 (Moved.trans W.gtrans ((m.mono fun b hb => List.mem_cons_of_mem _ hb).then_heap (Nat.le_succ _) fun b o nb q => oth b o (fun z => nb (by rw [z]; exact List.mem_cons_self)) q) m2) x2
end
section
variable {P : Program} {w : World} {A : Around} {E : Value → Shared → Prop} {s : Shared}
abbrev nSet (w : World) : Obj := { cls := .type "set", dict := none, data := .set #[] 0 (.fresh 0 0 (!w.params.followText "set-order")) }
theorem nSet_txs {h : Heap} {a : Addr} (e : h.get? a = some (nSet w)) : TxAt P w h a [] := by
  refine ⟨(#[], 0, .fresh 0 0 (!w.params.followText "set-order")), e, Froz.TxOk.nil rfl, List.Pairwise.nil, ?_⟩
  show _ ∨ (!w.params.followText "set-order") = true
  cases w.params.followText "set-order" with
  | false => exact .inr rfl
  | true => exact .inl rfl
set_option maxHeartbeats 3200000 in
theorem call_set_txs {l : Addr} {its : Array Value} {xs : List Str} {Q : Value → Shared → Prop} (hh : A.handled = none) (hl : s.heap.IsList l its) (hi : StrsAre its.toList xs) (nd : xs.Nodup) (hb : xs.length + 1 < scanBound)
    (h : ∀ h' tk, TxAt P w h' s.heap.objs.size xs.reverse → (∀ b o, s.heap.get? b = some o → h'.get? b = some o) → Q (.ref s.heap.objs.size) { s with heap := h', toks := tk }) : wpAny (model P w) A (call (.type "set") [.ref l]) Q E s := by
  obtain ⟨c0, c1, k1⟩ := F.called_set.mro
  have k2 := F.called_set.made
  have k3 := F.called_set.sub
  apply wpAny_call
  apply codeAny_of_tree
  show wpAny _ _ (callAny (.type "set") _) _ _ _
  refine wpAny_pure ⟨Code.quiet_builtin _ (by decide +kernel), ?_⟩
  apply codeAny_builtin F.entry_type_call
  rw [Around.under_plain (weight_type_call_type "set" [.ref l] []) rfl]
  have k4 := F.called_set.notType
  have k5 := F.called_set.canCreate
  have k6 := F.typeCall_set_1 (.ref l)
  repeat (any_goals (first | assumption | wp_step))
  refine codeAny_mono (code_set_led1 (.ref l) (E := E) (Q₁ := fun o s1 => o = .ref s.heap.objs.size ∧ s1 = { s with heap := s.heap.push (nSet w) }) ⟨rfl, rfl⟩) fun q s1 hq => ?_
  cases q with
  | error _ => exact hq
  | ok f =>
    cases f with
    | ret o =>
      obtain ⟨rfl, rfl⟩ := hq
      have at1 : (s.heap.push (nSet w)).get? s.heap.objs.size = some (nSet w) := Heap.get?_push_size _ rfl
      have ty1 : Shared.TypeIs { s with heap := s.heap.push (nSet w) } (.ref s.heap.objs.size) "set" := ⟨_, at1, rfl⟩
      have k7 := F.called_set.init.lookup
      have k8 := F.called_set.init.bind (.ref s.heap.objs.size)
      repeat (any_goals (first | assumption | wp_step))
      refine codeAny_mono (codeAny_call_builtin (R := wants (fun z s2 => z = .none ∧ ∃ h' tk, s2 = { s with heap := h', toks := tk } ∧ TxAt P w h' s.heap.objs.size xs.reverse ∧ ∀ b o, s.heap.get? b = some o → h'.get? b = some o) E) F.called_set.init.plain F.entry_set_init (check_set_init_1 ty1 ?_)) fun q2 s2 hq2 => ?_
      · obtain ⟨⟨oc, od, odt, os⟩, ho, hoc, m, hod⟩ := hl
        simp only at hoc hod
        subst hoc
        subst hod
        have ho' : (s.heap.push (nSet w)).get? l = some { cls := .type "list", dict := od, data := .seq its m, slots := os } := Heap.get?_push_of_some _ ho
        have f1 := F.sub_list_set
        have f2 := F.sub_list_frozenset
        have f3 : (Value.type "list" == Value.type "dict") = false := by decide
        have hl' : (s.heap.push (nSet w)).IsList l its := ⟨_, ho', rfl, m, rfl⟩
        unfold Builtin.«set.__init__» noKeywords Builtin.Frozenset.updateFrom
        generalize eI : pyIter = pI
        wp_walk
        subst eI
        apply wpAny_pyIter_list hl'
        apply wpAny_bind
        apply wpAny_runValue
        have lt : l < s.heap.objs.size := Heap.lt_size ho
        have zs : (s.heap.push (nSet w)).objs.size = s.heap.objs.size + 1 := Heap.size_push ..
        have n1 : l ≠ (s.heap.push (nSet w)).objs.size := by rw [zs]; exact Nat.ne_of_lt (Nat.lt_succ_of_lt lt)
        have n2 : s.heap.objs.size ∉ [(s.heap.push (nSet w)).objs.size, l] := by
          rw [zs]
          simp only [List.mem_cons, List.not_mem_nil, or_false, not_or]
          exact ⟨Nat.ne_of_lt (Nat.lt_succ_self _), Nat.ne_of_gt lt⟩
        have len : xs.length = its.size := by rw [← StrsAre.len_eq hi, Array.length_toList]
        have val : ∀ (i : Nat) (v : Value), its[i]? = some v → ∃ (y : Str) (t : Tok), xs[i]? = some y ∧ v = .str y t := fun i v hv => by
          have hv' : its.toList[i]? = some v := by rw [Array.getElem?_toList]; exact hv
          obtain ⟨t, e⟩ := SS.strs_at hi i v hv'
          have hlt : i < xs.length := by have := (List.getElem?_eq_some_iff.mp hv').1; rw [Array.length_toList] at this; omega
          exact ⟨xs[i], t, List.getElem?_eq_getElem hlt, by rw [e, List.getD_eq_getElem?_getD, List.getElem?_eq_getElem hlt]; rfl⟩
        refine txs_loop ((Walks.list (by simp [hh]) _ l n1 its).toS) s.heap.objs.size n2 xs nd len (by rw [← len]; exact hb) val its.size 0 _ (by omega) ⟨⟨_, Heap.get?_push_size _ rfl, rfl, rfl⟩, hl'.push _⟩ ?_ ?_
        · rw [List.take_zero, List.reverse_nil]
          exact nSet_txs (Heap.get?_push_of_some _ at1)
        · intro s3 mv x3
          obtain ⟨h3, g3, d3, t3, o3⟩ := s3
          have q1 : g3 = s.gens := mv.gens
          have q2 : d3 = s.drawn := mv.drawn
          have q3 : o3 = s.os := mv.os
          subst q1
          subst q2
          subst q3
          show wpAny _ _ _ _ _ _
          apply wpAny_pure
          show wpAny _ _ (ret Value.none) _ _ _
          refine wpAny_pure ⟨rfl, h3, t3, rfl, x3, fun b o e => mv.heap b o (fun z => ?_) (Heap.get?_push_of_some _ (Heap.get?_push_of_some _ e))⟩
          have lb := Heap.lt_size e
          simp only [List.mem_cons, List.not_mem_nil, or_false, zs] at z
          rcases z with z | z
          · exact absurd lb (by rw [z]; exact Nat.lt_irrefl _)
          · exact absurd lb (by rw [z]; exact Nat.not_lt_of_le (Nat.le_succ _))
      · cases q2 with
        | error _ => exact hq2
        | ok f2 =>
          cases f2 with
          | ret z =>
            obtain ⟨rfl, h', tk, rfl, x', k'⟩ := hq2
            repeat (any_goals (first | assumption | wp_step))
            exact h _ _ x' k'
          | _ => exact hq2.elim
    | _ => exact hq.elim
end
end DL
set_option maxRecDepth 100000
set_option maxHeartbeats 1000000
namespace DL
open PySem PySem.Spec PyProof.Rows L2
variable [HW]
section
variable {P : Program} {w : World} {A : Around} {E : Value → Shared → Prop} {s : Shared}
abbrev IsTx (v : Value) (k : Str) : Prop := ∃ t, v = .str k t
def txV : Value → Str
  | .str k _ => k
  | _ => Str.empty
theorem each_tx : ∀ {vs : List Value}, (∀ v ∈ vs, ∃ k, IsTx v k) → PySem.W.EachIs IsTx vs (vs.map txV)
  | [], _ => .nil
  | v :: vs, h => by
    obtain ⟨k, t, rfl⟩ := h v List.mem_cons_self
    exact .cons ⟨t, rfl⟩ (each_tx fun u hu => h u (List.mem_cons_of_mem _ hu))
theorem vals_tx : ∀ {vs : List Value} {l : List Str}, PySem.W.EachIs IsTx vs l → Vals (l.map V.str) vs
  | _, _, .nil => .nil
  | _, _, .cons a t => .cons a (vals_tx t)
theorem perm_cover : ∀ {l m : List Str}, l.Nodup → l.length = m.length → (∀ k ∈ l, k ∈ m) → l.Perm m
  | [], m, _, e, _ => by
    have : m = [] := List.length_eq_zero_iff.mp e.symm
    rw [this]
  | a :: l, m, nd, e, h => by
    have pe := List.perm_cons_erase (h a List.mem_cons_self)
    have hl := pe.length_eq
    rw [List.length_cons] at hl e
    obtain ⟨n1, n2⟩ := List.nodup_cons.mp nd
    have ih := perm_cover (l := l) (m := m.erase a) n2 (by omega) fun k hk => by
      have ne : k ≠ a := fun z => by subst z; exact n1 hk
      exact (List.mem_erase_of_ne ne).mpr (h k (List.mem_cons_of_mem _ hk))
    exact (List.Perm.cons a ih).trans pe.symm
theorem leT_data : PySem.W.dataLe false (fun k : Str => (PyData.str k)) = leT := PySem.W.dataLe_str fun k => k
theorem sorted_txs {a : Addr} {l : List Str} {Q : Value → Shared → Prop} (x : TxAt P w s.heap a l) (nd : l.Nodup) (hb : l.length < scanBound) (hz : l.length ≤ sizeLine) (hh : A.handled = none) (hu : A.units + 2 < cLine)
    (hQ : ∀ s' p out c, (∀ b o, s.heap.get? b = some o → s'.heap.get? b = some o) → s'.gens = s.gens → s'.os = s.os → s.heap.objs.size ≤ p → s'.heap.get? p = some (seqObj "list" (List.toArray out) c) → Vals ((l.mergeSort leT).map V.str) out → Q (.ref p) s') :
    wpAny (model P w) A (call (.builtin "sorted") [.ref a]) Q E s := by
  obtain ⟨⟨es, ep, t⟩, ho, F, ris, led⟩ := x
  have fz : es.size = l.length := F.sz
  refine call_function_entry_kw kind_sorted plain_sorted entry_sorted (args_sorted1 _) ?_
  unfold Builtin.«sorted»
  refine wpAny_bind (m := checkCount "sorted" 1 1 _) (wpAny_pure (wpAny_bind (collect_set (A := A.in1) hh ⟨_, ho, rfl, rfl⟩ F.fit (by rw [fz]; exact hb) ris led fun s1 vs k1 hs g1 o1 pm => ?_)))
  have el : ∀ v ∈ vs, ∃ k, IsTx v k := fun v hv => by
    obtain ⟨e, he, rfl⟩ := List.mem_map.mp (pm.mem_iff.mp hv)
    obtain ⟨⟨k, hk, _⟩, _⟩ := F.el e he
    exact ⟨k, Value.isStrOf_shape hk⟩
  have vl : vs.length = l.length := by rw [pm.length_eq, List.length_map, Array.length_toList]; exact fz
  have pl : l.Perm (vs.map txV) := perm_cover nd (by rw [List.length_map, vl]) fun k hk => by
    obtain ⟨e, he, q⟩ := (F.mem k).mp hk
    obtain ⟨u, eu⟩ := Value.isStrOf_shape q
    refine List.mem_map.mpr ⟨e.2, pm.mem_iff.mpr (List.mem_map.mpr ⟨e, he, rfl⟩), ?_⟩
    rw [eu]; rfl
  have ev := each_tx el
  have hv : vs.length ≤ sizeLine := by rw [vl]; exact hz
  apply wpAny_bind
  refine wpAny_newList ?_ hv
  have at_ : (s1.heap.push (seqObj "list" vs.toArray 0)).get? s1.heap.objs.size = some (seqObj "list" vs.toArray 0) := Heap.get?_push_size _ rfl
  have er' : PySem.W.EachIs (fun v b => ∃ as, Reads (PySem.W.sortingHeap (s1.heap.push (seqObj "list" vs.toArray 0)) s1.heap.objs.size vs) v (PyData.str b) as) vs (vs.map txV) := ev.mono fun v b ⟨u, e⟩ => by
    subst e
    exact ⟨[], .str b u⟩
  have hal : PySem.W.AllAlike ((vs.map txV).map PyData.str) := fun d hd e he => by
    obtain ⟨x, _, rfl⟩ := List.mem_map.mp hd
    obtain ⟨y, _, rfl⟩ := List.mem_map.mp he
    rfl
  have hk : PySem.W.Sortable ((vs.map txV).map PyData.str) := .inr fun d hd => by
    obtain ⟨x, _, rfl⟩ := List.mem_map.mp hd
    exact ⟨fun z => (by cases z), fun xs z => (by cases z)⟩
  refine wpAny_bind (wpAny_holding (wpAny_call_entry_kw slot_list_sort ⟨_, at_, rfl⟩ entry_list_sort ?_ (args_list_sort _)))
  refine PySem.W.list_sort_vals (s := { s1 with heap := s1.heap.push (seqObj "list" vs.toArray 0) }) at_ (PySem.W.SortsAt.data (s := { s1 with heap := PySem.W.sortingHeap (s1.heap.push (seqObj "list" vs.toArray 0)) s1.heap.objs.size vs }) (PySem.W.each_map (R := fun v d => ∃ as, Reads (PySem.W.sortingHeap (s1.heap.push (seqObj "list" vs.toArray 0)) s1.heap.objs.size vs) v d as) PyData.str er') hal hk (PySem.W.bound_map (A := A.in1.in1) fun b _ => ?_)) hv ?_
  · have e : PyData.depth (.str b) = 0 := rfl
    rw [e]
    exact hu
  · refine ⟨_, rfl, wpAny_pure ⟨_, rfl, ?_⟩⟩
    obtain ⟨c, hc⟩ := sortedHeap_at (vs := vs) (out := (PySem.W.sortVals (PySem.W.dataKind (PySem.W.sortingHeap (s1.heap.push (seqObj "list" vs.toArray 0)) s1.heap.objs.size vs) ((vs.map txV).map PyData.str)) false vs vs).toArray) at_
    have eo := PySem.W.sortVals_data false ev er' hal
    rw [leT_data] at eo
    have es' : (vs.map txV).mergeSort leT = l.mergeSort leT := List.Perm.eq_of_pairwise (fun x y _ _ h1 h2 => leT_anti h1 h2) (List.pairwise_mergeSort leT_trans leT_total _) (List.pairwise_mergeSort leT_trans leT_total _) ((List.mergeSort_perm _ _).trans (pl.symm.trans (List.mergeSort_perm _ _).symm))
    rw [es'] at eo
    refine hQ _ _ _ c (fun b o q => ?_) g1 o1 hs hc (vals_tx eo)
    have q1 := k1 b o q
    have lb := Heap.lt_size q1
    show (sortedHeap _ _ _ _).get? b = some o
    rw [sortedHeap_old (Nat.ne_of_lt lb) (by rw [size_push']; exact Nat.lt_succ_of_lt lb)]
    exact Heap.get?_push_of_some _ q1
end
section
variable {X : Cx}
def SetX (P : Program) (w : World) (a : Addr) (l : List Str) : HO := .ext fun h => TxAt P w h a l
theorem setX_new {P : Program} {w : World} {H : Hp} {h : Heap} {a : Addr} {l : List Str} (x : TxAt P w h a l) : ObjOk P w H h a (SetX P w a l) := by
  have ⟨B, e, _⟩ := x
  exact ⟨x, ⟨_, e⟩, fun h1 h2 p k => TxAt.at p k⟩
def rSetX (K : PySem.W.Frag) (P : Program) (w : World) : List V → Hp → VK → Prop := fun xs H Q => ∃ (a : Addr) (l : List Str), xs = [.ref a] ∧ SqL K H a (l.map V.str) ∧ l.Nodup ∧ l.length + 1 < scanBound ∧ ∀ p, H p = none → Q (.ref p) (upd H p (SetX P w p l.reverse))
theorem cr_setX (hc : X.calm = true) : CallR X (.type "set") (rSetX X.K X.prog X.w) := by
  rintro pins s σ H xs us Q I r ⟨a, l, rfl, hl, nd, hb, q⟩
  rw [Vals.ref1 r]
  obtain ⟨its, rv, pl, hz⟩ := I.list hl
  refine call_set_txs (P := X.prog) (w := X.w) (its := its.toArray) (xs := l) (I.ok.hd hc) pl.isList rv.strs nd hb fun h' tk x k => ?_
  exact ⟨.ref s.heap.objs.size, _, I.laid (t' := tk) (o := SetX X.prog X.w s.heap.objs.size l.reverse) k (Nat.le_refl _) (setX_new x), rfl, q _ (I.hok.fresh (Nat.le_refl _))⟩
def rSortX (P : Program) (w : World) : List V → Hp → VK → Prop := fun xs H Q => ∃ (a : Addr) (l : List Str), xs = [.ref a] ∧ H a = some (SetX P w a l) ∧ l.Nodup ∧ l.length < scanBound ∧ l.length ≤ sizeLine ∧ ∀ p, H p = none → Q (.ref p) (upd H p (.lst ((l.mergeSort leT).map V.str)))
theorem cr_sortX {k : Nat} (hr : Room k X.A) (hc : X.calm = true) : CallR X (.builtin "sorted") (rSortX X.prog X.w) := by
  rintro pins s σ H xs us Q I r ⟨a, l, rfl, ha, nd, hb, hz, q⟩
  rw [Vals.ref1 r]
  have x : TxAt X.prog X.w s.heap a l := (I.hok a _ ha).1
  refine sorted_txs x nd hb hz (I.ok.hd hc) (by have := hr.un; omega) fun s' p out c k g o hp hg hv => ?_
  have hlen : ((l.mergeSort leT).map V.str).length ≤ sizeLine := by rw [List.length_map, List.length_mergeSort]; exact hz
  have hn : H p = none := I.hok.fresh hp
  have J : Inv X pins σ (upd H p (.lst ((l.mergeSort leT).map V.str))) { s with heap := s'.heap, gens := s'.gens, drawn := s'.drawn, toks := s'.toks } :=
    I.call (ch := []) (Un.laid k hp hn) (I.hok.laid k hp ⟨hlen, out, c, hv, hg⟩) (by rw [g]; exact I.bare) (fun _ z => nomatch z)
  have e : s' = { s with heap := s'.heap, gens := s'.gens, drawn := s'.drawn, toks := s'.toks } := by
    cases s'
    cases s
    cases o
    rfl
  rw [e]
  exact ⟨.ref p, _, J, rfl, q p hn⟩
noncomputable def sortSW (m : Bool) (ws : List W) (h : Hh) : Option (W × Hh) := match ws with
  | [w] => match deref h w with
    | some (.list ds) => match rowS ds with
      | some l => if (decide l.Nodup && decide (l.length < 1000)) = true then mkL m ((l.mergeSort leT).map .str) h else none
      | none => none
    | _ => none
  | _ => none
theorem sort_rev (l : List Str) : l.reverse.mergeSort leT = l.mergeSort leT :=
  List.Perm.eq_of_pairwise (fun x y _ _ h1 h2 => leT_anti h1 h2) (List.pairwise_mergeSort leT_trans leT_total _) (List.pairwise_mergeSort leT_trans leT_total _) ((List.mergeSort_perm _ _).trans ((List.reverse_perm l).trans (List.mergeSort_perm _ _).symm))
theorem d_sortS {k : Nat} (hr : RG k X.A) (hc : X.calm = true) (m : Bool) (hm : X.mg "sorted" = none) (hm2 : X.mg "set" = none) {e : Expr} {p p2 q pos : Pos} {g : AM} (ha : DA X [e] g) (hg : Gl X "sorted" := by rfl) (hg2 : Gl X "set" := by rfl)
    (he : starEach [.Call (.Name "set" p2) [e] [] q] X.env = (false, eval (.Call (.Name "set" p2) [e] [] q) X.env) :: starEach [] X.env := by rfl) (hpl : (backTo pos (starEach [] X.env)).any (·.1) = false := by rfl) (he2 : starEach [e] X.env = (false, eval e X.env) :: starEach [] X.env := by rfl) (hpl2 : (backTo q (starEach [] X.env)).any (·.1) = false := by rfl) :
    DE X (.Call (.Name "sorted" p) [.Call (.Name "set" p2) [e] [] q] [] pos) (fA (sortSW m) g) :=
  (pe_callB (cr_sortX hr.room hc) hg hm (by decide +kernel) (pa_cons (pe_callTy (cr_setX hc) hg2 hm2 (by decide +kernel) ha (by decide) (by decide) he2 hpl2) pa_nil) (by decide) (by decide) he hpl).weak fun σ H Q => by
    rintro ⟨M, h, ρ, r, rs, c⟩
    obtain ⟨w, h1, e1, c1⟩ := Cont.bind (δ := Unit) c
    refine ⟨M, h, ρ, r, rs, w, h1, e1, fun M1 H1 v x1 r1 v1 => ?_⟩
    have c2 := c1 M1 H1 x1
    unfold sortSW at c2
    split at c2
    · obtain ⟨v, rfl, rv⟩ := rvs1 v1
      split at c2
      · rename_i ds ed
        obtain ⟨a, xs, rfl, ha, qa⟩ := deref_rr r1 rv ed
        split at c2
        · rename_i l el
          split at c2
          · rename_i hz
            rw [Bool.and_eq_true, decide_eq_true_eq, decide_eq_true_eq] at hz
            have := rowS_map el
            subst this
            have := rds_strs qa
            subst this
            have sb : l.length + 1 < scanBound := by have : scanBound = 4096 := rfl; omega
            refine ⟨a, l, rfl, .of ha, hz.1, sb, fun p np => ?_⟩
            refine ⟨p, l.reverse, rfl, upd_same, (List.reverse_perm l).nodup_iff.mpr hz.1, by rw [List.length_reverse]; omega, by rw [List.length_reverse, sizeLine_eq]; omega, fun p' np' => ?_⟩
            rw [sort_rev]
            have x2 := ext_new (M := M1) (o := SetX X.prog X.w p l.reverse) np
            have c3 : Cont RV (mkL m ((l.mergeSort leT).map .str) h1) M1 (upd H1 p (SetX X.prog X.w p l.reverse)) Q := by
              obtain ⟨w', h', ee, kk⟩ := c2
              exact ⟨w', h', ee, fun M' H' v' xx => kk M' H' v' (x2.trans xx)⟩
            exact mkL_fin (r1.upd_new np) np' (rds_ofS _) c3
          · exact c2.no.elim
        · exact c2.no.elim
      · exact c2.no.elim
    · exact c2.no.elim
def isS : W → Bool
  | .dat (.str _) => true
  | _ => false
def joinW (x y : W) (h : Hh) : Option (W × Hh) := match x, deref h y with
  | .dat (.str a), some (.list ds) => match rowS ds with
    | some l => if (l.map (·.length)).sum + l.length * a.length ≤ 16777216 then ok (.str (Txt.join a l)) h else none
    | none => none
  | _, _ => none
def fJoin (fo fe : EM) : EM := fun ρ h => obnd (fo ρ h) fun x h1 => if isS x = true then obnd (fe ρ h1) fun y h2 => joinW x y h2 else none
theorem d_join {o e : Expr} {apos pos : Pos} {fo fe : EM} (ho : DE X o fo) (he : DE X e fe) (hs : starEach [e] X.env = [(false, eval e X.env)] := by rfl) (hb : attributeBase o "join" X.env (eval o X.env) = eval o X.env := by rfl) (hl : (apos.endLine == pos.line) = true := by rfl) :
    DE X (.Call (.Attribute o "join" apos) [e] [] pos) (fJoin fo fe) := (pe_join ho he hs hb hl).weak fun σ H Q => by
  rintro ⟨M, h, ρ, r, rs, c⟩
  obtain ⟨w, h1, e1, c1⟩ := Cont.bind (δ := Unit) c
  refine ⟨M, h, ρ, r, rs, w, h1, e1, fun M1 H1 v x1 r1 v1 => ?_⟩
  have c2 := c1 M1 H1 x1
  split at c2
  · rename_i ht
    have hw : ∃ a, w = .dat (.str a) := by
      unfold isS at ht
      split at ht
      · exact ⟨_, rfl⟩
      · cases ht
    obtain ⟨a, rfl⟩ := hw
    cases (show RD M1 H1 v (.str a) from v1)
    refine ⟨⟨a, rfl⟩, M1, h1, ρ, r1, rs.mono x1, ?_⟩
    obtain ⟨w2, h2, e2, c3⟩ := Cont.bind (δ := Unit) c2
    refine ⟨w2, h2, e2, fun M2 H2 v2 x2 r2 q2 => ?_⟩
    have c4 := c3 M2 H2 x2
    unfold joinW at c4
    split at c4
    · rename_i a' ds ea ed
      cases ea
      obtain ⟨p, xs, rfl, hp, qp⟩ := deref_rr r2 q2 ed
      split at c4
      · rename_i l el
        split at c4
        · rename_i hz
          have := rowS_map el
          subst this
          have := rds_strs qp
          subst this
          exact ⟨a, p, l, rfl, rfl, .inl (.of hp), hz, c4.here r2 (.str _)⟩
        · exact c4.no.elim
      · exact c4.no.elim
    · exact c4.no.elim
  · exact c2.no.elim
end
end DL
set_option maxRecDepth 100000
set_option maxHeartbeats 1000000
namespace DL
open PySem PySem.Spec PyProof.Rows L2
variable [HW]
end DL
set_option maxRecDepth 100000
set_option maxHeartbeats 1000000
namespace DL
open PySem PySem.Spec PyProof.Rows L2
variable [HW]
end DL
set_option maxRecDepth 100000
set_option maxHeartbeats 4000000
namespace DL
open PySem PySem.Spec PyProof.Rows L2
variable [HW]
section
variable {X : Cx}
def gSub (i j : Int) : Option Int := some (i - j)
def gMul (i j : Int) : Option Int := if ((-18446744073709551616 < i && i < 18446744073709551616) || (-18446744073709551616 < j && j < 18446744073709551616)) = true then some (i * j) else none
def ipG (g : Int → Int → Option Int) : TIp := fun x y H Q => ∃ i j k, x = .int i ∧ y = .int j ∧ g i j = some k ∧ Q (.int k) H
theorem ip_gMul : PIp X .Mult (ipG gMul) := by
  rintro pins s σ H x y v u Q I r1 r2 ⟨i, j, k, rfl, rfl, e, q⟩
  obtain ⟨t, rfl⟩ := r1
  obtain ⟨t', rfl⟩ := r2
  unfold gMul at e
  split at e
  · rename_i hc
    cases e
    refine PySem.AutoIntOps.imul_0 ⟨.int _, H, I.tok _, ⟨_, rfl⟩, q⟩ (CMul.ok ?_)
    simp only [Bool.or_eq_true, Bool.and_eq_true, decide_eq_true_eq] at hc
    exact hc
  · cases e
def sAug (g : Int → Int → Option Int) (i : Nat) (f : EM) : SM := fun ρ h => match ρ[i]? with
  | some (some (.dat (.int a))) => sbnd (f ρ h) fun w h1 => match w with
    | .dat (.int b) => match g a b with
      | some c => some (.nx (ρ.set i (some (.dat (.int c)))), h1)
      | none => none
    | _ => none
  | _ => none
theorem ds_aug {g : Int → Int → Option Int} {i : Nat} {x : Str} {e : Expr} {op : Operator} {pos pos' : Pos} {f : EM} (h : PS X (.AugAssign (.Name x pos') op e pos) (tAug i (tE f) (ipG g))) : DS X (.AugAssign (.Name x pos') op e pos) (sAug g i f) := h.weak fun D σ H => by
  rintro ⟨M, h, ρ, r, rs, p⟩
  unfold sAug at p
  split at p
  · rename_i a ea
    obtain ⟨v, ev, rv⟩ := rs.2 i _ ea
    cases (show RD M H v (.int a) from rv)
    refine ⟨_, ev, ?_⟩
    obtain ⟨w, h1, e1, p1⟩ := p.bind
    refine ⟨M, h, ρ, r, rs, w, h1, e1, fun M1 H1 v x1 r1 v1 => ?_⟩
    split at p1
    · rename_i b
      split at p1
      · rename_i c ec
        cases (show RD M1 H1 v (.int b) from v1)
        exact ⟨a, b, c, rfl, rfl, ec, p1 M1 H1 _ x1.same x1.ext r1 ((rs.mono x1).set (.int c))⟩
      · exact p1.elim
    · exact p1.elim
  · exact p.elim
end
end DL
set_option maxRecDepth 100000
set_option maxHeartbeats 1000000
namespace DL
open PySem PySem.Spec PyProof.Rows L2
variable [HW]
end DL
set_option maxRecDepth 100000
set_option maxHeartbeats 400000
namespace DL
open PySem PySem.Spec PyProof.Rows L2
variable [HW]
mutual
def noL : D → Bool
  | .tuple ds => noLs ds
  | .list _ => false
  | .dict _ => false
  | _ => true
def noLs : List D → Bool
  | [] => true
  | d :: ds => noL d && noLs ds
end
def noLv : List (D × D) → Bool
  | [] => true
  | (_, d) :: es => noL d && noLv es
def okM : Option MO → Bool
  | some (.lst ds) => noLs ds
  | some (.dit es) => noLv es
  | some (.tab _ _) => true
  | none => true
  | _ => false
def killG {α : Type} (ns : List Nat) (l : List (Option α)) : List (Option α) := ns.foldl (fun l n => l.set n none) l
theorem killG_len {α : Type} : ∀ (ns : List Nat) (l : List (Option α)), (killG ns l).length = l.length
  | [], l => rfl
  | n :: ns, l => by show (killG ns (l.set n none)).length = _; rw [killG_len ns]; simp
theorem killG_get {α : Type} : ∀ (ns : List Nat) (l : List (Option α)) (i : Nat), i < l.length → (killG ns l)[i]? = if i ∈ ns then some none else l[i]?
  | [], l, i, h => by simp [killG]
  | n :: ns, l, i, h => by
    show (killG ns (l.set n none))[i]? = _
    rw [killG_get ns _ i (by simpa using h)]
    by_cases hi : i ∈ ns
    · simp [hi]
    · by_cases hn : n = i
      · subst hn; simp [hi, List.getElem?_set_self h]
      · simp [hi, Ne.symm hn, List.getElem?_set_ne hn]
def openP (h : Hh) : List (Sum Nat D) → Option (List D × List Nat)
  | [] => some ([], [])
  | .inr d :: its => match openP h its with
    | some (ds, ns) => some (d :: ds, ns)
    | none => none
  | .inl n :: its => match h[n]?, openP h its with
    | some (some (.lst l)), some (ds, ns) => some (.list l :: ds, n :: ns)
    | _, _ => none
section
variable {M : Mm} {H : Hp} {h : Hh}
theorem killM_has {ns : List Nat} : ∀ b, Mm.Has ⟨M.u, killG ns M.m⟩ b → M.Has b := fun b z => by
  rcases z with z | z
  · exact .inl z
  · obtain ⟨i, hi, q⟩ := List.getElem_of_mem z
    have hi' : i < M.m.length := by simpa [killG_len] using hi
    have q' : (killG ns M.m)[i]? = some (some b) := by rw [List.getElem?_eq_getElem hi]; exact congrArg some q
    rw [killG_get ns M.m i hi'] at q'
    split at q'
    · cases q'
    · exact .inr (List.mem_of_getElem? q')
theorem killM_get {ns : List Nat} {i : Nat} {a : Addr} (q : (killG ns M.m)[i]? = some (some a)) : i ∉ ns ∧ M.m[i]? = some (some a) := by
  have hi : i < M.m.length := by have := lt_of_get q; rwa [killG_len] at this
  rw [killG_get ns M.m i hi] at q
  split at q
  · cases q
  · rename_i hn; exact ⟨hn, q⟩
theorem Rep.kill (rep : Rep M H h) (ns : List Nat) : Rep ⟨M.u, killG ns M.m⟩ H (killG ns h) := by
  refine ⟨fun b z => ⟨fun y => ?_, (rep.us b z).2⟩, by rw [killG_len, killG_len]; exact rep.len, fun i j b q1 q2 => ?_, fun i b q => ?_, fun i q => ?_⟩
  · obtain ⟨i, hi, q⟩ := List.getElem_of_mem y
    have q' : (killG ns M.m)[i]? = some (some b) := by rw [List.getElem?_eq_getElem hi]; exact congrArg some q
    exact (rep.us b z).1 (List.mem_of_getElem? (killM_get q').2)
  · exact rep.inj i j b (killM_get q1).2 (killM_get q2).2
  · obtain ⟨hn, q'⟩ := killM_get q
    obtain ⟨o, ho, ro⟩ := rep.at_ i b q'
    refine ⟨o, ?_, ro.sub killM_has fun k _ z q => by
      rw [killG_get ns M.m k (lt_of_get q)]
      split
      · exact .inr rfl
      · exact .inl q⟩
    rw [killG_get ns h i (by rw [← rep.len]; exact lt_of_get q'), if_neg hn]
    exact ho
  · have q' : (killG ns M.m)[i]? = some none := q
    have hi : i < M.m.length := by have := lt_of_get q'; rwa [killG_len] at this
    rw [killG_get ns h i (by rw [← rep.len]; exact hi)]
    rw [killG_get ns M.m i hi] at q'
    split at q'
    · rename_i hn; rw [if_pos hn]
    · rename_i hn; rw [if_neg hn]; exact rep.dead i q'
theorem killM_not (rep : Rep M H h) {ns : List Nat} {n : Nat} {a : Addr} (hn : n ∈ ns) (q : M.m[n]? = some (some a)) : ¬ Mm.Has ⟨M.u, killG ns M.m⟩ a := fun z => by
  rcases z with z | z
  · exact (rep.us a z).1 (List.mem_of_getElem? q)
  · obtain ⟨i, hi, e⟩ := List.getElem_of_mem z
    have q' : (killG ns M.m)[i]? = some (some a) := by rw [List.getElem?_eq_getElem hi]; exact congrArg some e
    obtain ⟨h1, h2⟩ := killM_get q'
    exact h1 (rep.inj i n a h2 q ▸ hn)
theorem openP_rds (rep : Rep M H h) {ns0 : List Nat} : ∀ {its : List (Sum Nat D)} {xs : List V} {ds : List D} {ns : List Nat}, RPs M H xs its → openP h its = some (ds, ns) → (∀ n ∈ ns, n ∈ ns0) → RDs ⟨M.u, killG ns0 M.m⟩ H xs ds
  | _, _, _, _, .nil, e, _ => by cases e; exact .nil
  | _, _, _, _, .dat (ds := its) q r, e, hs => by
    simp only [openP] at e
    split at e
    · rename_i ds ns e1
      cases e
      exact .cons (q.sub killM_has) (openP_rds rep r e1 hs)
    · cases e
  | _, _, _, _, .ref (ds := its) q r, e, hs => by
    simp only [openP] at e
    split at e
    · rename_i l ds ns e0 e1
      cases e
      obtain ⟨o, ho, ro⟩ := rep.at_ _ _ q
      rw [e0] at ho
      cases ho
      obtain ⟨xs, hx, rx⟩ := ro
      exact .cons (.lst (killM_not rep (hs _ (by simp)) q) hx (rx.sub killM_has)) (openP_rds rep r e1 fun n z => hs n (List.mem_cons_of_mem _ z))
    · cases e
theorem RS.kill {ρ : Env} {σ : L2.St} {i : Nat} {its : List (Sum Nat D)} {ds : List D} {ns : List Nat} (rep : Rep M H h) (rs : RS M H ρ σ) (er : ρ[i]? = some (some (.pack its))) (eo : openP h its = some (ds, ns)) (hn : ¬ ns.any (fun n => (ρ.set i none).any (isR n)) = true) (h0 : ns ≠ []) :
    RS ⟨M.u, killG ns M.m⟩ H (ρ.set i (some (.dat (.list ds)))) σ := by
  refine ⟨by simp [rs.1], fun j w q => ?_⟩
  by_cases hj : i = j
  · subst hj
    rw [List.getElem?_set_self (lt_of_get er)] at q
    cases q
    obtain ⟨v, ev, a, xs, rfl, na, ha, rp⟩ := rs.2 i _ er
    exact ⟨_, ev, RD.lst (fun z => na (killM_has _ z)) ha (openP_rds rep rp eo fun _ z => z)⟩
  · rw [List.getElem?_set_ne hj] at q
    obtain ⟨v, ev, rv⟩ := rs.2 j w q
    refine ⟨v, ev, ?_⟩
    have hm : some w ∈ ρ.set i none := List.mem_of_getElem? (i := j) (by rw [List.getElem?_set_ne hj]; exact q)
    cases w with
    | dat d => exact RD.sub killM_has rv
    | ins C fs =>
      obtain ⟨b, u, gs, e1, n1, q1, r1⟩ := rv
      exact ⟨b, u, gs, e1, fun z => n1 (killM_has b z), q1, r1.to fun _ _ => RD.sub killM_has⟩
    | objs os => exact RWs.to (show RWs _ _ _ _ from rv) (fun b _ _ n z => n (killM_has b z)) (fun _ _ q _ _ => q) fun _ _ => RD.sub killM_has
    | exc k C fs =>
      obtain ⟨b, d, gs, e1, r1⟩ := rv
      exact ⟨b, d, gs, e1, r1.to (fun c _ _ n z => n (killM_has c z)) (fun _ _ q _ _ => q) fun _ _ => RD.sub killM_has⟩
    | lock es =>
      obtain ⟨b, u, kvs, e1, n1, q1, r1⟩ := rv
      exact ⟨b, u, kvs, e1, fun z => n1 (killM_has b z), q1, r1.sub killM_has⟩
    | scr ns =>
      obtain ⟨b, u, e1, n1, q1⟩ := rv
      exact ⟨b, u, e1, fun z => n1 (killM_has b z), q1⟩
    | tpk its' =>
      obtain ⟨b, xs, e1, n1, q1, r1⟩ := rv
      exact ⟨b, xs, e1, fun z => n1 (killM_has b z), q1, r1.moveI (fun _ _ => RD.sub killM_has) fun m hm' a' ea' => by
        show (killG ns M.m)[m]? = _
        rw [killG_get ns M.m m (lt_of_get ea'), if_neg (fun z => hn (List.any_eq_true.mpr ⟨m, z, List.any_eq_true.mpr ⟨_, hm, List.any_eq_true.mpr ⟨_, hm', by simp⟩⟩⟩))]; exact ea'⟩
    | pack its' =>
      obtain ⟨n, hn0⟩ := List.exists_mem_of_ne_nil _ h0
      exact absurd (List.any_eq_true.mpr ⟨n, hn0, List.any_eq_true.mpr ⟨_, hm, rfl⟩⟩) hn
    | ref k =>
      obtain ⟨b, eb, rfl⟩ := rv
      have hk : k ∉ ns := fun z => hn (List.any_eq_true.mpr ⟨k, z, List.any_eq_true.mpr ⟨_, hm, by simp [isR]⟩⟩)
      exact ⟨b, by show (killG ns M.m)[k]? = _; rw [killG_get ns M.m k (lt_of_get eb), if_neg hk]; exact eb, rfl⟩
end
section
variable {X : Cx}
def packs : List W → Option (List (Sum Nat D))
  | [] => some []
  | .dat d :: ws => (packs ws).map (.inr d :: ·)
  | .ref n :: ws => (packs ws).map (.inl n :: ·)
  | _ :: _ => none
@[simp] theorem packs_nil : packs [] = some [] := rfl
@[simp] theorem packs_dat (d : D) (ws : List W) : packs (.dat d :: ws) = (packs ws).map (.inr d :: ·) := rfl
@[simp] theorem packs_ref (n : Nat) (ws : List W) : packs (.ref n :: ws) = (packs ws).map (.inl n :: ·) := rfl
theorem rvs_packs {M : Mm} {H : Hp} {vs : List V} {ws : List W} (r : RVs M H vs ws) : ∀ {ds : List (Sum Nat D)}, packs ws = some ds → RPs M H vs ds := by
  induction r with
  | nil => intro ds e; cases e; exact .nil
  | @cons v vs d ws a t ih =>
    intro ds e
    cases d with
    | dat d =>
      simp only [packs_dat, Option.map_eq_some_iff] at e
      obtain ⟨ds', e1, rfl⟩ := e
      exact .dat a (ih e1)
    | ref n =>
      simp only [packs_ref, Option.map_eq_some_iff] at e
      obtain ⟨ds', e1, rfl⟩ := e
      obtain ⟨ad, ea, q⟩ := a
      subst q
      exact .ref ea (ih e1)
    | _ => cases e
theorem RPs.length {M : Mm} {H : Hp} : ∀ {vs : List V} {ws : List (Sum Nat D)}, RPs M H vs ws → vs.length = ws.length
  | _, _, .nil => rfl
  | _, _, .ref _ r => by rw [List.length_cons, List.length_cons, r.length]
  | _, _, .dat _ r => by rw [List.length_cons, List.length_cons, r.length]
theorem RPs.get {M : Mm} {H : Hp} : ∀ {xs : List V} {its : List (Sum Nat D)} {i : Nat} {z : Sum Nat D}, RPs M H xs its → its[i]? = some z → ∃ v, xs[i]? = some v ∧ RV M H v (match z with | .inl n => .ref n | .inr d => .dat d)
  | _, _, _, _, .nil, e => by simp at e
  | _, _, 0, _, .ref (a := a) q r, e => by simp at e; subst e; exact ⟨_, rfl, a, q, rfl⟩
  | _, _, 0, _, .dat q r, e => by simp at e; subst e; exact ⟨_, rfl, q⟩
  | _, _, i + 1, z, .ref (vs := vs) (ds := ds) q r, e => by
    obtain ⟨v, e1, e2⟩ := RPs.get (i := i) r (by simpa using e)
    exact ⟨v, by simpa using e1, e2⟩
  | _, _, i + 1, z, .dat (vs := vs) (ds := ds) q r, e => by
    obtain ⟨v, e1, e2⟩ := RPs.get (i := i) r (by simpa using e)
    exact ⟨v, by simpa using e1, e2⟩
end
end DL
set_option maxRecDepth 100000
set_option maxHeartbeats 1000000
namespace DL
open PySem PySem.Spec PyProof.Rows L2
variable [HW]
mutual
def noD : D → Bool
  | .tuple ds => noDs ds
  | .list ds => noDs ds
  | .dict _ => false
  | _ => true
def noDs : List D → Bool
  | [] => true
  | d :: ds => noD d && noDs ds
end
def noDk : List (D × D) → Bool
  | [] => true
  | (_, d) :: es => noD d && noDk es
def noDf (fs : List (Str × D)) : Bool := fs.all fun p => noD p.2
def noDw : List (Str × Sum Nat D) → Bool
  | [] => true
  | (_, .inl _) :: r => noDw r
  | (_, .inr d) :: r => noD d && noDw r
def noDo : List OI → Bool
  | [] => true
  | .ins _ fs :: r => noDf fs && noDo r
  | .exc _ _ _ :: _ => false
def noDM : Option MO → Bool
  | some (.obj _ fs) => noDw fs
  | some (.los os) => noDo os
  | some (.dpk _) => false
  | some (.lst ds) => noDs ds
  | some (.dic es) => noDk es
  | some (.dit es) => noDk es
  | some (.ins _ _) => false
  | _ => true
section
variable {M : Mm} {H : Hp} {d : Addr} {o : Obj} {u : HO} {kvs0 : List (Key × V)}
mutual
theorem RD.lock (hd : H d = some (.dK kvs0)) : ∀ {v : V} {x : D}, RD M H v x → noD x = true → RD M (upd H d u) v x
  | _, _, .non, _ => .non
  | _, _, .bl b, _ => .bl b
  | _, _, .int i, _ => .int i
  | _, _, .str s, _ => .str s
  | _, _, .tup n e r, h => .tup n (e.to fun _ q => by
      rw [upd_ne]; exact q
      rintro rfl
      rcases e with ⟨_, e⟩ | ⟨_, o, _, e⟩ <;> rw [hd] at e <;> cases e) (RDs.lock hd r (by simpa [noD] using h))
  | _, _, .lst n e r, h => .lst n (by
      rw [upd_ne]; exact e
      rintro rfl
      rw [hd] at e; cases e) (RDs.lock hd r (by simpa [noD] using h))
  | _, _, .dic n e r, h => by simp [noD] at h
  | _, _, .dit n e r, h => by simp [noD] at h
theorem RDs.lock (hd : H d = some (.dK kvs0)) : ∀ {v : List V} {x : List D}, RDs M H v x → noDs x = true → RDs M (upd H d u) v x
  | _, _, .nil, _ => .nil
  | _, _, .cons a r, h => by
    simp only [noDs, Bool.and_eq_true] at h
    exact .cons (RD.lock hd a h.1) (RDs.lock hd r h.2)
end
theorem RDk.lock (hd : H d = some (.dK kvs0)) : ∀ {v : List (Key × V)} {x : List (D × D)}, RDk M H v x → noDk x = true → RDk M (upd H d u) v x
  | _, _, .nil, _ => .nil
  | _, _, .cons a r, h => by
    simp only [noDk, Bool.and_eq_true] at h
    exact .cons (RD.lock hd a h.1) (RDk.lock hd r h.2)
theorem RDt.lock (hd : H d = some (.dK kvs0)) : ∀ {v : List KA} {x : List (D × D)}, RDt M H v x → noDk x = true → RDt M (upd H d u) v x
  | _, _, .nil, _ => .nil
  | _, _, .cons n e a r, h => by
    simp only [noDk, Bool.and_eq_true] at h
    exact .cons n (e.to fun _ q => by
      rw [upd_ne]; exact q
      rintro rfl
      rcases e with ⟨_, e⟩ | ⟨_, o, _, e⟩ <;> rw [hd] at e <;> cases e) (RD.lock hd a h.1) (RDt.lock hd r h.2)
theorem RF.lock (hd : H d = some (.dK kvs0)) : ∀ {gs : List (Str × V)} {fs : List (Str × D)}, RF M H gs fs → noDf fs = true → RF M (upd H d u) gs fs
  | _, _, .nil, _ => .nil
  | _ :: _, _ :: _, .cons ⟨e, r⟩ t, h => by
    simp only [noDf, List.all_cons, Bool.and_eq_true] at h
    exact .cons ⟨e, RD.lock hd r h.1⟩ (RF.lock hd t h.2)
theorem RFw.lock (hd : H d = some (.dK kvs0)) : ∀ {gs : List (Str × V)} {fs : List (Str × Sum Nat D)}, RFw M H gs fs → noDw fs = true → RFw M (upd H d u) gs fs
  | _, _, .nil, _ => .nil
  | _ :: _, (_, .inl n) :: _, .cons ⟨e, r⟩ t, h => .cons ⟨e, r⟩ (RFw.lock hd t h)
  | _ :: _, (_, .inr x) :: _, .cons ⟨e, r⟩ t, h => by
    simp only [noDw, Bool.and_eq_true] at h
    exact .cons ⟨e, RD.lock hd r h.1⟩ (RFw.lock hd t h.2)
theorem ROs.lock (hd : H d = some (.dK kvs0)) : ∀ {xs : List V} {os : List OI}, ROs M H xs os → noDo os = true → ROs M (upd H d u) xs os
  | _, _, .nil, _ => .nil
  | _ :: _, .ins _ _ :: _, .cons ⟨a, dx, gs, e, n, q, r⟩ t, h => by
    simp only [noDo, Bool.and_eq_true] at h
    refine .cons ⟨a, dx, gs, e, n, ?_, r.lock hd h.1⟩ (ROs.lock hd t h.2)
    rw [upd_ne]; exact q
    rintro rfl
    rw [hd] at q; cases q
  | _ :: _, .exc _ _ _ :: _, .cons _ _, h => by cases h
theorem RO.lock (hd : H d = some (.dK kvs0)) (hn : ¬ M.Has d) {a : Addr} (ha : M.Has a) {m : MO} (r : RO M H a m) (h : noDM (some m) = true) : RO M (upd H d u) a m := by
  have ne : a ≠ d := fun z => hn (z ▸ ha)
  cases m with
  | lst ds => obtain ⟨xs, e, r⟩ := r; exact ⟨xs, by rw [upd_ne ne]; exact e, r.lock hd h⟩
  | dic ds => obtain ⟨xs, e, r⟩ := r; exact ⟨xs, by rw [upd_ne ne]; exact e, r.lock hd h⟩
  | dit ds => obtain ⟨xs, e, r⟩ := r; exact ⟨xs, by rw [upd_ne ne]; exact e, r.lock hd h⟩
  | ins C fs => cases h
  | obj C fs => obtain ⟨dx, gs, e, r⟩ := r; exact ⟨dx, gs, by rw [upd_ne ne]; exact e, RFw.lock hd r h⟩
  | los os => obtain ⟨xs, e, r⟩ := r; exact ⟨xs, by rw [upd_ne ne]; exact e, ROs.lock hd r h⟩
  | dpk es => cases h
  | tab q P =>
    obtain ⟨z, ps, e, t, r⟩ := r
    refine ⟨z, ps, by rw [upd_ne ne]; exact e, t, fun pos cv hc => ?_⟩
    obtain ⟨c, e1, n, e2⟩ := r pos cv hc
    refine ⟨c, e1, n, ?_⟩
    rw [upd_ne]; exact e2
    rintro rfl
    rw [hd] at e2; cases e2
theorem Rep.lock {h : Hh} (r : Rep M H h) (hd : H d = some (.dK kvs0)) (hn : ¬ M.Has d) (hk : h.all noDM = true) : Rep M (upd H d u) h :=
  ⟨fun a m => ⟨(r.us a m).1, let ⟨w, e, ht⟩ := (r.us a m).2; ⟨w, by rw [upd_ne (fun z => hn (.inl (by rw [← z]; exact m)))]; exact e, ht⟩⟩, r.len, r.inj, fun i a e => by
    obtain ⟨m, hm, ro⟩ := r.at_ i a e
    exact ⟨m, hm, ro.lock hd hn (.inr (List.mem_of_getElem? e)) (List.all_eq_true.mp hk _ (List.mem_of_getElem? hm))⟩, r.dead⟩
end
section
variable {X : Cx}
theorem RDk.get {M : Mm} {H : Hp} : ∀ {kvs : List (Key × V)} {es : List (D × D)} {i : Nat} {e : D × D}, RDk M H kvs es → es[i]? = some e → ∃ k v, kvs[i]? = some (k, v) ∧ e.1 = kP k ∧ RD M H v e.2
  | _, _, _, _, .nil, e => by simp at e
  | _, _, 0, _, .cons r t, e => by simp at e; subst e; exact ⟨_, _, rfl, rfl, r⟩
  | _, _, i + 1, _, .cons r t, e => by
    obtain ⟨k, v, h1, h2⟩ := RDk.get (i := i) t (by simpa using e)
    exact ⟨k, v, by simpa using h1, h2⟩
end
end DL
set_option maxRecDepth 100000
set_option maxHeartbeats 1000000
namespace DL
open PySem PySem.Spec PyProof.Rows L2
variable [HW]
section
variable {X : Cx}
theorem RDk.vals {M : Mm} {H : Hp} : ∀ {kvs : List (Key × V)} {es : List (D × D)}, RDk M H kvs es → RDs M H (kvs.map (·.2)) (es.map (·.2))
  | _, _, .nil => .nil
  | _, _, .cons r t => .cons r t.vals
end
end DL
set_option maxRecDepth 100000
set_option maxHeartbeats 1000000
namespace DL
open PySem PySem.Spec PyProof.Rows L2
variable [HW]
section
variable {X : Cx}
def extendW (w : W) (ws : List W) (h : Hh) : Option (W × Hh) := match w, ws with
  | .ref n, [.dat (.list zs)] => match lstAt h n with
    | some ds => if ds.length + zs.length ≤ sizeLine then setL h n (ds ++ zs) .none else none
    | none => none
  | _, _ => none
theorem s_extend : SemM rExtend extendW := by
  intro M H h x w vs ws Q rep rx rv c
  unfold extendW at c
  split at c
  · rename_i n zs
    obtain ⟨a, ea, rfl⟩ := rx
    obtain ⟨v, rfl, r⟩ := rvs1 rv
    split at c
    · rename_i ds e
      obtain ⟨xs, ha, q⟩ := lstAt_ok rep e ea
      split at c
      · rename_i hz
        cases (show RD M H v _ from r) with
        | lst nb hb qb => exact ⟨a, _, xs, _, rfl, rfl, ha, hb, by rw [q.length, qb.length]; exact hz, setL_fin rep ea (q.app qb) .non c⟩
      · exact c.no.elim
    · exact c.no.elim
  · exact c.no.elim
end
end DL
set_option maxRecDepth 100000
set_option maxHeartbeats 1000000
namespace DL
open PySem PySem.Spec PyProof.Rows L2
variable [HW]
end DL
set_option maxRecDepth 100000
set_option maxHeartbeats 1000000
namespace DL
open PySem PySem.Spec PyProof.Rows L2
variable [HW]
end DL
set_option maxRecDepth 100000
set_option maxHeartbeats 1000000
namespace DL
open PySem PySem.Spec PyProof.Rows L2
variable [HW]
end DL
set_option maxRecDepth 100000
namespace DL
open PySem PySem.Spec PyProof.Rows L2
variable [HW]
end DL
set_option maxRecDepth 100000
set_option maxHeartbeats 1000000
namespace DL
open PySem PySem.Spec PyProof.Rows L2
variable [HW]
end DL
set_option maxRecDepth 100000
set_option maxHeartbeats 1000000
namespace DL
open PySem PySem.Spec PyProof.Rows L2
variable [HW]
end DL
set_option maxRecDepth 100000
set_option maxHeartbeats 1000000
namespace DL
open PySem PySem.Spec PyProof.Rows L2
variable [HW]
section
variable {X : Cx} {M : Mm} {H : Hp}
def insD (C : Addr) (w : W) (h : Hh) : Option (List (Str × D)) := match w with
  | .ins C' fs => if C' = C then some fs else none
  | .ref n => match h[n]? with
    | some (some (.ins C' fs)) => if C' = C then some fs else none
    | _ => none
  | _ => none
def dumF : List (Str × Sum Nat D) → List (Str × D)
  | [] => []
  | (k, .inl _) :: r => (k, .none) :: dumF r
  | (k, .inr d) :: r => (k, d) :: dumF r
def insF (C : Addr) (w : W) (h : Hh) : Option (List (Str × D)) := match w with
  | .ins C' fs => if C' = C then some fs else none
  | .ref n => match h[n]? with
    | some (some (.ins C' fs)) => if C' = C then some fs else none
    | some (some (.obj C' fs)) => if C' = C then some (dumF fs) else none
    | _ => none
  | _ => none
def fFld (C : Addr) (f : Str) (g : EM) : EM := fun ρ h => obnd (g ρ h) fun w h1 => match insD C w h1 with
  | some fs => match fs.lookup f with
    | some d => some (.dat d, h1)
    | none => none
  | none => none
def fMeth (C : Addr) (m : Str) (mm : FM) (go : EM) (ga : AM) : EM := fun ρ h => obnd (go ρ h) fun w h1 => match insF C w h1 with
  | some fs => match fs.lookup m with
    | some _ => none
    | none => obnd (ga ρ h1) fun ws h2 => mm (w :: ws) h2
  | none => none
def fMk (C : Addr) (mi : FM) (ga : AM) : EM := fun ρ h => obnd (ga ρ h) fun ws h1 => match mi (.ref h1.length :: ws) (h1 ++ [some (.ins C [])]) with
  | some (.dat .none, h2) => match h2[h1.length]? with
    | some (some (.ins C' fs)) => if C' = C then some (.ins C fs, h2.set h1.length none) else none
    | _ => none
  | _ => none
end
end DL
set_option maxRecDepth 100000
set_option maxHeartbeats 1000000
namespace DL
open PySem PySem.Spec PyProof.Rows L2
variable [HW]
def putT (es : List (D × D)) (k : List Key) (v : D) : List (D × D) := if (getT es k).isSome = true then es.map (fun e => if tKey e.1 = some k then (e.1, v) else e) else es ++ [(.tuple (k.map kP), v)]
section
variable {M : Mm} {H : Hp}
theorem rdt_len : ∀ {kvs : List KA} {es : List (D × D)}, RDt M H kvs es → kvs.length = es.length
  | _, _, .nil => rfl
  | _, _, .cons _ _ _ t => by rw [List.length_cons, List.length_cons, rdt_len t]
theorem rdt_snoc {k : List Key} {q : Addr} {v : V} {d : D} (n : ¬ M.Has q) (e : TupAt H q (k.map kV) (k.map kP)) (r : RD M H v d) : ∀ {kvs : List KA} {es : List (D × D)}, RDt M H kvs es → RDt M H (kvs ++ [(k, q, v)]) (es ++ [(.tuple (k.map kP), d)])
  | _, _, .nil => .cons n e r .nil
  | _, _, .cons n' e' a t => .cons n' e' a (rdt_snoc n e r t)
theorem rdt_repl {k : List Key} {v : V} {d : D} (q : RD M H v d) : ∀ {kvs : List KA} {es : List (D × D)}, RDt M H kvs es → RDt M H (kvs.map (replA k v)) (es.map fun e => if tKey e.1 = some k then (e.1, d) else e)
  | _, _, .nil => .nil
  | _, _, .cons (k := j) n e' a t => by
    simp only [List.map_cons, tKey, dKeys_kP, Option.some.injEq, replA]
    by_cases e : j = k
    · rw [if_pos e, if_pos e]; exact .cons n e' q (rdt_repl q t)
    · rw [if_neg e, if_neg e]; exact .cons n e' a (rdt_repl q t)
theorem rdt_put {kvs : List KA} {es : List (D × D)} (r : RDt M H kvs es) (k : List Key) {b : Addr} (n : ¬ M.Has b) (e : TupAt H b (k.map kV) (k.map kP)) {v : V} {d : D} (q : RD M H v d) : RDt M H (putA kvs k b v) (putT es k d) := by
  unfold putA putT
  rw [← valA_some, (r.val k).some_iff]
  split
  · exact rdt_repl q r
  · exact rdt_snoc n e q r
end
end DL
set_option maxRecDepth 100000
set_option maxHeartbeats 1000000
namespace DL
open PySem PySem.Spec PyProof.Rows L2
variable [HW]
end DL
set_option maxRecDepth 100000
set_option maxHeartbeats 1000000
namespace DL
open PySem PySem.Spec PyProof.Rows L2
variable [HW]
def keysTI (f : EM) : IM := fun ρ h => obnd (f ρ h) fun w h1 => match w with
  | .dat (.dict ((.none, .none) :: es)) => if es.all (fun e => !bareK e.1) = true then some (es.map (·.1), h1) else none
  | _ => none
section
variable {M : Mm} {H : Hp}
theorem rdt_get : ∀ {kvs : List KA} {es : List (D × D)} {i : Nat} {e : D × D}, RDt M H kvs es → es[i]? = some e → ∃ k q v, kvs[i]? = some (k, q, v) ∧ e.1 = .tuple (k.map kP) ∧ ¬ M.Has q ∧ TupAt H q (k.map kV) (k.map kP) ∧ RD M H v e.2
  | _, _, _, _, .nil, h => by simp at h
  | _, _, 0, _, .cons (k := k) (q := q) (v := v) n t r _, h => by
    simp at h; subst h; exact ⟨k, q, v, rfl, rfl, n, t, r⟩
  | _, _, i + 1, _, .cons _ _ r t, h => by
    obtain ⟨k, q, v, h1, h2⟩ := rdt_get (i := i) t (by simpa using h)
    exact ⟨k, q, v, by simpa using h1, h2⟩
theorem rd_keyP (k : Key) : RD M H (kV k) (kP k) := by
  cases k
  · exact .int _
  · exact .str _
theorem rds_keys : ∀ ks : List Key, RDs M H (ks.map kV) (ks.map kP)
  | [] => .nil
  | k :: ks => .cons (rd_keyP k) (rds_keys ks)
end
section
variable {X : Cx}
theorem di_keysT {tg e : Expr} {f : EM} (he : DE X e f) : DI X tg e (keysTI f) := (pi_keysX he).weak fun σ H R => by
  rintro ⟨M, h, ρ, ds, h', r, rs, e, q⟩
  unfold keysTI at e
  cases ef : f ρ h with
  | none => rw [ef] at e; cases e
  | some p =>
    obtain ⟨w, h1⟩ := p
    rw [ef] at e
    simp only [obnd_some] at e
    split at e
    · rename_i es
      split at e
      · rename_i hall
        cases e
        refine ⟨M, h, ρ, r, rs, _, _, ef, fun M1 H1 v x1 r1 v1 => ?_⟩
        cases (show RD M1 H1 v _ from v1) with
        | dic n e0 r0 =>
          have := isT_rdk r0
          simp [isT] at this
        | dit n ha qa =>
          rename_i a o kvs
          refine ⟨a, o, kvs, rfl, ha, q M1 H1 _ x1 r1 fun M2 H2 x tr => ?_⟩
          have ha2 := x.st n ha
          have q2 := qa.mono x
          refine ⟨fun i d e => ?_, ⟨ha2, by rw [List.length_map, rdt_len qa]; exact Nat.le_refl _⟩⟩
          rw [List.getElem?_map] at e
          obtain ⟨en, e1, rfl⟩ := Option.map_eq_some_iff.mp e
          obtain ⟨k, kq, v, e2, ek, nq, tq, rv⟩ := rdt_get q2 e1
          refine ⟨⟨ha2, lt_of_get e2⟩, fun y H3 hy => ?_⟩
          obtain ⟨rfl, k', kq', v', e3, rfl⟩ := hy
          rw [e2] at e3; cases e3
          rw [ek]
          exact ⟨same_refl', .tup nq tq (rds_keys k)⟩
      · cases e
    · cases e
end
end DL
set_option maxRecDepth 100000
set_option maxHeartbeats 1000000
namespace DL
open PySem PySem.W PySem.Calls PyProof.Rows PyProof.V PySem.Spec
variable [HW]
end DL
set_option maxRecDepth 100000
set_option maxHeartbeats 1000000
namespace DL
open PySem PySem.Spec PyProof.Rows L2
variable [HW]
end DL
set_option maxRecDepth 100000
set_option maxHeartbeats 1000000
namespace DL
open PySem PySem.Spec PyProof.Rows L2
variable [HW]
end DL
set_option maxRecDepth 100000
set_option maxHeartbeats 1000000
namespace DL
open PySem PySem.Spec PyProof.Rows L2
variable [HW]
end DL
set_option maxRecDepth 100000
set_option maxHeartbeats 1000000
namespace DL
open PySem PySem.Spec PyProof.Rows L2
variable [HW]
def tabsO (os : List (Option (Str × Addr × Addr))) : Hh := os.map fun o => o.map fun t => .tab t.1 t.2.2
theorem inj_O : ∀ (os : List (Option (Str × Addr × Addr))), ((os.filterMap id).map (·.2.2)).Nodup → ∀ {i j : Nat} {t1 t2 : Str × Addr × Addr}, os[i]? = some (some t1) → os[j]? = some (some t2) → t1.2.2 = t2.2.2 → i = j
  | [], _, i, j, t1, t2, h1, _, _ => by simp at h1
  | none :: os, nd, i, j, t1, t2, h1, h2, e => by
    cases i with
    | zero => simp at h1
    | succ i => cases j with
      | zero => simp at h2
      | succ j => exact congrArg (· + 1) (inj_O os nd (by simpa using h1) (by simpa using h2) e)
  | some t :: os, nd, i, j, t1, t2, h1, h2, e => by
    have nd' : (t.2.2 :: (os.filterMap id).map (·.2.2)).Nodup := nd
    obtain ⟨n1, n2⟩ := List.nodup_cons.mp nd'
    have inn : ∀ {k : Nat} {u : Str × Addr × Addr}, os[k]? = some (some u) → u.2.2 ∈ (os.filterMap id).map (·.2.2) := fun {k u} hk => List.mem_map.mpr ⟨u, List.mem_filterMap.mpr ⟨some u, List.mem_of_getElem? hk, rfl⟩, rfl⟩
    cases i with
    | zero => cases j with
      | zero => rfl
      | succ j =>
        simp at h1 h2
        subst h1
        exact (n1 (e ▸ inn h2)).elim
    | succ i => cases j with
      | zero =>
        simp at h1 h2
        subst h2
        exact (n1 (e ▸ inn h1)).elim
      | succ j => exact congrArg (· + 1) (inj_O os n2 (by simpa using h1) (by simpa using h2) e)
omit [HW] in
theorem walk_gO {l : PySem.W.OpenLaw} {k : Nat} {q : Program} {loose : List Str} {XP : (Str → Option Value) → Heap → Prop} {YP : World → Heap → Prop} {d : DefRec} {K : Params → PySem.W.Frag} {x : Str} {xs : List Str}
    (hn : l.most = some 63) (hdf : d.params.defaults = []) (hr : Room k callerA)
    (hY : ∀ (w : World) (h : Heap), YP w h → (K w.params).In h) (hnl : ∀ w : World, noList (K w.params) = true) (hrec : ∀ x ∈ xs, ((recsOf q).find? fun e => e.name == x).isSome = true)
    (F : ∀ (w : World) (mg : Str → Option Value) (fa : Addr) (h : Heap), (K w.params).In h → h.Ns mainGlobals mg → mg d.name = some (.ref fa) →
      ∃ (fd : FuncData) (os : List (Option (Str × Addr × Addr))) (m : FM), (∀ (s : Shared) (u : Value), BindsTo s fd ⟨[u], []⟩ [(x, u)]) ∧ (∀ t ∈ os.filterMap id, (∃ y ∈ xs, PySem.W.tabIn (K w.params) y = some (t.2.1, t.2.2)) ∧ (K w.params).lookup t.2.2 = none) ∧ ((os.filterMap id).map (·.2.2)).Nodup ∧
        (∀ base : Heap, (K w.params).In base → base.Ns mainGlobals mg → (∀ t ∈ os.filterMap id, LamX.TabB base mg t.2.1 t.2.2) → FnG l.prog w (K w.params) mg base CX0 k fa fd [x] (@spD (HW.mk l.prog w) m)) ∧
        ∀ ns : List Int, ns.length ≤ 63 → ∃ h', m [.scr ns] (tabsO os) = some (.dat (.bool true), h')) :
    PySem.W.WalkO q loose XP YP l.row.toRowW d [] (fun f vs => PySem.call f vs) := by
  apply Att.attach_call hn hdf
  intro w s₀ s₁ mg mb fa o pm cd doc a vs ns G Y ho hd hcd hmg hobj hints hlen hg
  letI : HW := HW.mk l.prog w
  have KX := hY w _ Y
  obtain ⟨fd, os, m, hb, hts, hnd, hF, hm⟩ := F w mg fa _ KX G.T.g hmg
  generalize hos : os.filterMap id = ts at hts hnd hF
  have hka : (K w.params).lookup a = none := by
    cases e : (K w.params).lookup a with
    | none => rfl
    | some u =>
      exfalso
      have e1 := KX a u e
      rw [hobj] at e1
      cases e1
      have := List.all_eq_true.mp (hnl w) _ (lookup_mem e)
      cases this
  have hT : ∀ p ∈ ts.map (·.2), PySem.W.CodeHd s₁.heap p.1 p.2 ∧ s₁.heap.get? p.2 = some { cls := .none, data := .fields #[] } := by
    intro p hp
    obtain ⟨t, ht, rfl⟩ := List.mem_map.mp hp
    obtain ⟨⟨y, hy, e⟩, _⟩ := hts t ht
    obtain ⟨dr, hdr⟩ := Option.isSome_iff_exists.mp (hrec y hy)
    exact PySem.W.tab_of G.T KX hdr e
  have nT : ∀ p ∈ ts.map (·.2), (K w.params).lookup p.2 = none := by
    intro p hp
    obtain ⟨t, ht, rfl⟩ := List.mem_map.mp hp
    exact (hts t ht).2
  refine law_gT (sp := spD m) (cs := ts.map (·.2)) KX G.T.g G.T.b G.T.builtins G.T.nolimit hg hT nT G.T.bmain hobj hints (Nat.le_trans hlen (by decide)) hr (fun base kb nb TB => hF base kb nb fun t ht => TB t.2 (List.mem_map.mpr ⟨t, ht, rfl⟩)) hb hka ?_
  intro H ha hH hna
  obtain ⟨ob, ha⟩ := ha
  obtain ⟨h', e⟩ := hm ns hlen
  have at_ : ∀ (i : Nat) (b : Addr), (os.map fun o => o.map fun t => t.2.2)[i]? = some (some b) → ∃ t, os[i]? = some (some t) ∧ t.2.2 = b ∧ t ∈ ts := by
    intro i b z
    rw [List.getElem?_map] at z
    cases y : os[i]? with
    | none => rw [y] at z; cases z
    | some o =>
      cases o with
      | none => rw [y] at z; simp at z
      | some t =>
        rw [y] at z; simp at z
        exact ⟨t, rfl, z, by rw [← hos]; exact List.mem_filterMap.mpr ⟨some t, List.mem_of_getElem? y, rfl⟩⟩
  have rep : Rep ⟨[], os.map fun o => o.map fun t => t.2.2⟩ H (tabsO os) := by
    refine ⟨fun a z => (by cases z), by simp [tabsO], fun i j b z1 z2 => ?_, fun i b z => ?_, fun i z => ?_⟩
    · obtain ⟨t1, y1, e1, _⟩ := at_ i b z1
      obtain ⟨t2, y2, e2, _⟩ := at_ j b z2
      exact inj_O os (by rw [hos]; exact hnd) y1 y2 (e1.trans e2.symm)
    · obtain ⟨t, y, rfl, ht⟩ := at_ i b z
      refine ⟨.tab t.1 t.2.2, by simp [tabsO, y], rfl, #[], hH t.2 (List.mem_map.mpr ⟨t, ht, rfl⟩), trivial, fun pos cv hc => ?_⟩
      have z : codeAmong pos [] = some cv := hc
      simp [codeAmong] at z
    · have z' : (os.map fun o => o.map fun t => t.2.2)[i]? = some none := z
      rw [List.getElem?_map] at z'
      cases y : os[i]? with
      | none => rw [y] at z'; cases z'
      | some o =>
        cases o with
        | none => simp [tabsO, y]
        | some t => rw [y] at z'; simp at z'
  have nh : ¬ Mm.Has ⟨[], os.map fun o => o.map fun t => t.2.2⟩ a := fun z => by
    rcases z with z | z
    · cases z
    · obtain ⟨o, ho, e⟩ := List.mem_map.mp (show some a ∈ os.map fun o => o.map fun t => t.2.2 from z)
      cases o with
      | none => cases e
      | some t =>
        apply hna
        rw [List.map_map]
        exact List.mem_map.mpr ⟨t, by rw [← hos]; exact List.mem_filterMap.mpr ⟨some t, ho, rfl⟩, Option.some.inj e⟩
  refine ⟨_, tabsO os, [.scr ns], rep, .cons ⟨a, ob, rfl, nh, ha⟩ .nil, .dat (.bool true), h', e, fun M' H' v _ _ r => ?_⟩
  cases (show RD M' H' v _ from r)
  rfl
section
variable {X : Cx}
def divBW := intW (fun _ j => decide (0 < j ∧ j < 1000000000000000000)) fun i j => i / j
theorem divBW_e (x y : W) (h : Hh) : divBW x y h = intW (fun _ j => decide (0 < j ∧ j < 1000000000000000000)) (fun i j => i / j) x y h := rfl
end
end DL
set_option maxRecDepth 100000
set_option maxHeartbeats 1000000
namespace DL
open PySem PySem.Spec PyProof.Rows L2
variable [HW]
section
variable {X : Cx}
def fDnT : EM := fun _ h => some (.ref h.length, h ++ [some (.dit [])])
theorem d_dnewT {pos : Pos} (W : HWX X := by exact ⟨rfl, rfl⟩) : DE X (.Dict [] [] pos) fDnT := (pe_dnewX W).weak fun σ H Q => by
  rintro ⟨M, h, ρ, r, rs, c⟩
  exact fun p np => Cont.fin c (ext_add np) (r.add np ⟨[], upd_same, .nil⟩) ⟨p, by simp [Mm.more, ← r.len], rfl⟩
def ditAt (h : Hh) (n : Nat) : Option (List (D × D)) := match h[n]? with
  | some (some (.dit es)) => some es
  | _ => none
theorem ditAt_ok {M : Mm} {H : Hp} {h : Hh} {n : Nat} {es : List (D × D)} {a : Addr} (rep : Rep M H h) (e : ditAt h n = some es) (ea : M.m[n]? = some (some a)) : ∃ kvs, H a = some (dtO a kvs) ∧ RDt M H kvs es := by
  obtain ⟨o, ho, ro⟩ := rep.at_ n a ea
  unfold ditAt at e
  rw [ho] at e
  cases o with
  | lst _ => cases e
  | dic _ => cases e
  | dit es' => cases e; exact ro
  | tab _ _ => cases e
  | ins _ _ => cases e
  | obj _ _ => cases e
  | los _ => cases e
  | dpk _ => cases e
def putTW (o i w : W) (h : Hh) : Option Hh := match o, i, w with
  | .ref n, .dat (.tuple ks), .dat d => match ditAt h n, dKeys ks with
    | some es, some k => if es.length < sizeLine ∧ pairD ks = false then some (h.set n (some (.dit (putT es k d)))) else none
    | _, _ => none
  | _, _, _ => none
def sPutT (f o i : EM) : SM := fun ρ h => sbnd (f ρ h) fun w h1 => sbnd (o ρ h1) fun a h2 => sbnd (i ρ h2) fun b h3 => match putTW a b w h3 with
  | some h4 => some (.nx ρ, h4)
  | none => none
theorem putT_imp {f o i : EM} : ∀ D σ H, tS (sPutT f o i) D σ H → tAsg (tE f) (L2.gSub (tE o) (tE i) rPutX) D σ H := fun D σ H => by
  rintro ⟨M, h, ρ, r, rs, p⟩
  obtain ⟨w, h1, e1, p1⟩ := p.bind
  refine ⟨M, h, ρ, r, rs, w, h1, e1, fun M1 H1 v x1 r1 v1 => ?_⟩
  obtain ⟨a, h2, e2, p2⟩ := p1.bind
  refine ⟨M1, h1, ρ, r1, rs.mono x1, a, h2, e2, fun M2 H2 v' x2 r2 v2 => ?_⟩
  obtain ⟨b, h3, e3, p3⟩ := p2.bind
  refine ⟨M2, h2, ρ, r2, (rs.mono x1).mono x2, b, h3, e3, fun M3 H3 v'' x3 r3 v3 => ?_⟩
  have ra := v2.mono x3
  have rw' := (v1.mono x2).mono x3
  unfold putTW at p3
  split at p3
  · rename_i h4 e4
    split at e4
    · rename_i n ks d
      obtain ⟨ad, ea, rfl⟩ := ra
      split at e4
      · rename_i es k' el ek
        obtain ⟨kvs, hx, q⟩ := ditAt_ok r3 el ea
        split at e4
        · rename_i hz
          obtain ⟨hz1, hz2⟩ := hz
          cases e4
          have := kP_dKeys ek
          subst this
          cases (show RD M3 H3 v'' (.tuple (k'.map kP)) from v3) with
          | tup nb hb rb =>
            rename_i kb xs
            rw [rds_kP rb] at hb
            refine ⟨ad, kvs, k', kb, rfl, rfl, hx, q.kx, hb.rd, by rw [rdt_len q]; exact hz1, ?_⟩
            have x4 := ext_set (H := H3) (o := dtO ad (putA kvs k' kb v)) ea
            have xx := ((x1.trans x2).trans x3).trans x4
            exact p3 M3 _ σ xx.same xx.ext (r3.set ea ⟨_, upd_same, (rdt_put q k' nb hb rw').mono x4.ext⟩) (rs.mono xx)
        · cases e4
      · cases e4
    · cases e4
  · exact p3.elim
theorem ds_putT {k : Nat} (hr : RG k X.A) {o i e : Expr} {pos tpos : Pos} {f fo fi : EM} (he : DE X e f) (ho : DE X o fo) (hi : DE X i fi) (h : X.A.units + 1 < cLine → PS X (.Assign [.Subscript o i tpos] e pos) (tAsg (tE f) (L2.gSub (tE fo) (tE fi) rPutX))) : DS X (.Assign [.Subscript o i tpos] e pos) (sPutT f fo fi) :=
  (h (by have := hr.room.un; omega)).weak putT_imp
end
end DL
set_option maxRecDepth 100000
set_option maxHeartbeats 1000000
namespace DL
open PySem PySem.Spec PyProof.Rows L2
variable [HW]
section
variable {X : Cx}
theorem key_keep {P : Program} {w : World} {h h' : Heap} {ks : List Key} {a : Addr} (e : (tupleKind (mixKind P w)).is h ks a) (k : ∀ o, h.get? a = some o → h'.get? a = some o) : (tupleKind (mixKind P w)).is h' ks a := by
  obtain ⟨o, its, n, h1, h2, h3, h4⟩ := e
  exact ⟨o, its, n, k _ h1, h2, h3, h4⟩
theorem pairs_kh {pins : List (Addr × Obj)} {σ : L2.St} {H : Hp} {s : Shared} (I : Inv X pins σ H s) : ∀ {ps : List Addr} {ks : List KA}, Paired (fun p (e : KA) => Rd H p (.tup [.ref e.2.1, e.2.2]) ∧ Rd H e.2.1 (.tup (e.1.map kV))) ps ks →
    ∃ (pv : List (Value × Value)) (prs : List (List Key × Addr × Value)), KR ks prs ∧ prs.length = ps.length ∧ pv.length = ps.length ∧
      ∀ (j : Nat) (k v : Value), pv[j]? = some (k, v) → ∃ b kk q, ps[j]? = some b ∧ IsTup s.heap b #[k, v] ∧ prs[j]? = some (kk, q, v) ∧ k = .ref q
  | _, _, .nil => ⟨[], [], .nil, rfl, rfl, fun j k v e => by cases j <;> cases e⟩
  | _, _, .cons (a := p) (b := kv) h t => by
    obtain ⟨pv, prs, r, h1, h2, h3⟩ := pairs_kh I t
    obtain ⟨its, rv, ht, _⟩ := I.tuple (.inl h.1)
    obtain ⟨u, y, rfl, ru, ry⟩ := vals2 rv
    have ru : u = Value.ref kv.2.1 := ru
    refine ⟨(u, y) :: pv, (kv.1, kv.2.1, y) :: prs, .cons ⟨rfl, rfl, ry⟩ r, congrArg (· + 1) h1, congrArg (· + 1) h2, fun j k v e => ?_⟩
    cases j with
    | zero => cases e; exact ⟨p, kv.1, kv.2.1, rfl, ht, rfl, ru⟩
    | succ j => exact h3 j k v e
theorem stored_nd : ∀ {ps xs : List (List Key × Addr × Value)}, ((xs ++ ps).map (·.1)).Nodup → storedAllH xs ps = xs ++ ps
  | [], xs, _ => by rw [List.append_nil]; rfl
  | p :: ps, xs, nd => by
    have e : atKey xs p.1 = none := by
      unfold atKey
      rw [Option.map_eq_none_iff, List.find?_eq_none]
      intro y hy z
      have z : y.1 = p.1 := of_decide_eq_true z
      rw [List.map_append, List.nodup_append] at nd
      exact nd.2.2 y.1 (List.mem_map.mpr ⟨y, hy, rfl⟩) p.1 (by simp) z
    have st : storedH xs p.1 p.2.1 p.2.2 = xs ++ [p] := by
      unfold storedH
      rw [e]
      rfl
    show storedAllH (storedH xs p.1 p.2.1 p.2.2) ps = _
    rw [st, stored_nd (by simpa using nd)]
    simp
theorem kr_keysU {ks : List KA} {xs : List (List Key × Addr × Value)} (r : KR ks xs) : xs.map (·.1) = ks.map (·.1) := by
  unfold KR at r
  induction r with
  | nil => rfl
  | cons h t ih => rw [List.map_cons, List.map_cons, ih, h.1]
def rDictH : List V → Hp → VK → Prop := fun xs H Q => ∃ (a : Addr) (ps : List Addr) (ks : List KA), xs = [.ref a] ∧ H a = some (.lst (ps.map V.ref)) ∧ Paired (fun p (e : KA) => Rd H p (.tup [.ref e.2.1, e.2.2]) ∧ Rd H e.2.1 (.tup (e.1.map kV))) ps ks ∧ (ks.map (·.1)).Nodup ∧
    ∀ p, H p = none → Q (.ref p) (upd H p (dtO p ks))
theorem call_dictH (hu : X.A.units + 2 < cLine) (W : HWX X) (hcalm : X.calm = true) : CallR X (.type "dict") rDictH := by
  intro pins s σ H xs us Q I r q
  obtain ⟨a, ps, ks, rfl, ha, hp, nd, q⟩ := q
  obtain ⟨u, rfl, rx⟩ := vals1 r
  cases rx
  obtain ⟨its, rv, pl, hz⟩ := I.list (.of ha)
  obtain rfl := refs_at rv
  rw [List.length_map] at hz
  obtain ⟨pv, prs, rel, h1, h2, h3⟩ := pairs_kh I hp
  obtain ⟨o, n, ho, hc, hd, hdat⟩ := pl
  have hlen : (ps.map Value.ref).toArray.size = pv.length := by simp [h2]
  have P := PairArg.list (prog := X.prog) (w := X.w) a (ps.map Value.ref).toArray (fun j => ps[j]?.getD 0) pv
  have keys : ∀ x ∈ prs, (tupleKind (mixKind X.prog X.w)).is s.heap x.1 x.2.1 := by
    have all : ∀ {ps : List Addr} {l : List KA} {m : List (List Key × Addr × Value)}, KR l m → Paired (fun p (e : KA) => Rd H p (.tup [.ref e.2.1, e.2.2]) ∧ Rd H e.2.1 (.tup (e.1.map kV))) ps l → ∀ x ∈ m, (tupleKind (mixKind X.prog X.w)).is s.heap x.1 x.2.1 := by
      intro ps l m r
      induction r generalizing ps with
      | nil => intro _ x hx; cases hx
      | @cons p q l m h t ih =>
        intro w x hx
        cases w with
        | cons w0 wt =>
          rcases List.mem_cons.mp hx with e | hx
          · subst e
            have := key_ofR I.hok w0.2
            rw [h.1, h.2.1] at this
            exact this
          · exact ih wt x hx
    exact all rel hp
  refine PySem.call_dict_pairsH (knd := tupleKind (mixKind X.prog X.w)) (ps := prs) P (I.ok.hd hcalm) (show (tupleKind (mixKind X.prog X.w)).room X.A.in1.in1 from by show X.A.units + 1 + 1 < cLine; omega)
    ⟨⟨o, n, ho, hc, hd, hdat⟩, hlen, fun j k v e => ?_⟩ ⟨by rw [h1, h2], fun i k v e => ?_⟩ (fun h' k x hx => key_keep (keys x hx) fun o e => k _ o (Nat.ne_of_lt (Heap.lt_size e)) (fun z => nomatch z) e) (by rw [h2]; exact hz) fun h' tk hd' k => ?_
  · obtain ⟨b, kk, q0, e1, e2, _⟩ := h3 j k v e
    exact ⟨by simp [e1], .inl (by show IsTup s.heap (ps[j]?.getD 0) _; rw [e1]; exact e2)⟩
  · obtain ⟨b, kk, q0, _, _, e3, e4⟩ := h3 i k v e
    exact ⟨kk, q0, e3, e4⟩
  · have hm : (s.heap.objs.size == sysModules) = false := beq_eq_false_iff_ne.mpr (Nat.ne_of_gt I.big)
    rw [stored_nd (by simpa [kr_keysU rel] using nd), List.nil_append] at hd'
    obtain ⟨o2, es2, ep2, g1, g2, g3, g4, _, g5⟩ := hd'
    have hk : ks.length ≤ sizeLine := by rw [rel.len, h1]; exact hz
    have fin : dtP X.prog X.w s.heap.objs.size ks h' := ⟨hk, hm, prs, rel, o2, es2, ep2, g1, g2, g3, g4, g5⟩
    refine ⟨.ref s.heap.objs.size, _, I.laid (t' := tk) (o := dtO s.heap.objs.size ks) (fun b o e => k b o (fun z => nomatch z) e) (Nat.le_refl _) ?_, rfl, q _ (I.hok.fresh (Nat.le_refl _))⟩
    rw [← W.1, ← W.2] at fin ⊢
    exact dtx_ok fin
end
def pairsT : List D → Option (List (List Key × D))
  | [] => some []
  | .tuple [.tuple ks, d] :: ds => match dKeys ks with
    | some k => (pairsT ds).map ((k, d) :: ·)
    | none => none
  | _ :: _ => none
def entT (p : List Key × D) : D × D := (.tuple (p.1.map kP), p.2)
def dictTW (ws : List W) (h : Hh) : Option (W × Hh) := match ws with
  | [w] => match deref h w with
    | some (.list ds) => match pairsT ds with
      | some es => if (es.map (·.1)).Nodup then some (.ref h.length, h ++ [some (.dit (es.map entT))]) else none
      | none => none
    | _ => none
  | _ => none
theorem pairsT_ok {M : Mm} {H : Hp} : ∀ {ds : List D} {es : List (List Key × D)} {xs : List V}, RDs M H xs ds → pairsT ds = some es → ∃ (ps : List Addr) (ks : List KA), xs = ps.map V.ref ∧ Paired (fun p (e : KA) => Rd H p (.tup [.ref e.2.1, e.2.2]) ∧ Rd H e.2.1 (.tup (e.1.map kV))) ps ks ∧ RDt M H ks (es.map entT) ∧ ks.map (·.1) = es.map (·.1)
  | _, es, _, .nil, e => by cases e; exact ⟨[], [], rfl, .nil, .nil, rfl⟩
  | _, es, _, .cons (v := v) (d := d) (ds := ds) a t, e => by
    unfold pairsT at e
    split at e
    · rename_i q; cases q
    · rename_i ks0 d0 ds' q
      cases q
      split at e
      · rename_i k ek
        obtain ⟨es', e1, rfl⟩ := Option.map_eq_some_iff.mp e
        obtain ⟨ps, ks, rfl, h1, h2, h3⟩ := pairsT_ok t e1
        have := kP_dKeys ek
        subst this
        cases a with
        | @tup b xs _ nb hb rb =>
          cases rb with
          | cons r1 r2 => cases r2 with
            | cons r2 r3 =>
              cases r3
              cases r1 with
              | @tup q ys _ nq hq rq =>
                have := rds_kP rq
                subst this
                exact ⟨b :: ps, (k, q, _) :: ks, rfl, .cons ⟨hb.rd, hq.rd⟩ h1, .cons nq hq r2 h2, by rw [List.map_cons, List.map_cons, h3]⟩
      · cases e
    · cases e
theorem s_dictT : SemA rDictH dictTW := by
  intro M H h vs ws Q rep rv c
  unfold dictTW at c
  split at c
  · obtain ⟨v, rfl, r⟩ := rvs1 rv
    split at c
    · rename_i ds e
      obtain ⟨a, xs, rfl, ha, q⟩ : ∃ a xs, v = .ref a ∧ H a = some (.lst xs) ∧ RDs M H xs ds := deref_rr rep r e
      split at c
      · rename_i es e2
        split at c
        · rename_i nd
          obtain ⟨ps, ks, rfl, h1, h2, h3⟩ := pairsT_ok q e2
          refine ⟨a, ps, ks, rfl, ha, h1, by rw [h3]; exact nd, fun p np => ?_⟩
          exact Cont.fin c (ext_add np) (rep.add np ⟨ks, upd_same, h2.mono (ext_add np).ext⟩) ⟨p, by simp [Mm.more, ← rep.len], rfl⟩
        · exact c.no.elim
      · exact c.no.elim
    · exact c.no.elim
  · exact c.no.elim
section
variable {X : Cx}
theorem d_dictT {k : Nat} (hr : RG k X.A) (hc : X.calm = true) (hm : X.mg "dict" = none) {p pos : Pos} {e : Expr} {g : AM} (ha : DA X [e] g) (hg : Gl X "dict" := by rfl) (he : starEach [e] X.env = (false, eval e X.env) :: starEach [] X.env := by rfl) (hpl : (backTo pos (starEach [] X.env)).any (·.1) = false := by rfl) (W : HWX X := by exact ⟨rfl, rfl⟩) : DE X (.Call (.Name "dict" p) [e] [] pos) (fA dictTW g) :=
  d_callT (call_dictH (by have := hr.room.un; omega) W hc) s_dictT hm (by decide +kernel) ha hg (by decide) (by decide) he hpl
end
def tListVX (td : TE) : TE := fun σ H Q => td σ H fun x H1 => ∃ a ks, x = .ref a ∧ Rd H1 a (dtO a ks) ∧ KX H1 ks ∧ ∀ p, H1 p = none → Q (.ref p) (upd H1 p (.lst (ks.map (·.2.2))))
theorem vals_atX {ks : List KA} {xs : List (List Key × Addr × Value)} {acc : Array Value} (rel : KR ks xs) (ha : ItemsOf (fun i v => ∃ y, xs[i]? = some y ∧ v = y.2.2) acc xs.length) : Vals (ks.map (·.2.2)) acc.toList := by
  have e : acc.toList = xs.map (·.2.2) := by
    apply List.ext_getElem?
    intro i
    by_cases hi : i < acc.size
    · obtain ⟨y, h1, h2⟩ := ha.2 i acc[i] (Array.getElem?_eq_getElem hi)
      rw [List.getElem?_map, h1, Array.getElem?_toList, Array.getElem?_eq_getElem hi, h2]
      rfl
    · rw [List.getElem?_eq_none (by rw [Array.length_toList]; omega), List.getElem?_eq_none (by rw [List.length_map, ← ha.1]; omega)]
  rw [e]
  unfold KR at rel
  clear ha e
  induction rel with
  | nil => exact .nil
  | cons h t ih => exact .cons h.2.2 ih
section
variable {X : Cx}
theorem kdl_valuesX {prog : Program} {w : World} {r d : Addr} {xs : List (List Key × Addr × Value)} {es : Array DictEntry} {ep : Nat} (hs : es.size = xs.length) (hx : ∀ i (hi : i < es.size), ∃ y, xs[i]? = some y ∧ es[i].key = .ref y.2.1 ∧ es[i].val = y.2.2) :
    PySem.W.KdlSrc prog w "dict_values" r d xs.length (fun i v => ∃ y, xs[i]? = some y ∧ v = y.2.2) (fun h => h.IsValuesView r d ∧ h.DictRaw d es ep) where
  type := fun _ hm => hm.1.typeIs
  there := fun _ hm => ⟨let ⟨_, ho, _⟩ := hm.1; Heap.lt_size ho, let ⟨_, ho, _⟩ := hm.2; Heap.lt_size ho⟩
  keep := fun _ _ hm hk => ⟨let ⟨o, ho, x⟩ := hm.1; ⟨o, hk r (.inl rfl) o ho, x⟩, hm.2.at fun o e => hk d (.inr rfl) o e⟩
  notList := by decide
  notTuple := by decide
  hint := fun _ _ _ _ hm hq => PySem.W.kdl_hint_values hm.1.typeIs hq
  iter := fun _ s hh hm => by
    rw [← hs]
    exact ⟨_, _, (fun _ _ hq => wpAny_pyIter_values_raw hm.1 hm.2 hq), Walks.valuesH hh _ d (Nat.ne_of_lt (let ⟨_, ho, _⟩ := hm.2; Heap.lt_size ho)) es ep hx, ⟨⟨_, Heap.get?_push_size _ rfl, rfl, rfl⟩, hm.2.at fun o e => Heap.get?_push_of_some _ e⟩⟩
theorem pe_listVX (W : HWX X) (hc : X.calm = true) {o : Expr} {p pos apos mpos : Pos} {td : TE} (hg : Gl X "list") (hm : X.mg "list" = none) (hd : PE X o td) (hb : attributeBase o "values" X.env (eval o X.env) = eval o X.env := by rfl) (hl : (apos.endLine == mpos.line) = true := by rfl)
    (hs : starEach [Expr.Call (.Attribute o "values" apos) [] [] mpos] X.env = (false, eval (Expr.Call (.Attribute o "values" apos) [] [] mpos) X.env) :: starEach [] X.env := by rfl) : PE X (.Call (.Name "list" p) [.Call (.Attribute o "values" apos) [] [] mpos] [] pos) (tListVX td) := by
  constructor
  intro pins s σ H Q I h
  refine wpAny_Call_Name_kw (ld_blt I hg hm (u := .type "list") (by decide +kernel) ?_ (by decide) (by decide))
  refine PyProof.Rows.callWith_type1 (PyProof.Rows.args_cons ?_ hs) hs rfl
  apply wpAny_Call_method0_late hb hl
  refine thn (hd.run pins s σ H _ I h) fun v s1 ⟨x, H1, I1, r1, a, ks, ex, ha, hk, q⟩ => ?_
  subst ex
  obtain rfl : v = Value.ref a := r1
  obtain ⟨hz, hsys, xs, rel, dof⟩ := dtxI W I1 ha hk
  obtain ⟨es, ep, raw, hsz, ent⟩ := dof.raw
  obtain ⟨ob, ho, exd, hdat⟩ := id raw
  have hlv : xs.length = ks.length := rel.len.symm
  refine ⟨"dict", "dict.values", F.plainAttrs_dict, F.slot_dict_values, F.type_dict_values, ⟨ob, ho, exd.1⟩, fun b e => by cases e; exact ⟨ob, ho, exd.2.1⟩, Calls.callWith_builtin rfl (PySem.evalArgs_none ?_)⟩
  refine call_meetsIn F.slot_dict_values ⟨ob, ho, exd.1⟩ F.entry_dict_values (F.args_dict_values_1 _) (meets_dict_values_raw a hsys) ⟨⟨es, ep, raw⟩, ?_⟩
  have k1 : ∀ b u, s1.heap.get? b = some u → (s1.heap.push { cls := .type "dict_values", data := .fields #[.ref a] }).get? b = some u := fun b u e => Heap.get?_push_of_some _ e
  have I2 : Inv X pins σ H1 { s1 with heap := s1.heap.push { cls := .type "dict_values", data := .fields #[.ref a] } } := I1.kept (t' := s1.toks) k1
  have vw : (s1.heap.push { cls := .type "dict_values", data := .fields #[.ref a] }).get? s1.heap.objs.size = some { cls := .type "dict_values", data := .fields #[.ref a] } := Heap.get?_push_size _ rfl
  refine PyProof.Rows.args_nil ?_
  refine PySem.W.kdl_call (s := { s1 with heap := s1.heap.push { cls := .type "dict_values", data := .fields #[.ref a] } }) (kdl_valuesX (r := s1.heap.objs.size) (d := a) (xs := xs) (ep := ep) hsz fun i hi => let ⟨y, h1, h2, h3, _⟩ := ent i hi; ⟨y, h1, h2, h3⟩) (I.ok.hd hc) ⟨⟨_, vw, rfl, rfl⟩, raw.at fun o e => k1 _ o e⟩ (by rw [hlv]; exact hz) fun h' tk acc c' hk hD hacc => ?_
  have hv := vals_atX rel hacc
  refine ⟨.ref (s1.heap.push { cls := .type "dict_values", data := .fields #[.ref a] }).objs.size, upd H1 (s1.heap.push { cls := .type "dict_values", data := .fields #[.ref a] }).objs.size (.lst (ks.map (·.2.2))), I2.laid (t' := tk) hk (Nat.le_refl _)
    (show ObjOk X.prog X.w _ _ _ (.lst (ks.map (·.2.2))) from ⟨by rw [List.length_map]; exact hz, acc.toList, c', hv, by rw [Array.toArray_toList]; exact hD⟩), rfl, q _ (I2.hok.fresh (Nat.le_refl _))⟩
end
end DL
set_option maxRecDepth 100000
set_option maxHeartbeats 1000000
namespace DL
open PySem PySem.Spec PyProof.Rows L2
variable [HW]
end DL
set_option maxRecDepth 100000
set_option maxHeartbeats 1000000
namespace DL
open PySem PySem.Spec PyProof.Rows L2
variable [HW]
end DL
set_option maxRecDepth 100000
set_option maxHeartbeats 400000
namespace DL
open PySem PySem.Spec PyProof.Rows L2
variable [HW]
abbrev Xc := Nat × Addr × List (Str × D)
def XR (M : Mm) (H : Hp) (cls : Value) (d : Option Addr) (x : Xc) : Prop := ∃ gs, cls = .ref x.2.1 ∧ XD M H d gs ∧ RF M H gs x.2.2
theorem XR.mono {M M' : Mm} {H H' : Hp} {cls : Value} {d : Option Addr} {x : Xc} (e : Ext M M' H H') : XR M H cls d x → XR M' H' cls d x
  | ⟨gs, q, y, z⟩ => ⟨gs, q, y.to (fun _ _ q n => e.out n q) fun _ _ q _ n => e.st n q, z.to fun _ _ => RD.mono e⟩
abbrev RE := Env → Hh → Option (Xc × Hh)
abbrev RM := Env → Hh → Option ((Env × Xc) × Hh)
def RPost (W : WX) (M0 : Mm) (H0 : Hp) : Option ((Env × Xc) × Hh) → Prop
  | some ((ρ, x), h) => ∀ M H σ cls d, M.u = M0.u → Ext M0 M H0 H → Rep M H h → RS M H ρ σ → XR M H cls d x → W cls d σ H
  | none => False
theorem RPost.mono {W : WX} {M0 M1 : Mm} {H0 H1 : Hp} {r : Option ((Env × Xc) × Hh)} (p : RPost W M0 H0 r) (u : M1.u = M0.u) (x : Ext M0 M1 H0 H1) : RPost W M1 H1 r := by
  match r, p with
  | some ((ρ, y), h), p => exact fun M H σ cls d e z => p M H σ cls d (e.trans u) (x.trans z)
end DL
set_option maxRecDepth 100000
set_option maxHeartbeats 400000
namespace DL
open PySem PySem.Spec PyProof.Rows L2
variable [HW]
abbrev FR := List W → Hh → Option (Xc × Hh)
theorem XR.sub {M M' : Mm} {H : Hp} {cls : Value} {d : Option Addr} {x : Xc} (s : ∀ b, M'.Has b → M.Has b) : XR M H cls d x → XR M' H cls d x
  | ⟨gs, q, y, z⟩ => ⟨gs, q, y.to (fun b _ _ n m => n (s b m)) (fun _ _ q _ _ => q), z.to fun _ _ => RD.sub s⟩
end DL
set_option maxRecDepth 100000
set_option maxHeartbeats 400000
namespace DL
open PySem PySem.Spec PyProof.Rows L2
variable [HW]
theorem all_cons {α : Type} {P : α → Prop} {a : α} {l : List α} (h : P a) (t : ∀ x ∈ l, P x) : ∀ x ∈ a :: l, P x := fun x m => by
  rcases List.mem_cons.mp m with rfl | m
  · exact h
  · exact t x m
end DL
set_option maxRecDepth 100000
set_option maxHeartbeats 400000
namespace DL
open PySem PySem.Spec PyProof.Rows L2
variable [HW]
section
variable {X : Cx} {a : Addr} {pn pins : List (Addr × Obj)} {σ : L2.St} {H : Hp} {s : Shared} {E : Value → Shared → Prop}
structure EC (K : PySem.W.Frag) (C : Addr) : Prop where
  hg : PySem.W.findIn K (.ref C) "__getattribute__" = some (some (.builtin "BaseException.__getattribute__"))
  hk : PySem.W.findIn K (.ref C) "__getattr__" = some none
  hs : PySem.W.subIn K (.ref C) (.type "BaseException") = some true
  hd : PySem.W.hasDictIn K C = true
  ha : PySem.W.findIn K (.ref C) "__class__" = some (some (.builtin "object.__class__"))
  hn : PySem.W.specialIn K (.builtin "object.__class__") "__get__" = some (some (.builtin "getset_descriptor.__get__"))
  ht : PySem.W.takesIn K (.builtin "object.__class__") = some true
  hm : PySem.W.mroIn K C (.type "object") = some true
theorem EC.cl {K : PySem.W.Frag} {C : Addr} (e : EC K C) : (PySem.W.clsIn K C).isSome = true := by
  obtain ⟨cd, hc, _⟩ := PySem.W.any_some e.hd
  rw [hc]; rfl
end
section
variable {X : Cx} {e : Expr} {f : EM} {p pt pos : Pos} {ks : List (Nat × Addr)} {ys : List Nat}
inductive ClsPA (X : Cx) : List Expr → List V → List Value → Prop
  | nil : ClsPA X [] [] []
  | cons {x : Str} {np : Pos} {C : Addr} {es : List Expr} {cs : List V} {us : List Value} : X.mg x = some (.ref C) → ClsPA X es cs us → (hg : Gl X x := by rfl) → (hd : (x == ("__debug__" : Str)) = false := by decide) →
      (hs : starEach (.Name x np :: es) X.env = (false, eval (.Name x np) X.env) :: starEach es X.env := by rfl) → ClsPA X (.Name x np :: es) (.ref C :: cs) (.ref C :: us)
  | consB {x : Str} {np : Pos} {T : String} {es : List Expr} {cs : List V} {us : List Value} : X.mg x = none → bootBuiltins x = some (.type T) → ClsPA X es cs us → (hg : Gl X x := by rfl) → (hn : x ≠ "__name__" := by decide) → (hd : (x == ("__debug__" : Str)) = false := by decide) →
      (hs : starEach (.Name x np :: es) X.env = (false, eval (.Name x np) X.env) :: starEach es X.env := by rfl) → ClsPA X (.Name x np :: es) (.ty T :: cs) (.type T :: us)
theorem ClsPA.cv : ∀ {es : List Expr} {cs : List V} {us : List Value}, ClsPA X es cs us → Paired ClsV cs us
  | _, _, _, .nil => .nil
  | _, _, _, .cons _ t _ _ _ => .cons (.own _) t.cv
  | _, _, _, .consB _ _ t _ _ _ _ => .cons (.ty _) t.cv
end
end DL
set_option maxRecDepth 100000
set_option maxHeartbeats 1000000
namespace DL
open PySem PySem.Spec PyProof.Rows L2
variable [HW]
end DL
set_option maxRecDepth 100000
set_option maxHeartbeats 1000000
namespace DL
open PySem PySem.Spec PyProof.Rows L2
variable [HW]
section
open PySem.W PySem.Calls
variable {prog : Program} {w : World} {A : Around} {E : Value → Shared → Prop} {s : Shared}
end
end DL
set_option maxRecDepth 100000
set_option maxHeartbeats 1000000
namespace DL
open PySem PySem.Spec PyProof.Rows L2
variable [HW]
end DL
set_option maxRecDepth 100000
set_option maxHeartbeats 400000
namespace DL
open PySem PySem.Spec PyProof.Rows L2
variable [HW]
end DL
set_option maxRecDepth 100000
set_option maxHeartbeats 1000000
namespace DL
open PySem PySem.Spec PyProof.Rows L2
variable [HW]
def OI.w : OI → W
  | .ins C fs => .ins C fs
  | .exc k C fs => .exc k C fs
end DL
set_option maxRecDepth 100000
set_option maxHeartbeats 1000000
namespace DL
open PySem PySem.Spec PyProof.Rows L2
variable [HW]
end DL
set_option maxRecDepth 100000
set_option maxHeartbeats 1000000
namespace DL
open PySem PySem.Spec PyProof.Rows L2
variable [HW]
end DL
set_option maxRecDepth 100000
set_option maxHeartbeats 1000000
namespace DL
open PySem PySem.Spec PyProof.Rows L2
variable [HW]
end DL
set_option maxRecDepth 100000
set_option maxHeartbeats 1000000
namespace DL
open PySem PySem.Spec PyProof.Rows L2
variable [HW]
end DL
set_option maxRecDepth 100000
set_option maxHeartbeats 1000000
namespace DL
open PySem PySem.Spec PyProof.Rows L2
variable [HW]
end DL
set_option maxRecDepth 100000
set_option maxHeartbeats 4000000
namespace DL
open PySem PySem.Spec PyProof.Rows L2
variable [HW]
end DL
set_option maxRecDepth 100000
set_option maxHeartbeats 4000000
namespace DL
open PySem PySem.Spec PyProof.Rows L2
variable [HW]
end DL
set_option maxRecDepth 100000
set_option maxHeartbeats 400000
namespace DL
open PySem PySem.Spec PyProof.Rows L2
variable [HW]
end DL
set_option maxRecDepth 100000
set_option maxHeartbeats 1000000
namespace DL
open PySem PySem.Spec PyProof.Rows L2
variable [HW]
end DL
set_option maxRecDepth 100000
set_option maxHeartbeats 4000000
namespace DL
open PySem PySem.Spec PyProof.Rows L2
variable [HW]
end DL
set_option maxRecDepth 100000
set_option maxHeartbeats 1000000
namespace DL
open PySem PySem.Spec PyProof.Rows L2
variable [HW]
end DL
set_option maxRecDepth 100000
set_option maxHeartbeats 4000000
namespace DL
open PySem PySem.Spec PyProof.Rows L2
variable [HW]
end DL
set_option maxRecDepth 100000
set_option maxHeartbeats 4000000
namespace DL
open PySem PySem.Spec PyProof.Rows L2
variable [HW]
end DL
set_option maxRecDepth 100000
set_option maxHeartbeats 4000000
namespace DL
open PySem PySem.Spec PyProof.Rows L2
variable [HW]
end DL
set_option maxRecDepth 100000
set_option maxHeartbeats 4000000
namespace DL
open PySem PySem.Spec PyProof.Rows L2
variable [HW]
section
variable {X : Cx}
theorem Vals.dropLast : ∀ {xs : List V} {vs : List Value}, Vals xs vs → Vals xs.dropLast vs.dropLast
  | _, _, .nil => .nil
  | _, _, .cons r .nil => .nil
  | _, _, .cons r (.cons r2 t) => .cons r (Vals.dropLast (.cons r2 t))
end
end DL
set_option maxRecDepth 100000
set_option maxHeartbeats 1000000
namespace DL
open PySem PySem.Spec PyProof.Rows L2
variable [HW]
end DL
set_option maxRecDepth 100000
set_option maxHeartbeats 1000000
namespace DL
open PySem PySem.Spec PyProof.Rows L2
variable [HW]
end DL
set_option maxRecDepth 100000
set_option maxHeartbeats 1000000
namespace DL
open PySem PySem.Spec PyProof.Rows L2
variable [HW]
end DL
set_option maxRecDepth 100000
set_option maxHeartbeats 1000000
namespace DL
open PySem PySem.Spec PyProof.Rows L2
variable [HW]
end DL
set_option maxRecDepth 100000
set_option maxHeartbeats 4000000
namespace DL
open PySem PySem.Spec PyProof.Rows L2
variable [HW]
end DL
set_option maxRecDepth 100000
set_option maxHeartbeats 4000000
namespace DL
open PySem PySem.Spec PyProof.Rows L2
variable [HW]
section
variable {X : Cx} {C : Addr} {k : Nat} {ps : List Str} {qual : Str} {st : Stmt} {mm : FM} {pos : Pos}
theorem RG.one {A : Around} (hr : RG (k + 1) A) : RG k A.in1 := ⟨hr.room.in1, hr.gd⟩
end
end DL
set_option maxRecDepth 100000
set_option maxHeartbeats 1000000
namespace DL
open PySem PySem.Spec PyProof.Rows L2
variable [HW]
end DL
set_option maxRecDepth 100000
set_option maxHeartbeats 1000000
namespace DL
open PySem PySem.Spec PyProof.Rows L2
variable [HW]
end DL
set_option maxRecDepth 100000
set_option maxHeartbeats 1000000
namespace DL
open PySem PySem.Spec PyProof.Rows L2
variable [HW]
end DL
set_option maxRecDepth 100000
set_option maxHeartbeats 1000000
namespace DL
open PySem PySem.Spec PyProof.Rows L2
variable [HW]
end DL
set_option maxRecDepth 100000
set_option maxHeartbeats 1000000
namespace DL
open PySem PySem.Spec PyProof.Rows L2
variable [HW]
end DL
set_option maxRecDepth 100000
set_option maxHeartbeats 1000000
namespace DL
open PySem PySem.Spec PyProof.Rows L2
variable [HW]
end DL
set_option maxRecDepth 100000
set_option maxHeartbeats 1000000
namespace DL
open PySem PySem.Spec PyProof.Rows L2
variable [HW]
end DL
set_option maxRecDepth 100000
set_option maxHeartbeats 1000000
namespace DL
open PySem PySem.Spec PyProof.Rows L2
variable [HW]
end DL
set_option maxRecDepth 100000
set_option maxHeartbeats 1000000
namespace DL
open PySem PySem.Spec PyProof.Rows L2
variable [HW]
end DL
set_option maxRecDepth 100000
set_option maxHeartbeats 1000000
namespace DL
open PySem PySem.Spec PyProof.Rows L2
variable [HW]
end DL
set_option maxRecDepth 100000
set_option maxHeartbeats 1000000
namespace PySem
namespace HandSPX
open Builtin Builtin.ObjectAttr
end HandSPX
end PySem
namespace DL
open PySem PySem.Spec PyProof.Rows L2
variable [HW]
end DL
set_option maxRecDepth 100000
set_option maxHeartbeats 1000000
namespace DL
open PySem PySem.Spec PyProof.Rows L2
open scoped Classical
variable [HW]
end DL
set_option maxRecDepth 100000
set_option maxHeartbeats 1000000
namespace DL
open PySem PySem.Spec PyProof.Rows L2
variable [HW]
def tupX (ws : List W) (h : Hh) : Option (W × Hh) := match packs ws with
  | some its => if its.length ≤ sizeLine then some (.tpk its, h) else none
  | none => none
section
variable {X : Cx}
theorem d_tupX {x1} {es : List Expr} {pos : Pos} {g : AM} (hg : DA X es g) : DE X (.Tuple es x1 pos) (fA tupX g) := (pe_tup hg).weak fun σ H Q => by
  rintro ⟨M, h, ρ, r, rs, c⟩
  obtain ⟨w, h1, e1, c1⟩ := Cont.bind (δ := Unit) c
  refine ⟨M, h, ρ, r, rs, w, h1, e1, fun M1 H1 v x1 r1 v1 => ?_⟩
  have c2 := c1 M1 H1 x1
  unfold tupX at c2
  split at c2
  · rename_i ds e
    have q := rvs_packs v1 e
    split at c2
    · rename_i hz
      refine ⟨by rw [q.length]; exact hz, fun p np => ?_⟩
      exact c2.fin (ext_new np) (r1.upd_new np) ⟨p, v, rfl, r1.new np, upd_same, q.move (fun _ _ z => z) fun _ _ => RD.mono (ext_new np).ext⟩
    · exact c2.no.elim
  · exact c2.no.elim
end
end DL
set_option maxRecDepth 100000
set_option maxHeartbeats 1000000
namespace DL
open PySem PySem.Spec PyProof.Rows L2
variable [HW]
def listVXW (m : Bool) (w : W) (h : Hh) : Option (W × Hh) := match deref h w with
  | some (.dict es) => if isT es = true then mkL m (es.tail.map (·.2)) h else none
  | _ => none
def fListVX (m : Bool) (f : EM) : EM := fun ρ h => obnd (f ρ h) fun w h1 => listVXW m w h1
theorem RDt.vals {M : Mm} {H : Hp} : ∀ {kvs : List KA} {es : List (D × D)}, RDt M H kvs es → RDs M H (kvs.map (·.2.2)) (es.map (·.2))
  | _, _, .nil => .nil
  | _, _, .cons _ _ r t => .cons r t.vals
section
variable {X : Cx}
theorem d_listVX (hc : X.calm = true) (m : Bool) {o : Expr} {p pos apos mpos : Pos} {f : EM} (hm : X.mg "list" = none) (hd : DE X o f) (W : HWX X := by exact ⟨rfl, rfl⟩) (hg : Gl X "list" := by rfl) (hb : attributeBase o "values" X.env (eval o X.env) = eval o X.env := by rfl) (hl : (apos.endLine == mpos.line) = true := by rfl)
    (hs : starEach [Expr.Call (.Attribute o "values" apos) [] [] mpos] X.env = (false, eval (Expr.Call (.Attribute o "values" apos) [] [] mpos) X.env) :: starEach [] X.env := by rfl) : DE X (.Call (.Name "list" p) [.Call (.Attribute o "values" apos) [] [] mpos] [] pos) (fListVX m f) :=
  (pe_listVX W hc hg hm hd hb hl hs).weak fun σ H Q => by
    rintro ⟨M, h, ρ, r, rs, c⟩
    obtain ⟨w, h1, e1, c1⟩ := Cont.bind (δ := Unit) c
    refine ⟨M, h, ρ, r, rs, w, h1, e1, fun M1 H1 v x1 r1 v1 => ?_⟩
    have c2 := c1 M1 H1 x1
    unfold listVXW at c2
    split at c2
    · rename_i es q
      split at c2
      · rename_i ht
        rcases deref_rr r1 v1 q with ⟨a, kvs, rfl, ha, rk⟩ | ⟨a, kvs, es', rfl, rfl, ha, rt⟩
        · rw [isT_rdk rk] at ht; cases ht
        · exact ⟨a, kvs, rfl, ha, rt.kx, fun p np => mkL_fin r1 np rt.vals c2⟩
      · exact c2.no.elim
    · exact c2.no.elim
end
def dpkI (es : List (List Key × Nat)) : List (List Key × Sum Nat D) := es.map fun e => (e.1, .inl e.2)
def lcK (k : TM) (f : EM) (ρ : Env) : List D → Hh → Option (List (List Key × Nat) × Hh)
  | [], h => some ([], h)
  | d :: ds, h => match k (.dat d) ρ h with
    | some ρ1 => obnd (f ρ1 h) fun w h1 => match w with
      | .tpk [.inr (.tuple ks), .inl n] => match dKeys ks with
        | some key => obnd (lcK k f ρ ds h1) fun r h2 => some ((key, n) :: r, h2)
        | none => none
      | _ => none
    | none => none
def fDictK (gi : IM) (k : TM) (f : EM) (vs : List Nat) : EM := fun ρ h => obnd (gi ρ h) fun ds h1 => obnd (lcK k f (wipeE ρ vs) ds h1) fun es h2 =>
  if es.length ≤ sizeLine ∧ (es.map (·.1)).Nodup then some (.ref h2.length, h2 ++ [some (.dpk (dpkI es))]) else none
def RTK (M : Mm) (H : Hp) (v : V) (e : List Key × Nat) : Prop := ∃ t q b, v = .ref t ∧ ¬ M.Has t ∧ H t = some (.tup [.ref q, .ref b]) ∧ ¬ M.Has q ∧ TupAt H q (e.1.map kV) (e.1.map kP) ∧ M.m[e.2]? = some (some b)
abbrev RTKs (M : Mm) (H : Hp) (vs : List V) (es : List (List Key × Nat)) : Prop := Paired (RTK M H) vs es
theorem RTK.to {M M' : Mm} {H H' : Hp} (hn : ∀ b o, H b = some o → ¬ M.Has b → ¬ M'.Has b) (he : ∀ b o, H b = some o → ¬ M.Has b → H' b = some o) (hm : ∀ (n : Nat) (a : Addr), M.m[n]? = some (some a) → M'.m[n]? = some (some a)) {v : V} {e : List Key × Nat} : RTK M H v e → RTK M' H' v e := by
  rintro ⟨t, q, b, e1, n1, h1, n2, h2, h3⟩
  obtain ⟨_, h2'⟩ := h2.some_
  exact ⟨t, q, b, e1, hn _ _ h1 n1, he _ _ h1 n1, hn _ _ h2' n2, h2.to fun o z => he _ _ z n2, hm _ _ h3⟩
theorem RTKs.mono {M M' : Mm} {H H' : Hp} (x : ExtE M M' H H') {vs : List V} {es : List (List Key × Nat)} (r : RTKs M H vs es) : RTKs M' H' vs es :=
  Paired.mapP r fun v e => RTK.to (fun _ _ q n => x.ext.out n q) (fun _ _ q n => x.ext.st n q) fun n a z => by rw [x.pre n (lt_of_get z)]; exact z
theorem RTKs.off {M : Mm} {H : Hp} {p : Addr} {o : HO} (hp : p ∈ M.u) {vs : List V} {es : List (List Key × Nat)} (r : RTKs M H vs es) : RTKs M (upd H p o) vs es :=
  Paired.mapP r fun v e => RTK.to (fun _ _ _ n => n) (fun _ _ q n => by rw [upd_ne (fun z => n (.inl (by rw [z]; exact hp)))]; exact q) fun _ _ z => z
theorem RTKs.sub {M M' : Mm} {H : Hp} (x : ∀ a, M'.Has a → M.Has a) (hm : ∀ (n : Nat) (a : Addr), M.m[n]? = some (some a) → M'.m[n]? = some (some a)) {vs : List V} {es : List (List Key × Nat)} (r : RTKs M H vs es) : RTKs M' H vs es :=
  Paired.mapP r fun v e => RTK.to (fun _ _ _ n z => n (x _ z)) (fun _ _ q _ => q) hm
theorem RTKs.items {M : Mm} {H : Hp} : ∀ {vs : List V} {es : List (List Key × Nat)}, RTKs M H vs es → ∃ (ps : List Addr) (ks : List KA), vs = ps.map V.ref ∧ Paired (fun p (e : KA) => Rd H p (.tup [.ref e.2.1, e.2.2]) ∧ Rd H e.2.1 (.tup (e.1.map kV))) ps ks ∧ RKw M H ks (dpkI es) ∧ ks.map (·.1) = es.map (·.1)
  | _, _, .nil => ⟨[], [], rfl, .nil, .nil, rfl⟩
  | _, e :: _, .cons ⟨t, q, b, e1, n1, h1, n2, h2, h3⟩ r => by
    obtain ⟨ps, ks, rfl, g1, g2, g3⟩ := RTKs.items r
    exact ⟨t :: ps, (e.1, q, .ref b) :: ks, by rw [e1]; rfl, .cons ⟨.inl h1, h2.rd⟩ g1, .cons ⟨rfl, ⟨n2, h2⟩, b, rfl, .inl h3⟩ g2, by rw [List.map_cons, List.map_cons, g3]⟩
theorem Paired.snoc' {α β : Type} {F : α → β → Prop} {a : α} {b : β} (h : F a b) : ∀ {l₁ : List α} {l₂ : List β}, Paired F l₁ l₂ → Paired F (l₁ ++ [a]) (l₂ ++ [b])
  | _, _, .nil => .cons h .nil
  | _, _, .cons x t => .cons x (Paired.snoc' h t)
theorem dictK_imp {gi : IM} {k : TM} {f : EM} {ts vs : List Nat} (hs : ∀ j ∈ ts, j ∈ vs) : ∀ σ H Q, tE (fDictK gi k f vs) σ H Q → tLc (tI gi) (tGd ts k) (tT bYes) (tE f) vs σ H fun x H1 => rDictH [x] H1 Q := fun σ H Q => by
  rintro ⟨M, h, ρ, r, rs, c⟩
  obtain ⟨ds, h1, e1, c1⟩ := Cont.bind (δ := Unit) c
  refine ⟨M, h, ρ, ds, h1, r, rs, e1, fun M1 H1 J x1 r1 it D nD => ?_⟩
  obtain ⟨out, h2, e2, c2⟩ := Cont.bind (δ := Unit) (c1 M1 H1 x1)
  have x0 := ext_made (M := M1) (o := .lst []) nD
  have r0 := r1.make (o := .lst []) nD
  have rs0 : RS (M1.made D) (upd H1 D (.lst [])) (wipeE ρ vs) (L2.wipe σ vs) := ((rs.mono x1).moveu x0 rfl).wipe vs
  let P : Nat → Hp → Prop := fun i Hi => ∃ mi hi acc dacc rest, ExtE M1 ⟨M1.u, mi⟩ H1 Hi ∧ Rep ⟨D :: M1.u, mi⟩ Hi hi ∧ RS ⟨D :: M1.u, mi⟩ Hi (wipeE ρ vs) (L2.wipe σ vs) ∧ Hi D = some (.lst acc) ∧ RTKs ⟨D :: M1.u, mi⟩ Hi acc dacc ∧ lcK k f (wipeE ρ vs) (ds.drop i) hi = some (rest, h2) ∧ dacc ++ rest = out
  have outok : out.length ≤ sizeLine ∧ (out.map (·.1)).Nodup := by
    have c3 := c2 M1 H1 (.refl _ _)
    by_cases hz : out.length ≤ sizeLine ∧ (out.map (·.1)).Nodup
    · exact hz
    · rw [if_neg hz] at c3; exact c3.no.elim
  refine ⟨fun i n Hi => n + i = ds.length ∧ P i Hi, ⟨ds.length, by omega, M1.m, h1, [], [], out, (ExtE.refl M1 H1).beside nD, r0, rs0, upd_same, .nil, by rw [List.drop_zero]; exact e2, rfl⟩, fun i n Hi w => ?_⟩
  obtain ⟨hn, mi, hi, acc, dacc, rest, xi, ri, rsi, hD, qa, el, eo⟩ := w
  have inD : D ∈ (⟨D :: M1.u, mi⟩ : Mm).u := List.mem_cons_self
  have itx := xi.into nD
  obtain ⟨ity, its⟩ := it _ Hi itx fun a ha => ri.tracked ha
  by_cases hlt : i < ds.length
  · refine .inr ?_
    have ed : ds[i]? = some ds[i] := List.getElem?_eq_getElem hlt
    obtain ⟨go, yl⟩ := ity i _ ed
    rw [List.drop_eq_getElem_cons hlt] at el
    refine ⟨go, P (i + 1), fun H' p => ⟨n - 1, by omega, by omega, p⟩, fun x H2 hy => ?_⟩
    obtain ⟨sm, rx⟩ := yl x H2 hy
    obtain ⟨ri2, xi2⟩ := ri.grow sm
    unfold lcK at el
    split at el
    · rename_i ρ1 ek
      refine ⟨_, hi, wipeE ρ vs, .dat ds[i], ρ1, ri2, rsi.mono xi2, rx, ek, fun σ2 rs2 l2 o2 => ⟨wipe_of (by rw [l2, L2.wipe_length]) o2 hs, ?_⟩⟩
      refine ⟨_, hi, ρ1, ri2, rs2, true, hi, rfl, fun M3 H3 b' x3 r3 eb => ?_⟩
      subst eb
      obtain ⟨u3, m3⟩ := M3
      obtain rfl : u3 = D :: M1.u := x3.same
      have xi3 : ExtE M1 ⟨M1.u, m3⟩ H1 H3 := xi.trans ((xi2.trans x3).reu M1.u)
      have hD3 : H3 D = some (.lst acc) := x3.stab _ _ (sm _ _ hD) fun z => (ri.us D inD).1 z
      refine iteT ?_
      cases ef : f ρ1 hi with
      | none => rw [ef] at el; cases el
      | some pr =>
        obtain ⟨w, h4⟩ := pr
        rw [ef] at el
        simp only [obnd_some] at el
        refine ⟨_, hi, ρ1, r3, rs2.mono x3, w, h4, ef, fun M4 H4 y x4 r4 ry => ?_⟩
        obtain ⟨u4, m4⟩ := M4
        obtain rfl : u4 = D :: M1.u := x4.same
        have hD4 : H4 D = some (.lst acc) := x4.stab _ _ hD3 fun z => (r3.us D List.mem_cons_self).1 z
        split at el
        · rename_i ks nn
          split at el
          · rename_i key ekey
            cases er : lcK k f (wipeE ρ vs) (ds.drop (i + 1)) h4 with
            | none => rw [er] at el; cases el
            | some pr =>
              obtain ⟨rest', h5⟩ := pr
              rw [er] at el
              simp only [obnd_some, Option.some.injEq, Prod.mk.injEq] at el
              obtain ⟨e5, e6⟩ := el
              subst e5 e6
              have q4 := ((qa.mono xi2).mono x3).mono x4
              have hlen : acc.length < sizeLine := by
                have h7 := congrArg List.length eo
                rw [List.length_append, List.length_cons] at h7
                have := Paired.length qa
                omega
              have in4 : D ∈ (⟨D :: M1.u, m4⟩ : Mm).u := List.mem_cons_self
              have one : RTK ⟨D :: M1.u, m4⟩ H4 y (key, nn) := by
                have := kP_dKeys ekey
                subst this
                obtain ⟨a, xs, rfl, na, ha, rp⟩ := (show ∃ a xs, y = .ref a ∧ ¬ Mm.Has ⟨D :: M1.u, m4⟩ a ∧ H4 a = some (.tup xs) ∧ RPs ⟨D :: M1.u, m4⟩ H4 xs [.inr (.tuple (key.map kP)), .inl nn] from ry)
                cases rp with
                | dat rq rp =>
                  cases rp with
                  | ref eb rp =>
                    cases rp
                    cases rq with
                    | @tup q ys _ nq hq rq =>
                      have := rds_kP rq
                      subst this
                      exact ⟨a, q, _, rfl, na, ha, nq, hq, eb⟩
              exact ⟨acc, hD4, hlen, m4, h4, acc ++ [y], dacc ++ [(key, nn)], rest', (xi3.trans (x4.reu M1.u)).beside nD, r4.off in4, (((rsi.mono xi2).mono x3).mono x4).off in4, upd_same, Paired.snoc' (RTK.to (fun _ _ _ n => n) (fun _ _ q n => by rw [upd_ne (fun z => n (.inl (by rw [z]; exact in4)))]; exact q) (fun _ _ z => z) one) (q4.off in4), er, by rw [List.append_assoc]; exact eo⟩
          · cases el
        · cases el
    · cases el
  · refine .inl ?_
    have hi' : i = ds.length := by omega
    subst hi'
    rw [List.drop_length] at el
    cases el
    rw [List.append_nil] at eo
    subst eo
    refine ⟨its, ?_⟩
    have c3 := c2 M1 H1 (.refl _ _)
    rw [if_pos outok] at c3
    have nu : D ∉ M1.u := fun z => r1.new nD (.inl z)
    have told := ri.told
    have qs : RTKs ⟨M1.u, mi⟩ Hi acc dacc := qa.sub less_has fun _ _ z => z
    obtain ⟨ps, ks, rfl, g1, g2, g3⟩ := qs.items
    refine ⟨D, ps, ks, rfl, hD, g1, by rw [g3]; exact outok.2, fun p np => ?_⟩
    have xa : ExtE ⟨M1.u, mi⟩ (Mm.more ⟨M1.u, mi⟩ p) Hi (upd Hi p (dtO p ks)) := ext_add np
    exact c3.fin (xi.trans xa) (told.add np ⟨ks, upd_same, g2.to (fun b xs ds n t => ⟨let ⟨_, q⟩ := t.some_; xa.ext.out n q, t.to fun _ q => xa.ext.st n q⟩) (fun n m z q => .inl (by rw [xa.pre n (lt_of_get q)]; exact q)) fun _ _ => RD.mono xa.ext⟩) ⟨p, by show (mi ++ [some p])[h2.length]? = _; rw [← show mi.length = h2.length from told.len]; simp, rfl⟩
section
variable {X : Cx}
theorem d_dictK {k' : Nat} (hr : RG k' X.A) (hc : X.calm = true) (hmg : X.mg "dict" = none) {elt tg iter : Expr} {scope : Scope} {own : List (Str × Nat)} {p cpos pos : Pos} {gi : IM} {ts : List Nat} {k : TM} {f : EM} (hN : X.N.Nodup) (hi : DI X tg iter gi) (ok : BlkOk X.N X.env.scope scope own)
    (hg : ∀ (s : Shared) (H : Hp) (C : Addr) (cl : List (Str × Addr)) (fp : List Addr), DG (X.blk s H scope (compEnvC scope cl C X.env) fp) tg ts k)
    (he : ∀ (s : Shared) (H : Hp) (C : Addr) (cl : List (Str × Addr)) (fp : List Addr), DE (X.blk s H scope (compEnvC scope cl C X.env) fp) elt f) (hsub : ∀ j ∈ ts, j ∈ own.map (·.2)) (W : HWX X := by exact ⟨rfl, rfl⟩) (hs : ∀ x, foldedSetIterable iter X.env x = pure x := by intro _; rfl)
    (hgl : Gl X "dict" := by rfl) (hst : starEach [Expr.ListComp elt [⟨tg, iter, [], 0⟩] scope cpos] X.env = (false, eval (Expr.ListComp elt [⟨tg, iter, [], 0⟩] scope cpos) X.env) :: starEach [] X.env := by rfl) (hpl : (backTo pos (starEach [] X.env)).any (·.1) = false := by rfl) :
    DE X (.Call (.Name "dict" p) [.ListComp elt [⟨tg, iter, [], 0⟩] scope cpos] [] pos) (fDictK gi k f (own.map (·.2))) :=
  (pe_callTy (call_dictH (by have := hr.room.un; omega) W hc) hgl hmg (by decide +kernel) (pa_cons (pe_lc hc hN hi ok hg (fun s H C cl fp => dts_nil) he hs) pa_nil hst) (by decide) (by decide) hst hpl).weak fun σ H Q q => dictK_imp hsub σ H Q q
end
end DL
set_option maxRecDepth 100000
set_option maxHeartbeats 1000000
namespace DL
open PySem PySem.Spec PyProof.Rows L2
variable [HW]
def atK (es : List (List Key × Sum Nat D)) (k : List Key) : Option (Sum Nat D) := (es.find? fun e => decide (e.1 = k)).map (·.2)
section
variable {M : Mm} {H : Hp}
theorem rkw_at {k : List Key} {z : Sum Nat D} : ∀ {kvs : List KA} {es : List (List Key × Sum Nat D)}, RKw M H kvs es → atK es k = some z → ∃ v, valA kvs k = some v ∧ RC M H v z
  | _, _, .nil, e => by cases e
  | p :: kvs, q :: es, .cons h t, e => by
    unfold atK at e
    unfold valA atA
    simp only [List.find?_cons] at e ⊢
    have h1 : p.1 = q.1 := h.1
    rw [h1]
    by_cases c : q.1 = k
    · simp only [c, decide_true, Option.map_some, Option.some.injEq] at e ⊢
      exact ⟨_, rfl, by rw [← e]; exact h.2.2⟩
    · simp only [c, decide_false] at e ⊢
      obtain ⟨v, h2, h3⟩ := rkw_at t (by unfold atK; exact e)
      exact ⟨v, by unfold valA atA at h2; exact h2, h3⟩
theorem rkw_kx : ∀ {kvs : List KA} {es : List (List Key × Sum Nat D)}, RKw M H kvs es → KX H kvs
  | _, _, .nil => KX.nil
  | _, _, .cons h t => fun p hp => by
    rcases List.mem_cons.mp hp with z | z
    · subst z; exact h.2.1.2.rd
    · exact rkw_kx t p z
theorem rkw_get {j : Nat} {k : List Key} {z : Sum Nat D} : ∀ {kvs : List KA} {es : List (List Key × Sum Nat D)}, RKw M H kvs es → es[j]? = some (k, z) → ∃ p, kvs[j]? = some p ∧ RC M H p.2.2 z := by
  intro kvs es r
  unfold RKw at r
  induction r generalizing j with
  | nil => intro e; simp at e
  | cons h t ih =>
    intro e
    cases j with
    | zero => simp at e; subst e; exact ⟨_, rfl, h.2.2⟩
    | succ j => exact ih (by simpa using e)
theorem rkw_set {j : Nat} {k : List Key} {z z' : Sum Nat D} : ∀ {kvs : List KA} {es : List (List Key × Sum Nat D)}, RKw M H kvs es → es[j]? = some (k, z) → (∀ p, kvs[j]? = some p → RC M H p.2.2 z') → RKw M H kvs (es.set j (k, z')) := by
  intro kvs es r
  unfold RKw at r ⊢
  induction r generalizing j with
  | nil => intro _ _; exact .nil
  | cons h t ih =>
    intro e hv
    cases j with
    | zero => simp at e; subst e; exact .cons ⟨h.1, h.2.1, hv _ rfl⟩ t
    | succ j => exact .cons h (ih (by simpa using e) fun p hp => hv p (by simpa using hp))
end
def idxK (x y : W) (h : Hh) : Option (W × Hh) := match x with
  | .ref n => match h[n]? with
    | some (some (.dpk es)) => match y with
      | .dat (.tuple ks) => match dKeys ks with
        | some k => match atK es k with
          | some (.inl m) => match h[m]? with
            | some (some _) => some (.ref m, h)
            | _ => none
          | some (.inr d) => some (.dat d, h)
          | none => none
        | none => none
      | _ => none
    | _ => idxW (.ref n) y h
  | x => idxW x y h
theorem s_idxK {X : Cx} : Sem2 (fun x y H Q => rIx X.K x y H Q ∨ rIxDict x y H Q) idxK := by
  intro M H h x y wx wy Q rep rx ry c
  unfold idxK at c
  split at c
  · rename_i n
    split at c
    · rename_i es en
      obtain ⟨a, ea, rfl⟩ := rx
      obtain ⟨o, ho, ro⟩ := rep.at_ n a ea
      rw [en] at ho
      cases ho
      obtain ⟨kvs, ha, rk⟩ := ro
      split at c
      · rename_i ks
        split at c
        · rename_i k ek
          have := kP_dKeys ek
          subst this
          cases (show RD M H y (.tuple (k.map kP)) from ry) with
          | @tup q ys _ nq hq rq =>
            have := rds_kP rq
            subst this
            split at c
            · rename_i m ez
              obtain ⟨v, ev, b, rfl, hb⟩ := rkw_at rk ez
              split at c
              · rename_i o em
                have hb : M.m[m]? = some (some b) := by
                  rcases hb with z | z
                  · exact z
                  · rw [rep.dead m z] at em; cases em
                exact .inr ⟨a, .ref b, rfl, .inr ⟨kvs, k, q, .inl ha, rkw_kx rk, rfl, hq.rd, ev.symm⟩, c.fin (.refl _ _) rep ⟨b, hb, rfl⟩⟩
              · exact c.no.elim
            · rename_i d ez
              obtain ⟨v, ev, rv⟩ := rkw_at rk ez
              exact .inr ⟨a, v, rfl, .inr ⟨kvs, k, q, .inl ha, rkw_kx rk, rfl, hq.rd, ev.symm⟩, c.fin (.refl _ _) rep (show RD M H v d from rv)⟩
            · exact c.no.elim
        · exact c.no.elim
      · exact c.no.elim
    · exact s_idx M H h x y _ wy Q rep rx ry c
  · exact s_idx M H h x y _ wy Q rep rx ry c
theorem d_idxK {X : Cx} {k : Nat} (hr : Room k X.A) {a b : Expr} {pos : Pos} {f g : EM} (ha : DE X a f) (hb : DE X b g) (hs : PlainIx b) (W : HWX X := by exact ⟨rfl, rfl⟩) : DE X (.Subscript a b pos) (f2 idxK f g) :=
  (pe_ix (ix_seq.or (ix_dict (hu_of hr) W)) ha hb hs).weak (op_imp s_idxK)
def tKeep (t : TS) : TS := fun D σ H => ∃ d u, H d = some u ∧ Mut (some u) ∧ ∀ od, t D σ (upd H d (.frz od u))
theorem pss_keep {X : Cx} {sts : List Stmt} {t : TS} (h : PSs X sts t) : PSs X sts (tKeep t) := by
  refine ⟨fun pins s σ H D I hw => ?_⟩
  obtain ⟨d, u, hd, mu, hw⟩ := hw
  obtain ⟨od, I1⟩ := I.lock hd mu
  exact h.run pins s σ _ _ I1 (hw od)
section
variable {M : Mm} {H : Hp} {h : Hh}
theorem ext_frzT {n : Nat} {a : Addr} {u : HO} (e : M.m[n]? = some (some a)) : Ext M ⟨M.u, M.m.set n none⟩ H (upd H a u) where
  us := fun _ m => .inl m
  trk := trk_upd
  stab := fun b o q nb => by rw [upd_ne (fun z => nb (by rw [z]; exact List.mem_of_getElem? e))]; exact q
  fresh := (ext_frz (M := M) (H := H) (n := n)).fresh
  len := (ext_frz (M := M) (H := H) (n := n)).len
  kill := (ext_frz (M := M) (H := H) (n := n)).kill
theorem Rep.frzT {n : Nat} {a : Addr} {u : HO} (rep : Rep M H h) (e : M.m[n]? = some (some a)) : Rep ⟨M.u, M.m.set n none⟩ (upd H a u) (h.set n none) := by
  have r1 := rep.frz e
  refine ⟨fun b z => ?_, r1.len, r1.inj, fun i b q => ?_, r1.dead⟩
  · obtain ⟨h1, o, ho, t⟩ := rep.us b z
    have ne : b ≠ a := fun z => h1 (by rw [z]; exact List.mem_of_getElem? e)
    exact ⟨(r1.us b z).1, o, by rw [upd_ne ne]; exact ho, t⟩
  · have hk : n ≠ i := fun z => by
      subst z
      have q' : (M.m.set n none)[n]? = some (some b) := q
      rw [List.getElem?_set_self (lt_of_get e)] at q'
      cases q'
    have q' : M.m[i]? = some (some b) := by
      have z : (M.m.set n none)[i]? = some (some b) := q
      rwa [List.getElem?_set_ne hk] at z
    have ne : b ≠ a := fun z => hk (rep.inj n i a e (z ▸ q'))
    obtain ⟨o, ho, ro⟩ := rep.at_ i b q'
    exact ⟨o, by rw [List.getElem?_set_ne hk]; exact ho, ro.move (ext_frzT e) (upd_ne ne)⟩
theorem RV.frzT {n : Nat} {a : Addr} {u : HO} {v : V} {w : W} (e : M.m[n]? = some (some a)) (rv : RV M H v w) (hn : ¬ isR n (some w) = true) : RV ⟨M.u, M.m.set n none⟩ (upd H a u) v w := by
  have x : Ext M ⟨M.u, M.m.set n none⟩ H (upd H a u) := ext_frzT e
  cases w with
  | dat d => exact RD.mono x rv
  | ins C fs =>
    obtain ⟨b, u, gs, e1, n1, q1, r1⟩ := rv
    exact ⟨b, u, gs, e1, x.out n1 q1, x.st n1 q1, r1.to fun _ _ => RD.mono x⟩
  | exc k C fs =>
    obtain ⟨b, d, gs, e1, r1⟩ := rv
    exact ⟨b, d, gs, e1, r1.to (fun _ _ q n => x.out n q) (fun _ _ q _ n => x.st n q) fun _ _ => RD.mono x⟩
  | objs os => exact RWs.to rv (fun _ _ q n => x.out n q) (fun _ _ q _ n => x.st n q) fun _ _ => RD.mono x
  | pack its => exact absurd rfl hn
  | tpk its =>
    obtain ⟨b, xs, e1, n1, q1, r1⟩ := rv
    exact ⟨b, xs, e1, x.out n1 q1, x.st n1 q1, r1.moveI (fun _ _ => RD.mono x) fun m hm' a' ea' => by
      have hne := isR_tpk hn m hm'
      show (M.m.set n none)[m]? = _
      rw [List.getElem?_set_ne (Ne.symm hne)]; exact ea'⟩
  | lock es =>
    obtain ⟨b, u, kvs, e1, n1, q1, r1⟩ := rv
    exact ⟨b, u, kvs, e1, x.out n1 q1, x.st n1 q1, r1.mono x⟩
  | scr ns =>
    obtain ⟨b, u, e1, n1, q1⟩ := rv
    exact ⟨b, u, e1, x.out n1 q1, x.st n1 q1⟩
  | ref k =>
    obtain ⟨b, eb, rfl⟩ := rv
    have hk : n ≠ k := fun z => by
      subst z
      exact hn (by simp [isR])
    exact ⟨b, by show (M.m.set n none)[k]? = _; rw [List.getElem?_set_ne hk]; exact eb, rfl⟩
theorem RS.frzK {n : Nat} {a : Addr} {u : HO} {ρ : Env} {σ : L2.St} (rs : RS M H ρ σ) (e : M.m[n]? = some (some a)) (hn : ¬ (ρ.any (isR n)) = true) : RS ⟨M.u, M.m.set n none⟩ (upd H a u) ρ σ :=
  ⟨rs.1, fun j w q => by
    obtain ⟨v, ev, rv⟩ := rs.2 j w q
    exact ⟨v, ev, rv.frzT e fun z => hn (List.any_eq_true.mpr ⟨_, List.mem_of_getElem? q, z⟩)⟩⟩
theorem upd_eq {a : Addr} {u : HO} (e : H a = some u) : upd H a u = H := funext fun b => by
  by_cases z : b = a
  · subst z; rw [upd_same, e]
  · rw [upd_ne z]
theorem Rep.re {n : Nat} {a : Addr} {o : MO} (rep : Rep M H h) (e : M.m[n]? = some (some a)) (ro : RO M H a o) : Rep M H (h.set n (some o)) := by
  obtain ⟨u, hu⟩ := ro.some_
  have q := rep.set (o := u) (m := o) e (by rw [upd_eq hu]; exact ro)
  rwa [upd_eq hu] at q
end
def sFrzE (i j : Nat) (f : SM) : SM := fun ρ h => match ρ[i]? with
  | some (some (.ref n)) => match h[n]? with
    | some (some (.dpk es)) => match es[j]? with
      | some (k, .inl m) => match h[m]? with
        | some (some (.dit es')) => if ρ.any (isR m) = true then none else f ρ ((h.set m none).set n (some (.dpk (es.set j (k, .inr (.dict ((.none, .none) :: es')))))))
        | _ => none
      | _ => none
    | _ => none
  | _ => none
theorem ds_frzE {X : Cx} {sts : List Stmt} {f : SM} (i j : Nat) (hd : DSs X sts f) : DSs X sts (sFrzE i j f) := PSs.weak (pss_keep hd) fun D σ H => by
  rintro ⟨M, h, ρ, rep, rs, p⟩
  unfold sFrzE at p
  split at p
  · rename_i n er
    split at p
    · rename_i es eo
      split at p
      · rename_i k m ej
        split at p
        · rename_i es' em
          split at p
          · exact p.elim
          · rename_i hn
            obtain ⟨v, ev, a, ea, rfl⟩ := rs.2 i _ er
            obtain ⟨o', ho', ro⟩ := rep.at_ n a ea
            rw [eo] at ho'
            cases ho'
            obtain ⟨kvs, ha, rk⟩ := ro
            obtain ⟨pj, hpj, b, hv, hb⟩ := rkw_get rk ej
            have hb : M.m[m]? = some (some b) := by
              rcases hb with z | z
              · exact z
              · rw [rep.dead m z] at em; cases em
            obtain ⟨o2, ho2, ro2⟩ := rep.at_ m b hb
            rw [em] at ho2
            cases ho2
            obtain ⟨kv2, hb2, rt⟩ := ro2
            have hnm : m ≠ n := fun z => by subst z; rw [em] at eo; cases eo
            refine ⟨b, _, hb2, trivial, fun od => ?_⟩
            have x : Ext M ⟨M.u, M.m.set m none⟩ H (upd H b (.frz od (dtO b kv2))) := ext_frzT hb
            have ea1 : (M.m.set m none)[n]? = some (some a) := by rw [List.getElem?_set_ne hnm]; exact ea
            have hne : a ≠ b := fun z => hnm (rep.inj m n b hb (z ▸ ea))
            have rk1 : RKw ⟨M.u, M.m.set m none⟩ (upd H b (.frz od (dtO b kv2))) kvs es := rk.to (fun b xs ds n t => ⟨let ⟨_, q⟩ := t.some_; x.out n q, t.to fun _ q => x.st n q⟩) (fun n _ z q => by rw [← q]; exact x.kill n (lt_of_get q)) fun _ _ => RD.mono x
            have rk2 := rkw_set (z' := .inr (.dict ((.none, .none) :: es'))) rk1 ej fun p hp => by
              rw [hpj] at hp
              cases hp
              show RD _ _ pj.2.2 _
              rw [hv]
              exact RD.dit (not_set rep hb) upd_same (rt.mono x)
            exact ⟨⟨M.u, M.m.set m none⟩, _, ρ, (rep.frzT hb).re (o := .dpk (es.set j (k, .inr (.dict ((.none, .none) :: es'))))) ea1 ⟨kvs, by rw [upd_ne hne]; exact ha, rk2⟩, rs.frzK hb hn, p.mono rfl x⟩
        · exact p.elim
      · exact p.elim
    · exact p.elim
  · exact p.elim
def frzN (i : Nat) (f : SM) : Nat → SM
  | 0 => f
  | j + 1 => sFrzE i j (frzN i f j)
theorem ds_frzN {X : Cx} {sts : List Stmt} {f : SM} (i : Nat) (hd : DSs X sts f) : ∀ j, DSs X sts (frzN i f j)
  | 0 => hd
  | j + 1 => ds_frzE i j (ds_frzN i hd j)
def datK : List (List Key × Sum Nat D) → Option (List (D × D))
  | [] => some []
  | (k, .inr d) :: es => (datK es).map ((.tuple (k.map kP), d) :: ·)
  | _ :: _ => none
theorem datK_ok {M : Mm} {H : Hp} : ∀ {kvs : List KA} {es : List (List Key × Sum Nat D)} {ds : List (D × D)}, RKw M H kvs es → datK es = some ds → RDt M H kvs ds
  | _, _, _, .nil, e => by cases e; exact .nil
  | (k1, q1, v1) :: _, (k2, .inr d) :: _, ds, .cons h t, e => by
    obtain ⟨ds', e1, rfl⟩ := Option.map_eq_some_iff.mp e
    obtain ⟨h1, h2, h3⟩ := h
    have h1 : k1 = k2 := h1
    subst h1
    exact .cons h2.1 h2.2 h3 (datK_ok t e1)
  | _, (k2, .inl d) :: _, ds, .cons h t, e => by cases e
def sFrzO (i : Nat) (f : SM) : SM := fun ρ h => match ρ[i]? with
  | some (some (.ref n)) => match h[n]? with
    | some (some (.dpk es)) => match datK es with
      | some ds => if (ρ.set i none).any (isR n) = true then none else f (ρ.set i (some (.dat (.dict ((.none, .none) :: ds))))) (h.set n none)
      | none => none
    | _ => none
  | _ => none
theorem ds_frzO {X : Cx} {sts : List Stmt} {f : SM} (i : Nat) (hd : DSs X sts f) : DSs X sts (sFrzO i f) := PSs.weak (pss_keep hd) fun D σ H => by
  rintro ⟨M, h, ρ, rep, rs, p⟩
  unfold sFrzO at p
  split at p
  · rename_i n er
    split at p
    · rename_i es eo
      split at p
      · rename_i ds ed
        split at p
        · exact p.elim
        · rename_i hn
          obtain ⟨v, ev, a, ea, rfl⟩ := rs.2 i _ er
          obtain ⟨o', ho', ro⟩ := rep.at_ n a ea
          rw [eo] at ho'
          cases ho'
          obtain ⟨kvs, ha, rk⟩ := ro
          have rt := datK_ok rk ed
          refine ⟨a, _, ha, trivial, fun od => ?_⟩
          have x : Ext M ⟨M.u, M.m.set n none⟩ H (upd H a (.frz od (dtO a kvs))) := ext_frzT ea
          refine ⟨_, _, _, rep.frzT ea, ⟨by simp [rs.1], fun j w q => ?_⟩, p.mono rfl x⟩
          by_cases hj : i = j
          · subst hj
            rw [List.getElem?_set_self (lt_of_get er)] at q
            cases q
            exact ⟨_, ev, RD.dit (not_set rep ea) upd_same (rt.mono x)⟩
          · rw [List.getElem?_set_ne hj] at q
            obtain ⟨v, ev, rv⟩ := rs.2 j w q
            exact ⟨v, ev, rv.frzT ea fun z => hn (List.any_eq_true.mpr ⟨_, List.mem_of_getElem? (i := j) (by rw [List.getElem?_set_ne hj]; exact q), z⟩)⟩
      · exact p.elim
    · exact p.elim
  · exact p.elim
def sFrzK (i : Nat) (f : SM) : SM := fun ρ h => match ρ[i]? with
  | some (some (.ref n)) => match h[n]? with
    | some (some (.dpk es)) => frzN i (sFrzO i f) es.length ρ h
    | _ => none
  | _ => none
theorem ds_frzK {X : Cx} {sts : List Stmt} {f : SM} (i : Nat) (hd : DSs X sts f) : DSs X sts (sFrzK i f) := by
  refine ⟨fun pins s σ H D I q => ?_⟩
  obtain ⟨M, h, ρ, rep, rs, p⟩ := q
  unfold sFrzK at p
  split at p
  · split at p
    · rename_i es _
      exact (ds_frzN i (ds_frzO i hd) es.length).run pins s σ H D I ⟨M, h, ρ, rep, rs, p⟩
    · exact p.elim
  · exact p.elim
end DL
set_option maxRecDepth 100000
namespace DL
open PySem L2
variable [HW]
noncomputable def m_places_of : FM := fnM false 1 3 (sRet (fDc false (enumA (fCons (fVar 0) (fNil))) (gT 2 (gC (gN 1) (gC (gN 2) (gE)))) (bYes) (fVar 2) (fVar 1) [1, 2]))
noncomputable def m_look_alike : FM := fnM false 2 2 (sIf (fB (f2 (eqW true) (fA (sortW false) (fCons (fVar 0) (fNil))) (fA (sortW false) (fCons (fVar 1) (fNil))))) (sNever) (sSkip))
noncomputable def m_place_of : FM := fnM false 2 3 (sSeq (sAsg (fA (m_places_of) (fCons (fVar 0) (fNil))) (gN 2))
    (sSeq (sIf (fB (f2 (inW true) (fVar 1) (fVar 2))) (sNever) (sSkip))
    (sRet (f2 idxW (fVar 2) (fVar 1)))))
noncomputable def m_falls : FM := fnM false 2 6 (sSeq (sExpr (fA (m_look_alike) (fCons (fVar 0) (fCons (fVar 1) (fNil)))))
    (sSeq (sAsg (fLc false (seqI (fVar 1)) (gN 3) (bYes) (fA (m_place_of) (fCons (fVar 0) (fCons (fVar 3) (fNil)))) [3]) (gN 2))
    (sRet (fA lenW (fCons (fLc false (zipI (fCons (fVar 2) (fCons (fSl false (fVar 2) (oSome (fC (.int 1))) (oNone)) (fNil)))) (gT 2 (gC (gN 4) (gC (gN 5) (gE)))) (fB (f2 gt_W (fVar 4) (fVar 5))) (fVar 4) [4, 5]) (fNil))))))
noncomputable def m__law_box : FM := fnM true 2 3 (sSeq (sAsg (fC (.int 0)) (gN 2))
    (sSeq (sIf (fB (f2 lt_W (fVar 1) (fA lenW (fCons (fVar 0) (fNil))))) (sAsg (f2 idxW (fVar 0) (fVar 1)) (gN 2)) (sSkip))
    (sRet (fA (lstW true) (fCons (f2 (mulW false) (fA absW (fCons (fVar 2) (fNil))) (fA intC (fCons (f2 ge_W (fA absW (fCons (fVar 2) (fNil))) (f2 powW (fC (.int 10)) (fC (.int 18)))) (fNil)))) (fCons (f2 (addW false) (f2 (addW false) (f2 modW (fVar 2) (fC (.int 2147483629))) (f2 (mulW false) (fC (.int 7919)) (fVar 1))) (fC (.int 11))) (fCons (fC (.int 0)) (fNil))))))))
noncomputable def m__law_take : FM := fnM false 2 4 (sSeq (sIf (fB (f2 gt_W (f2 idxW (fVar 0) (fC (.int 0))) (fC (.int 0)))) (sSeq (sAsg (f2 modW (f2 idxW (fVar 0) (fC (.int 0))) (fVar 1)) (gN 3))
    (sSeq (sSub (f2 divW (f2 idxW (fVar 0) (fC (.int 0))) (fVar 1)) (fVar 0) (fC (.int 0)))
    (sRet (fVar 3)))) (sSkip))
    (sSeq (sSub (f2 (addW false) (f2 idxW (fVar 0) (fC (.int 2))) (fC (.int 1))) (fVar 0) (fC (.int 2)))
    (sSeq (sAsg (f2 modW (f2 powW (f2 (addW false) (f2 idxW (fVar 0) (fC (.int 1))) (f2 (mulW false) (fC (.int 39373)) (f2 idxW (fVar 0) (fC (.int 2))))) (fC (.int 5))) (fC (.int 2147483647))) (gN 2))
    (sRet (f2 modW (f2 divW (f2 modW (f2 (addW false) (f2 (mulW false) (fVar 2) (f2 (addW false) (f2 modW (fVar 2) (fC (.int 40009))) (fC (.int 7)))) (f2 (mulW false) (f2 idxW (fVar 0) (fC (.int 2))) (fC (.int 7919)))) (fC (.int 2147483629))) (fC (.int 64))) (fVar 1))))))
noncomputable def m__law_same : Nat → FM
  | 0 => fun _ _ => none
  | n + 1 => fnM false 2 4 (sSeq (sIf (fB (f1 (isiW ["list", "tuple"]) (fVar 1))) (sSeq (sIf (bOr (fB (f2 (eqW true) (f1 (isiW ["list"]) (fVar 0)) (f1 (isiW ["list"]) (fVar 1)))) (fB (f2 (eqW true) (f1 (isiW ["tuple"]) (fVar 0)) (f1 (isiW ["tuple"]) (fVar 1))))) (sRet (fC (.bool false))) (sSkip))
    (sSeq (sIf (fB (f2 (eqW true) (fA lenW (fCons (fVar 0) (fNil))) (fA lenW (fCons (fVar 1) (fNil))))) (sRet (fC (.bool false))) (sSkip))
    (sRet (fA allW (fCons (fLc false (zipI (fCons (fVar 0) (fCons (fVar 1) (fNil)))) (gT 2 (gC (gN 2) (gC (gN 3) (gE)))) (bYes) (fA (m__law_same n) (fCons (fVar 2) (fCons (fVar 3) (fNil)))) [2, 3]) (fNil)))))) (sSkip))
    (sSeq (sIf (bOr (fB (f2 (isW false) (fVar 1) (fC .none))) (fB (f1 (isiW ["str"]) (fVar 1)))) (sRet (fAnd (f2 (eqW false) (fVar 0) (fVar 1)) (f2 (eqW false) (f1 (isiW ["str"]) (fVar 0)) (f1 (isiW ["str"]) (fVar 1))))) (sSkip))
    (sRet (fAnd (f1 (isiW ["int"]) (fVar 0)) (fAnd (f2 (eqW false) (f1 (isiW ["bool"]) (fVar 0)) (f1 (isiW ["bool"]) (fVar 1))) (f2 (eqW false) (fVar 0) (fVar 1)))))))
end DL
namespace DL
open PySem L2
variable [HW]
noncomputable def m__law_of : FM := fnM false 2 2 (sRet (f2 idxW (fVar 1) (fA (m__law_take) (fCons (fVar 0) (fCons (fA lenW (fCons (fVar 1) (fNil))) (fNil))))))
end DL
namespace DL
open PySem L2
variable [HW]
noncomputable def m__law_all_rows : FM := fnM false 1 6 (sSeq (sAsg (fA (lstW false) (fCons (fA tupW (fNil)) (fNil))) (gN 1))
    (sSeq (sFor (seqI (fVar 0)) (gN 2)
    (sSeq (sAsg (fA (lstW false) (fNil)) (gN 3))
    (sSeq (sFor (seqI (fVar 1)) (gN 4)
    (sAsg (f2 (addW false) (fVar 3) (fLc false (seqI (fVar 0)) (gN 5) (fB (f2 (inW true) (fVar 5) (fVar 4))) (f2 (addW false) (fVar 4) (fA tupW (fCons (fVar 5) (fNil)))) [5])) (gN 3)))
    (sAsg (fVar 3) (gN 1)))))
    (sRet (fVar 1))))
end DL
namespace DL
open PySem L2
variable [HW]
end DL
namespace DL
open PySem L2
variable [HW]
noncomputable def m__law_folded : FM := fnM false 2 5 (sSeq (sAsg (fA (listW true) (fCons (fSl false (fVar 0) (oNone) (oSome (fVar 1))) (fNil))) (gN 2))
    (sSeq (sFor (enumA (fCons (fSl false (fVar 0) (oSome (fVar 1)) (oSome (fC (.int 63)))) (fNil))) (gT 2 (gC (gN 3) (gC (gN 4) (gE))))
    (sSub (f2 (addW false) (f2 idxW (fVar 2) (f2 modW (fVar 3) (fVar 1))) (f2 (mulW false) (fVar 4) (f2 (addW false) (fVar 3) (fC (.int 2))))) (fVar 2) (f2 modW (fVar 3) (fVar 1))))
    (sFrz 2 (sRet (fIf (fB (f2 (eqW true) (fVar 2) (fA (lstW false) (fNil)))) (fVar 2) (fA (lstW false) (fCons (fC (.int 0)) (fNil))))))))
noncomputable def m__law_called : FM := fnM false 2 6 (sSeq (sAsg (fA (dictA false) (fCons (fVar 1) (fNil))) (gN 2))
    (sSeq (sAsg (fA (lstW false) (fNil)) (gN 3))
    (sSeq (sFor (seqI (fVar 0)) (gN 4)
    (sAsg (f2 (addW false) (fVar 3) (fLc false (seqI (fVar 0)) (gN 5) (fB (f2 (eqW false) (f2 idxW (fVar 2) (fVar 5)) (fVar 4))) (fVar 5) [5])) (gN 3)))
    (sRet (fA tupleW (fCons (fVar 3) (fNil)))))))
noncomputable def m__law_pick : FM := fnM false 2 2 (sRet (f2 idxW (fVar 1) (fA (m__law_take) (fCons (fVar 0) (fCons (fA lenW (fCons (fVar 1) (fNil))) (fNil))))))
noncomputable def m__law_names : FM := fnM false 2 6 (sSeq (sPar (fCons (f2 (addW false) (fC (.int 1)) (fA (m__law_take) (fCons (fVar 0) (fCons (fVar 1) (fNil))))) (fCons (fA (lstW false) (fNil)) (fNil))) [2, 3])
    (sSeq (sWhile 100000 (fB (f2 lt_W (fA lenW (fCons (fVar 3) (fNil))) (fVar 2)))
    (sSeq (sAsg (fJoin (fC (.str "")) (fLc false (rng1I (fCons (f2 (addW false) (fC (.int 1)) (fA (m__law_take) (fCons (fVar 0) (fCons (fC (.int 3)) (fNil))))) (fNil))) (gN 5) (bYes) (fA (m__law_pick) (fCons (fVar 0) (fCons (fC (.str "abkmxz")) (fNil)))) [5])) (gN 4))
    (sAsg (fA (sortSW false) (fCons (f2 (addW false) (fVar 3) (fA (lstW false) (fCons (f2 (addW false) (fVar 4) (f2 idxW (fC (.str "abcdefghijklmnopqrstuvwx")) (fA lenW (fCons (fVar 3) (fNil))))) (fNil)))) (fNil))) (gN 3))))
    (sRet (fVar 3))))
end DL
namespace DL
open PySem L2
variable [HW]
end DL
namespace DL
open PySem L2
variable [HW]
end DL
set_option maxRecDepth 100000
namespace DL
open PySem L2
variable [HW]
end DL
set_option maxRecDepth 100000
namespace DL
open PySem L2
variable [HW]
end DL
set_option maxRecDepth 100000
namespace DL
open PySem L2
variable [HW]
end DL
set_option maxRecDepth 100000
namespace DL
open PySem L2
variable [HW]
end DL
set_option maxRecDepth 100000
namespace DL
open PySem L2
variable [HW]
end DL
set_option maxRecDepth 100000
namespace DL
open PySem L2
variable [HW]
end DL
set_option maxRecDepth 100000
namespace DL
open PySem L2
variable [HW]
end DL
set_option maxRecDepth 100000
set_option maxHeartbeats 4000000
namespace DL
open PySem PySem.Spec PyProof.Rows L2
variable [HW]
end DL
set_option maxRecDepth 100000
set_option maxHeartbeats 4000000
namespace DL
open PySem PySem.Spec PyProof.Rows L2
variable [HW]
end DL
set_option maxRecDepth 100000
set_option maxHeartbeats 4000000
namespace DL
open PySem PySem.Spec PyProof.Rows L2
variable [HW]
end DL
set_option maxRecDepth 100000
set_option maxHeartbeats 400000
namespace DL
open PySem L2
variable [HW]
end DL
set_option maxRecDepth 100000
set_option maxHeartbeats 400000
namespace DL
open PySem L2
variable [HW]
end DL
set_option maxRecDepth 100000
set_option maxHeartbeats 1000000
namespace DL
open PySem PySem.Spec PyProof.Rows L2
variable [HW]
end DL
set_option maxRecDepth 100000
set_option maxHeartbeats 1000000
namespace DL
open PySem PySem.Spec PyProof.Rows L2
variable [HW]
end DL
set_option maxRecDepth 100000
set_option maxHeartbeats 1000000
namespace DL
open PySem PySem.Spec PyProof.Rows L2
variable [HW]
end DL
namespace DL
open PySem L2
variable [HW]
end DL
namespace DL
open PySem L2
variable [HW]
end DL
namespace DL
open PySem L2
variable [HW]
end DL
namespace DL
open PySem L2
variable [HW]
end DL
namespace DL
open PySem L2
variable [HW]
end DL
namespace DL
open PySem L2
end DL
namespace DL
open PySem L2
end DL
set_option maxRecDepth 100000
set_option maxHeartbeats 400000
namespace DL
open PySem L2
variable [HW]
@[reducible] def Dm {α : Sort u} (_ : α) : Type := Unit
def ob {α β : Type} (k : α → Hh → Option (β × Hh)) (u : Dm k) (r : Option (α × Hh)) : Option (β × Hh) := obnd r k
theorem obnd_x {α β : Type} (r : Option (α × Hh)) (k : α → Hh → Option (β × Hh)) : obnd r k = ob k () r := rfl
theorem ob_some {α β : Type} (k : α → Hh → Option (β × Hh)) (u : Dm k) (a : α) (h : Hh) : ob k u (some (a, h)) = k a h := rfl
def sb {α : Type} (k : α → Hh → Option (Out × Hh)) (u : Dm k) (r : Option (α × Hh)) : Option (Out × Hh) := sbnd r k
theorem sbnd_x {α : Type} (r : Option (α × Hh)) (k : α → Hh → Option (Out × Hh)) : sbnd r k = sb k () r := rfl
theorem sb_some {α : Type} (k : α → Hh → Option (Out × Hh)) (u : Dm k) (a : α) (h : Hh) : sb k u (some (a, h)) = k a h := rfl
def seqK (g : SM) (u : Dm g) (r : Option (Out × Hh)) : Option (Out × Hh) := match r with
  | some (.nx ρ1, h1) => g ρ1 h1
  | r => r
theorem sSeq_e (f g : SM) (ρ : Env) (h : Hh) : sSeq f g ρ h = seqK g () (f ρ h) := rfl
theorem seqK_nx (g : SM) (u : Dm g) (ρ : Env) (h : Hh) : seqK g u (some (.nx ρ, h)) = g ρ h := rfl
theorem seqK_rt (g : SM) (u : Dm g) (w : W) (h : Hh) : seqK g u (some (.rt w, h)) = some (.rt w, h) := rfl
theorem seqK_bk (g : SM) (u : Dm g) (ρ : Env) (h : Hh) : seqK g u (some (.bk ρ, h)) = some (.bk ρ, h) := rfl
theorem seqK_ct (g : SM) (u : Dm g) (ρ : Env) (h : Hh) : seqK g u (some (.ct ρ, h)) = some (.ct ρ, h) := rfl
def frK (g : SM) (u : Dm g) (r : Option (Env × Hh)) : Option (Out × Hh) := match r with
  | some (ρ, h) => g ρ h
  | none => none
theorem sFrz_e (i : Nat) (f : SM) (ρ : Env) (h : Hh) : sFrz i f ρ h = frK f () (frz i ρ h) := rfl
theorem frK_some (g : SM) (u : Dm g) (ρ : Env) (h : Hh) : frK g u (some (ρ, h)) = g ρ h := rfl
theorem isR_ref (n m : Nat) : isR n (some (.ref m)) = decide (m = n) := rfl
theorem isR_dat (n : Nat) (d : D) : isR n (some (.dat d)) = false := rfl
theorem isR_scr (n : Nat) (d : List Int) : isR n (some (.scr d)) = false := rfl
theorem isR_none (n : Nat) : isR n none = false := rfl
def retK (rm : Bool) (h : Hh) (r : Option (Out × Hh)) : Option (W × Hh) := match r with
    | some (.rt w, h') => leave rm h w h'
    | some (.nx _, h') => leave rm h (.dat .none) h'
    | _ => none
theorem retK_rt (rm : Bool) (h : Hh) (w : W) (h' : Hh) : retK rm h (some (.rt w, h')) = leave rm h w h' := rfl
theorem retK_nx (rm : Bool) (h : Hh) (ρ : Env) (h' : Hh) : retK rm h (some (.nx ρ, h')) = leave rm h (.dat .none) h' := rfl
def iteK {α : Type} (x y : α) (u : Dm (x, y)) (b : Bool) : α := if b = true then x else y
theorem ite_x {α : Type} (b : Bool) (x y : α) : (if b = true then x else y) = iteK x y () b := rfl
theorem iteK_t {α : Type} (x y : α) (u : Dm (x, y)) : iteK x y u true = x := rfl
theorem iteK_f {α : Type} (x y : α) (u : Dm (x, y)) : iteK x y u false = y := rfl
theorem subW_e (x y : W) (h : Hh) : subW x y h = intW (fun _ _ => true) (fun i j => i - j) x y h := rfl
theorem modW_e (x y : W) (h : Hh) : modW x y h = intW (fun _ j => decide (0 < j)) (fun i j => i % j) x y h := rfl
theorem divW_e (x y : W) (h : Hh) : divW x y h = intW (fun _ j => decide (0 < j ∧ j < 1073741824)) (fun i j => i / j) x y h := rfl
theorem powW_e (x y : W) (h : Hh) : powW x y h = intW (fun i j => decide (0 ≤ j ∧ j ≤ 1000000 ∧ i.natAbs < 18446744073709551616)) (fun i j => i ^ j.toNat) x y h := rfl
theorem lt_e (x y : W) (h : Hh) : lt_W x y h = ltW (fun i j => decide (i < j)) (fun i j => decide (i < j)) x y h := rfl
theorem gt_e (x y : W) (h : Hh) : gt_W x y h = ltW (fun i j => decide (j < i)) (fun i j => decide (j < i)) x y h := rfl
theorem le_e (x y : W) (h : Hh) : le_W x y h = ltW (fun i j => decide (i ≤ j)) (fun i j => !decide (j < i)) x y h := rfl
theorem ge_e (x y : W) (h : Hh) : ge_W x y h = ltW (fun i j => decide (j ≤ i)) (fun i j => !decide (i < j)) x y h := rfl
theorem allW_e (ws : List W) (h : Hh) : allW ws h = lW bools (fun bs => .bool (bs.all id)) ws h := rfl
theorem anyW_e (ws : List W) (h : Hh) : anyW ws h = lW bools (fun bs => .bool (bs.any id)) ws h := rfl
theorem sumW_e (ws : List W) (h : Hh) : sumW ws h = lW intsD (fun bs => .int bs.sum) ws h := rfl
theorem fnM_e (rm : Bool) (np nl : Nat) (body : SM) (ws : List W) (h : Hh) (e : ws.length = np) : fnM rm np nl body ws h = retK rm h (body (ws.map some ++ List.replicate (nl - np) none) h) := by
  unfold fnM
  rw [if_pos e]
  rfl
theorem iLT_none : (["list", "tuple"].any fun t => isT1 t (.none : D)) = false := by rfl
theorem iLT_bool (b : Bool) : (["list", "tuple"].any fun t => isT1 t (.bool b : D)) = false := by rfl
theorem iLT_int (i : Int) : (["list", "tuple"].any fun t => isT1 t (.int i : D)) = false := by rfl
theorem iLT_str (s : Str) : (["list", "tuple"].any fun t => isT1 t (.str s : D)) = false := by rfl
theorem iLT_list (ds : List D) : (["list", "tuple"].any fun t => isT1 t (.list ds : D)) = true := by rfl
theorem iLT_tup (ds : List D) : (["list", "tuple"].any fun t => isT1 t (.tuple ds : D)) = true := by rfl
theorem iL_none : (["list"].any fun t => isT1 t (.none : D)) = false := by rfl
theorem iL_bool (b : Bool) : (["list"].any fun t => isT1 t (.bool b : D)) = false := by rfl
theorem iL_int (i : Int) : (["list"].any fun t => isT1 t (.int i : D)) = false := by rfl
theorem iL_str (s : Str) : (["list"].any fun t => isT1 t (.str s : D)) = false := by rfl
theorem iL_list (ds : List D) : (["list"].any fun t => isT1 t (.list ds : D)) = true := by rfl
theorem iL_tup (ds : List D) : (["list"].any fun t => isT1 t (.tuple ds : D)) = false := by rfl
theorem iT_none : (["tuple"].any fun t => isT1 t (.none : D)) = false := by rfl
theorem iT_bool (b : Bool) : (["tuple"].any fun t => isT1 t (.bool b : D)) = false := by rfl
theorem iT_int (i : Int) : (["tuple"].any fun t => isT1 t (.int i : D)) = false := by rfl
theorem iT_str (s : Str) : (["tuple"].any fun t => isT1 t (.str s : D)) = false := by rfl
theorem iT_list (ds : List D) : (["tuple"].any fun t => isT1 t (.list ds : D)) = false := by rfl
theorem iT_tup (ds : List D) : (["tuple"].any fun t => isT1 t (.tuple ds : D)) = true := by rfl
theorem iS_none : (["str"].any fun t => isT1 t (.none : D)) = false := by rfl
theorem iS_bool (b : Bool) : (["str"].any fun t => isT1 t (.bool b : D)) = false := by rfl
theorem iS_int (i : Int) : (["str"].any fun t => isT1 t (.int i : D)) = false := by rfl
theorem iS_str (s : Str) : (["str"].any fun t => isT1 t (.str s : D)) = true := by rfl
theorem iS_list (ds : List D) : (["str"].any fun t => isT1 t (.list ds : D)) = false := by rfl
theorem iS_tup (ds : List D) : (["str"].any fun t => isT1 t (.tuple ds : D)) = false := by rfl
theorem iI_none : (["int"].any fun t => isT1 t (.none : D)) = false := by rfl
theorem iI_bool (b : Bool) : (["int"].any fun t => isT1 t (.bool b : D)) = true := by rfl
theorem iI_int (i : Int) : (["int"].any fun t => isT1 t (.int i : D)) = true := by rfl
theorem iI_str (s : Str) : (["int"].any fun t => isT1 t (.str s : D)) = false := by rfl
theorem iI_list (ds : List D) : (["int"].any fun t => isT1 t (.list ds : D)) = false := by rfl
theorem iI_tup (ds : List D) : (["int"].any fun t => isT1 t (.tuple ds : D)) = false := by rfl
theorem iB_none : (["bool"].any fun t => isT1 t (.none : D)) = false := by rfl
theorem iB_bool (b : Bool) : (["bool"].any fun t => isT1 t (.bool b : D)) = true := by rfl
theorem iB_int (i : Int) : (["bool"].any fun t => isT1 t (.int i : D)) = false := by rfl
theorem iB_str (s : Str) : (["bool"].any fun t => isT1 t (.str s : D)) = false := by rfl
theorem iB_list (ds : List D) : (["bool"].any fun t => isT1 t (.list ds : D)) = false := by rfl
theorem iB_tup (ds : List D) : (["bool"].any fun t => isT1 t (.tuple ds : D)) = false := by rfl
theorem lcL_map {k : TM} {t : BM} {f : EM} {ρ : Env} {h : Hh} (p : D → Bool) (g : D → D) : ∀ {ds : List D}, (∀ d ∈ ds, ∃ ρ1, k (.dat d) ρ h = some ρ1 ∧ t ρ1 h = some (p d, h) ∧ (p d = true → f ρ1 h = some (.dat (g d), h))) → lcL k t f ρ ds h = some ((ds.filter p).map g, h)
  | [], _ => rfl
  | d :: ds, H => by
    obtain ⟨ρ1, e1, e2, e3⟩ := H d List.mem_cons_self
    have ih := lcL_map (k := k) (t := t) (f := f) (ρ := ρ) (h := h) p g (ds := ds) fun e he => H e (List.mem_cons_of_mem _ he)
    unfold lcL
    simp only [e1, e2, obnd]
    cases hp : p d with
    | true =>
      simp only [if_true]
      rw [e3 hp]
      simp only [ih, List.filter_cons, hp, if_true, List.map_cons]
    | false => simp only [Bool.false_eq_true, if_false, ih, List.filter_cons, hp]
theorem lcL_all {k : TM} {t : BM} {f : EM} {ρ : Env} {h : Hh} (g : D → D) {ds : List D} (H : ∀ d ∈ ds, ∃ ρ1, k (.dat d) ρ h = some ρ1 ∧ t ρ1 h = some (true, h) ∧ f ρ1 h = some (.dat (g d), h)) : lcL k t f ρ ds h = some (ds.map g, h) := by
  have := lcL_map (k := k) (t := t) (f := f) (ρ := ρ) (h := h) (fun _ => true) g (ds := ds) fun d hd => by
    obtain ⟨ρ1, a, b, c⟩ := H d hd
    exact ⟨ρ1, a, b, fun _ => c⟩
  rwa [List.filter_eq_self.mpr (fun _ _ => rfl)] at this
theorem lcL_inv {k : TM} {f : EM} {ρ : Env} (I : Nat → Hh → Prop) (R : Nat → D → Prop) : ∀ {ds : List D} {n : Nat} {h : Hh}, I n h → (∀ (j : Nat) (d : D), ds[j]? = some d → ∀ h, I (n + j) h → ∃ ρ1 d' h', k (.dat d) ρ h = some ρ1 ∧ f ρ1 h = some (.dat d', h') ∧ R (n + j) d' ∧ I (n + j + 1) h') →
    ∃ rs h', lcL k bYes f ρ ds h = some (rs, h') ∧ rs.length = ds.length ∧ (∀ (j : Nat) (r : D), rs[j]? = some r → R (n + j) r) ∧ I (n + ds.length) h'
  | [], n, h, i, _ => ⟨[], h, rfl, rfl, (fun j r hr => by simp at hr), i⟩
  | d :: ds, n, h, i, H => by
    obtain ⟨ρ1, d', h1, e1, e2, r, i1⟩ := H 0 d rfl h i
    obtain ⟨rs, h2, e3, hl, hr, i2⟩ := lcL_inv (k := k) (f := f) (ρ := ρ) I R (ds := ds) (n := n + 1) i1 fun j e he h q => by
      have := H (j + 1) e (by simpa using he) h (by rw [← show n + 1 + j = n + (j + 1) by omega]; exact q)
      rw [show n + 1 + j = n + (j + 1) by omega]
      exact this
    refine ⟨d' :: rs, h2, ?_, by simp [hl], ?_, ?_⟩
    · unfold lcL
      simp only [e1, bYes, obnd, if_true, e2]
      rw [e3]
    · intro j x hx
      cases j with
      | zero => simp at hx; subst hx; exact r
      | succ j =>
        have := hr j x (by simpa using hx)
        rw [show n + 1 + j = n + (j + 1) by omega] at this
        exact this
    · rw [List.length_cons, show n + (ds.length + 1) = n + 1 + ds.length by omega]; exact i2
theorem forL_inv {k : TM} {body : SM} (I : Nat → Env → Hh → Prop) : ∀ {ds : List D} {n : Nat} {ρ : Env} {h : Hh}, I n ρ h → (∀ (j : Nat) (d : D), ds[j]? = some d → ∀ ρ h, I (n + j) ρ h → ∃ ρ1 ρ2 h2, k (.dat d) ρ h = some ρ1 ∧ body ρ1 h = some (.nx ρ2, h2) ∧ I (n + j + 1) ρ2 h2) →
    ∃ ρ' h', forL k body ds ρ h = some (.nx ρ', h') ∧ I (n + ds.length) ρ' h'
  | [], n, ρ, h, i, _ => ⟨ρ, h, rfl, i⟩
  | d :: ds, n, ρ, h, i, H => by
    obtain ⟨ρ1, ρ2, h2, e1, e2, i2⟩ := H 0 d rfl ρ h i
    obtain ⟨ρ', h', e3, i3⟩ := forL_inv (k := k) (body := body) I (ds := ds) (n := n + 1) i2 fun j e he ρ h q => by
      obtain ⟨a, b, c, x, y, z⟩ := H (j + 1) e (by simpa using he) ρ h (by rw [← show n + 1 + j = n + (j + 1) by omega]; exact q)
      exact ⟨a, b, c, x, y, by rw [show n + 1 + j + 1 = n + (j + 1) + 1 by omega]; exact z⟩
    refine ⟨ρ', h', ?_, by rw [List.length_cons, show n + (ds.length + 1) = n + 1 + ds.length by omega]; exact i3⟩
    unfold forL
    simp only [e1, e2, e3]
theorem getK_cons (e : D × D) (es : List (D × D)) (k : Key) : getK (e :: es) k = if dKey e.1 = some k then some e.2 else getK es k := by
  unfold getK
  rw [List.find?_cons]
  by_cases h : dKey e.1 = some k
  · simp [h]
  · simp [h]
def sdic (l : List (Str × D)) : List (D × D) := l.map fun p => (.str p.1, p.2)
theorem dKey_str (s : Str) : dKey (.str s) = some (.inr s) := rfl
theorem getK_sdic (s : Str) : ∀ l : List (Str × D), getK (sdic l) (.inr s) = l.lookup s
  | [] => rfl
  | (t, d) :: l => by
    show getK ((.str t, d) :: sdic l) (.inr s) = _
    rw [getK_cons, getK_sdic s l, List.lookup_cons, dKey_str]
    by_cases h : t = s
    · subst h; simp
    · have h1 : ¬ (some (Sum.inr t : Key) = some (Sum.inr s)) := fun z => h (by cases z; rfl)
      have h2 : (s == t) = false := by simpa using fun z => h z.symm
      rw [if_neg h1, h2]
theorem isT_sdic : ∀ l : List (Str × D), isT (sdic l) = false
  | [] => rfl
  | (t, d) :: l => rfl
theorem getD_sdic (l : List (Str × D)) (s : Str) : getD (sdic l) (.str s) = some (l.lookup s) := by
  unfold getD
  rw [isT_sdic, if_neg (by simp), dKey_str]
  simp [getK_sdic]
theorem sdic_snoc (l : List (Str × D)) (s : Str) (d : D) : sdic (l ++ [(s, d)]) = sdic l ++ [(.str s, d)] := by simp [sdic]
theorem putK_sdic {l : List (Str × D)} {s : Str} (d : D) (h : l.lookup s = none) : putK' (sdic l) (.inr s) d = sdic (l ++ [(s, d)]) := by
  unfold putK'
  rw [getK_sdic, h, sdic_snoc]
  rfl
theorem lookup_none {l : List (Str × D)} {s : Str} (h : s ∉ l.map (·.1)) : l.lookup s = none := by
  induction l with
  | nil => rfl
  | cons p l ih =>
    obtain ⟨t, d⟩ := p
    simp only [List.map_cons, List.mem_cons, not_or] at h
    rw [List.lookup_cons, show (s == t) = false by simpa using h.1]
    exact ih h.2
theorem merge_sdic : ∀ (ps : List (Str × D)) (l : List (Str × D)), ((l ++ ps).map (·.1)).Nodup → mergeD (sdic l) (ps.map fun p => (Sum.inr p.1, p.2)) = sdic (l ++ ps)
  | [], l, _ => by simp [mergeD]
  | (s, d) :: ps, l, h => by
    have hn : s ∉ l.map (·.1) := by
      rw [List.map_append, List.nodup_append] at h
      intro z
      exact h.2.2 _ z _ (by simp) rfl
    have e : mergeD (sdic l) (((s, d) :: ps).map fun p => (Sum.inr p.1, p.2)) = mergeD (putK' (sdic l) (.inr s) d) (ps.map fun p => (Sum.inr p.1, p.2)) := rfl
    rw [e, putK_sdic d (lookup_none hn), merge_sdic ps (l ++ [(s, d)]) (by simpa using h)]
    simp
def prs (ps : List (Str × D)) : List D := ps.map fun p => .tuple [.str p.1, p.2]
theorem pairsK_prs : ∀ ps : List (Str × D), pairsK (prs ps) = some (ps.map fun p => (Sum.inr p.1, p.2))
  | [] => rfl
  | (s, d) :: ps => by
    show (match dKey (.str s), pairsK (prs ps) with | some k, some r => some ((k, d) :: r) | _, _ => none) = _
    rw [pairsK_prs ps]
    rfl
theorem dcL_sdic {k : TM} {fk fv : EM} {ρ : Env} {h : Hh} (g : D → Str × D) : ∀ {ds : List D} {l : List (Str × D)}, ((l ++ ds.map g).map (·.1)).Nodup → (l ++ ds.map g).length ≤ sizeLine →
    (∀ d ∈ ds, ∃ ρ1, k (.dat d) ρ h = some ρ1 ∧ fk ρ1 h = some (.dat (.str (g d).1), h) ∧ fv ρ1 h = some (.dat (g d).2, h)) → dcL k bYes fk fv ρ ds (sdic l) h = some (sdic (l ++ ds.map g), h)
  | [], l, _, _, _ => by simp [dcL]
  | d :: ds, l, hn, hl, H => by
    obtain ⟨ρ1, e1, e2, e3⟩ := H d List.mem_cons_self
    have hn' : (g d).1 ∉ l.map (·.1) := by
      rw [List.map_append, List.nodup_append] at hn
      intro z
      exact hn.2.2 _ z _ (by simp) rfl
    unfold dcL
    simp only [e1, bYes, obnd, if_true, e2, e3, dKey_str]
    have hlen : (sdic l).length < sizeLine := by
      simp only [sdic, List.length_map]
      simp only [List.length_append, List.length_map, List.length_cons] at hl
      omega
    rw [if_pos hlen, putK_sdic _ (lookup_none hn')]
    have ih := dcL_sdic (k := k) (fk := fk) (fv := fv) (ρ := ρ) (h := h) g (ds := ds) (l := l ++ [((g d).1, (g d).2)]) (by simpa using hn) (by simpa using hl) fun e he => H e (List.mem_cons_of_mem _ he)
    rw [ih]
    simp
end DL
set_option maxRecDepth 100000
set_option maxHeartbeats 400000
namespace DL
open PySem L2
variable [HW]
local macro_rules | `(tactic| walk_at "dl") => `(tactic| simp (config := { dsimp := false }) only [↓fnM_e, ↓sSeq_e, seqK_nx, seqK_rt, seqK_bk, seqK_ct, retK_rt, retK_nx, ↓sFrz_e, frK_some, ↓sAsg, ↓sRet, ↓sRetN, ↓sIf, ↓sExpr, ↓sSkip, ↓sNever, ↓sPar, ↓sFor, ↓sSub, ↓fVar, ↓fC, ↓fNil, ↓fCons, ↓fA, ↓f1, ↓f2, ↓fB, ↓fIf, ↓fNeg, ↓fNot, ↓fAnd, ↓fOr, ↓bNot, ↓bAnd, ↓bOr, ↓bYes, ↓obnd_x, ob_some, ↓sbnd_x, sb_some, ↓ite_x, iteK_t, iteK_f, gN, gT, gC, gE, ↓rng1I, ↓rng2I, ↓seqI, ↓enumA, ↓zipI, ↓strI, ↓fLc, ↓fDc, ↓fM, ↓fSl, ↓oNone, ↓oSome, ↓fRev, wipeE, ↓kwM, permM, permL, List.foldr, List.length_cons, List.length_nil, List.map_cons, List.map_nil, List.cons_append, List.nil_append, List.replicate, List.replicate_succ, List.replicate_zero, List.getElem?_cons_zero, List.getElem?_cons_succ, List.set_cons_zero, List.set_cons_succ, if_true, if_false, reduceIte, Nat.reduceAdd, Nat.reduceSub, Nat.reduceEqDiff, Nat.reduceLT, Nat.reduceLeDiff, Int.reduceLT, Int.reduceLE, Int.reduceNeg, Int.reduceMul, Int.reduceAdd, Int.reduceSub, Int.reduceToNat, Int.reducePow, Int.reduceEq, ok, bok, deref, mkL, lstW, tupW, dats, Option.map_some, appendW, insertW, setL, isL, listW, tupleW, lenW, absW, intC, maxW, minW, idxW, addW, subW_e, modW_e, divW_e, powW_e, mulW, intW, lt_e, gt_e, le_e, ge_e, ltW, allW_e, anyW_e, sumW_e, lW, setW, lstAt, cutW, backW, isW, isiW, iLT_none, iLT_bool, iLT_int, iLT_str, iLT_list, iLT_tup, iL_none, iL_bool, iL_int, iL_str, iL_list, iL_tup, iT_none, iT_bool, iT_int, iT_str, iT_list, iT_tup, iS_none, iS_bool, iS_int, iS_str, iS_list, iS_tup, iI_none, iI_bool, iI_int, iI_str, iI_list, iI_tup, iB_none, iB_bool, iB_int, iB_str, iB_list, iB_tup, Bool.false_eq_true, reduceCtorEq, Bool.not_true, Bool.not_false, decide_true, decide_false, List.zip_cons_cons, List.zip_nil_left, List.foldl_cons, List.foldl_nil, and_self, and_true, true_and, Bool.and_true, Bool.true_and, Bool.or_true, Bool.true_or, *])
def BoxAt (h : Hh) (b c : Nat) : Prop := ∃ d s k : Int, h[b]? = some (some (.lst [.int d, .int s, .int k])) ∧ 0 ≤ d ∧ 0 ≤ s ∧ s < 1099511627776 ∧ 0 ≤ k ∧ k ≤ c
structure Only (b : Nat) (h h' : Hh) : Prop where
  len : h'.length = h.length
  off : ∀ i : Nat, i ≠ b → h'[i]? = h[i]?
theorem Only.refl (b : Nat) (h : Hh) : Only b h h := ⟨rfl, fun _ _ => rfl⟩
theorem Only.trans {b : Nat} {h h1 h2 : Hh} (x : Only b h h1) (y : Only b h1 h2) : Only b h h2 := ⟨y.len.trans x.len, fun i n => (y.off i n).trans (x.off i n)⟩
theorem only_set (b : Nat) (h : Hh) (o : Option MO) : Only b h (h.set b o) := ⟨by simp, fun i n => by rw [List.getElem?_set_ne (fun z => n z.symm)]⟩
theorem BoxAt.mono {h : Hh} {b c c' : Nat} (x : BoxAt h b c) (hc : c ≤ c') : BoxAt h b c' := by
  obtain ⟨d, s, k, e, h1, h2, h3, h4, h5⟩ := x
  exact ⟨d, s, k, e, h1, h2, h3, h4, by omega⟩
theorem BoxAt.lt {h : Hh} {b c : Nat} (x : BoxAt h b c) : b < h.length := by
  obtain ⟨d, s, k, e, _⟩ := x
  exact (List.getElem?_eq_some_iff.mp e).1
theorem live_only {b c c' : Nat} {h h' : Hh} (x : BoxAt h b c) (y : BoxAt h' b c') (o : Only b h h') : live h' = live h := by
  apply List.ext_getElem?
  intro i
  unfold live
  rw [List.getElem?_map, List.getElem?_map]
  by_cases hi : i = b
  · subst hi
    obtain ⟨_, _, _, e1, _⟩ := x
    obtain ⟨_, _, _, e2, _⟩ := y
    rw [e1, e2]
    rfl
  · rw [o.off i hi]
theorem leave_dat {h h' : Hh} {d : D} (e : live (h'.take h.length) = live h) : leave false h (.dat d) h' = some (.dat d, h'.take h.length) := by
  unfold leave
  rw [if_pos e]
theorem leave_dat' {b c c' : Nat} {h h' : Hh} {d : D} (x : BoxAt h b c) (y : BoxAt h' b c') (o : Only b h h') : leave false h (.dat d) h' = some (.dat d, h') := by
  have e : h'.take h.length = h' := List.take_of_length_le (by rw [o.len]; exact Nat.le_refl _)
  rw [leave_dat (by rw [e]; exact live_only x y o), e]
theorem leave_same' {h : Hh} {d : D} : leave false h (.dat d) h = some (.dat d, h) := by
  have e : h.take h.length = h := List.take_of_length_le (Nat.le_refl _)
  rw [leave_dat (by rw [e]), e]
theorem atI3 (x y z : D) : L2.atI [x, y, z] 0 = some x ∧ L2.atI [x, y, z] 1 = some y ∧ L2.atI [x, y, z] 2 = some z := ⟨rfl, rfl, rfl⟩
theorem ix3 : ixN 3 0 = some 0 ∧ ixN 3 1 = some 1 ∧ ixN 3 2 = some 2 := ⟨rfl, rfl, rfl⟩
theorem take_ok {h : Hh} {b c : Nat} {n : Int} (hb : BoxAt h b c) (hc : c < 1099511627776) (h0 : 0 < n) (h1 : n < 1073741824) :
    ∃ r h', m__law_take [.ref b, .dat (.int n)] h = some (.dat (.int r), h') ∧ 0 ≤ r ∧ r < n ∧ BoxAt h' b (c + 1) ∧ Only b h h' := by
  obtain ⟨d, s, k, e, hd, hs, hs2, hk, hk2⟩ := id hb
  have lb := hb.lt
  have a0 := fun x y z : D => (atI3 x y z).1
  have a1 := fun x y z : D => (atI3 x y z).2.1
  have a2 := fun x y z : D => (atI3 x y z).2.2
  have i0 := ix3.1
  have i2 := ix3.2.2
  by_cases hp : 0 < d
  · have y : BoxAt (h.set b (some (.lst [.int (d / n), .int s, .int k]))) b c := ⟨d / n, s, k, by rw [List.getElem?_set_self lb], Int.ediv_nonneg hd (by omega), hs, hs2, hk, hk2⟩
    refine ⟨d % n, h.set b (some (.lst [.int (d / n), .int s, .int k])), ?_, Int.emod_nonneg _ (by omega), Int.emod_lt_of_pos _ h0, y.mono (by omega), only_set _ _ _⟩
    unfold m__law_take
    walk_at "dl"
    exact leave_dat' hb y (only_set _ _ _)
  · have y : BoxAt (h.set b (some (.lst [.int d, .int s, .int (k + 1)]))) b (c + 1) := ⟨d, s, k + 1, by rw [List.getElem?_set_self lb], hd, hs, hs2, by omega, by omega⟩
    have hp' : decide (0 < d) = false := by simpa using hp
    have g1 : (h.set b (some (.lst [.int d, .int s, .int (k + 1)])))[b]? = some (some (.lst [.int d, .int s, .int (k + 1)])) := by rw [List.getElem?_set_self lb]
    have hw : (s + 39373 * (k + 1)).natAbs < 18446744073709551616 := by omega
    have o1 : -18446744073709551616 < (s + 39373 * (k + 1)) ^ 5 % 2147483647 := by omega
    have o2 : (s + 39373 * (k + 1)) ^ 5 % 2147483647 < 18446744073709551616 := by omega
    have k1 : -18446744073709551616 < k + 1 := by omega
    have k2 : k + 1 < 18446744073709551616 := by omega
    refine ⟨((s + 39373 * (k + 1)) ^ 5 % 2147483647 * ((s + 39373 * (k + 1)) ^ 5 % 2147483647 % 40009 + 7) + (k + 1) * 7919) % 2147483629 / 64 % n, h.set b (some (.lst [.int d, .int s, .int (k + 1)])), ?_, Int.emod_nonneg _ (by omega), Int.emod_lt_of_pos _ h0, y, only_set _ _ _⟩
    unfold m__law_take
    walk_at "dl"
    exact leave_dat' hb y (only_set _ _ _)
theorem box_take {h : Hh} {b c n : Nat} (x : BoxAt h b c) (hb : b < n) : BoxAt (h.take n) b c := by
  obtain ⟨d, s, k, e, r⟩ := x
  exact ⟨d, s, k, by rw [List.getElem?_take_of_lt hb]; exact e, r⟩
theorem take_snoc {α : Type} {l : List α} {n : Nat} {x : α} (e : l[n]? = some x) : l.take (n + 1) = l.take n ++ [x] := by
  rw [List.take_add_one, e]; rfl
end DL
set_option maxRecDepth 100000
set_option maxHeartbeats 400000
namespace DL
open PySem L2
variable [HW]
local macro_rules | `(tactic| walk_at "dl") => `(tactic| simp (config := { dsimp := false }) only [↓fnM_e, ↓sSeq_e, seqK_nx, seqK_rt, seqK_bk, seqK_ct, retK_rt, retK_nx, ↓sFrz_e, frK_some, ↓sAsg, ↓sRet, ↓sRetN, ↓sIf, ↓sExpr, ↓sSkip, ↓sNever, ↓sPar, ↓sFor, ↓sSub, ↓fVar, ↓fC, ↓fNil, ↓fCons, ↓fA, ↓f1, ↓f2, ↓fB, ↓fIf, ↓fNeg, ↓fNot, ↓fAnd, ↓fOr, ↓bNot, ↓bAnd, ↓bOr, ↓bYes, ↓obnd_x, ob_some, ↓sbnd_x, sb_some, ↓ite_x, iteK_t, iteK_f, gN, gT, gC, gE, ↓rng1I, ↓rng2I, ↓seqI, ↓enumA, ↓zipI, ↓strI, ↓fLc, ↓fDc, ↓fM, ↓fSl, ↓oNone, ↓oSome, ↓fRev, wipeE, ↓kwM, permM, permL, List.foldr, List.length_cons, List.length_nil, List.map_cons, List.map_nil, List.cons_append, List.nil_append, List.replicate, List.replicate_succ, List.replicate_zero, List.getElem?_cons_zero, List.getElem?_cons_succ, List.set_cons_zero, List.set_cons_succ, if_true, if_false, reduceIte, Nat.reduceAdd, Nat.reduceSub, Nat.reduceEqDiff, Nat.reduceLT, Nat.reduceLeDiff, Int.reduceLT, Int.reduceLE, Int.reduceNeg, Int.reduceMul, Int.reduceAdd, Int.reduceSub, Int.reduceToNat, Int.reducePow, Int.reduceEq, ok, bok, deref, mkL, lstW, tupW, dats, Option.map_some, appendW, insertW, setL, isL, listW, tupleW, lenW, absW, intC, maxW, minW, idxW, addW, subW_e, modW_e, divW_e, powW_e, mulW, intW, lt_e, gt_e, le_e, ge_e, ltW, allW_e, anyW_e, sumW_e, lW, setW, lstAt, cutW, backW, isW, isiW, iLT_none, iLT_bool, iLT_int, iLT_str, iLT_list, iLT_tup, iL_none, iL_bool, iL_int, iL_str, iL_list, iL_tup, iT_none, iT_bool, iT_int, iT_str, iT_list, iT_tup, iS_none, iS_bool, iS_int, iS_str, iS_list, iS_tup, iI_none, iI_bool, iI_int, iI_str, iI_list, iI_tup, iB_none, iB_bool, iB_int, iB_str, iB_list, iB_tup, Bool.false_eq_true, reduceCtorEq, Bool.not_true, Bool.not_false, decide_true, decide_false, List.zip_cons_cons, List.zip_nil_left, List.foldl_cons, List.foldl_nil, and_self, and_true, true_and, Bool.and_true, Bool.true_and, Bool.or_true, Bool.true_or, *])
theorem str_ext {a b : Str} (h : a.cps.toList = b.cps.toList) : a = b := by
  obtain ⟨⟨x⟩⟩ := a
  obtain ⟨⟨y⟩⟩ := b
  simp at h
  rw [h]
theorem cps_app (a b : Str) : (a ++ b).cps.toList = a.cps.toList ++ b.cps.toList := by
  show (a.cps ++ b.cps).toList = _
  simp
theorem len_app (a b : Str) : (a ++ b).length = a.length + b.length := by
  show (a.cps ++ b.cps).size = _
  simp [Str.length]
def lt1 (i : Nat) : Str := ⟨#[97 + i]⟩
def sfx : Nat → Str
  | 0 => ""
  | 1 => "a"
  | _ => "zz"
def nm (st sp at_ : Nat) : Str := lt1 ((st + sp * (at_ / 2)) % 26) ++ sfx (at_ % 2 * (1 + st % 2))
theorem sfx_len : (sfx 0).cps.toList = [] ∧ (sfx 1).cps.toList = [97] ∧ (sfx 2).cps.toList = [122, 122] := by decide +kernel
def Steps (sp : Nat) : Prop := sp = 1 ∨ sp = 3 ∨ sp = 25
theorem nm_cps (st sp a : Nat) : (nm st sp a).cps.toList = (97 + (st + sp * (a / 2)) % 26) :: (sfx (a % 2 * (1 + st % 2))).cps.toList := by
  unfold nm
  rw [cps_app]
  rfl
structure Crew (most : Nat) (rs : List Str) : Prop where
  nd : rs.Nodup
  pos : 0 < rs.length
  le : rs.length ≤ most
  nam : ∀ s ∈ rs, ∃ st sp a, st < 26 ∧ Steps sp ∧ s = nm st sp a
def unS : D → Str
  | .str s => s
  | _ => ""
theorem rng_get {n j : Nat} {d : D} (e : (rngD 0 n)[j]? = some d) : j < n ∧ d = .int (j : Int) := by
  obtain ⟨h1, h2⟩ := rngD_get e
  exact ⟨h1, by rw [h2]; simp⟩
theorem rng_len (n : Nat) : (rngD 0 n).length = n := by simp [rngD]
theorem sfx_le (k : Nat) : (sfx k).length ≤ 2 := by
  match k with
  | 0 => decide +kernel
  | 1 => decide +kernel
  | _ + 2 => show (sfx 2).length ≤ 2; decide +kernel
end DL
set_option maxRecDepth 100000
set_option maxHeartbeats 400000
namespace DL
open PySem L2
variable [HW]
local macro_rules | `(tactic| walk_at "dl") => `(tactic| simp (config := { dsimp := false }) only [↓fnM_e, ↓sSeq_e, seqK_nx, seqK_rt, seqK_bk, seqK_ct, retK_rt, retK_nx, ↓sFrz_e, frK_some, ↓sAsg, ↓sRet, ↓sRetN, ↓sIf, ↓sExpr, ↓sSkip, ↓sNever, ↓sPar, ↓sFor, ↓sSub, ↓fVar, ↓fC, ↓fNil, ↓fCons, ↓fA, ↓f1, ↓f2, ↓fB, ↓fIf, ↓fNeg, ↓fNot, ↓fAnd, ↓fOr, ↓bNot, ↓bAnd, ↓bOr, ↓bYes, ↓obnd_x, ob_some, ↓sbnd_x, sb_some, ↓ite_x, iteK_t, iteK_f, gN, gT, gC, gE, ↓rng1I, ↓rng2I, ↓seqI, ↓enumA, ↓zipI, ↓strI, ↓fLc, ↓fDc, ↓fM, ↓fSl, ↓oNone, ↓oSome, ↓fRev, wipeE, ↓kwM, permM, permL, List.foldr, List.length_cons, List.length_nil, List.map_cons, List.map_nil, List.cons_append, List.nil_append, List.replicate, List.replicate_succ, List.replicate_zero, List.getElem?_cons_zero, List.getElem?_cons_succ, List.set_cons_zero, List.set_cons_succ, if_true, if_false, reduceIte, Nat.reduceAdd, Nat.reduceSub, Nat.reduceEqDiff, Nat.reduceLT, Nat.reduceLeDiff, Int.reduceLT, Int.reduceLE, Int.reduceNeg, Int.reduceMul, Int.reduceAdd, Int.reduceSub, Int.reduceToNat, Int.reducePow, Int.reduceEq, ok, bok, deref, mkL, lstW, tupW, dats, Option.map_some, appendW, insertW, setL, isL, listW, tupleW, lenW, absW, intC, maxW, minW, idxW, addW, subW_e, modW_e, divW_e, powW_e, mulW, intW, lt_e, gt_e, le_e, ge_e, ltW, allW_e, anyW_e, sumW_e, lW, setW, lstAt, cutW, backW, isW, isiW, iLT_none, iLT_bool, iLT_int, iLT_str, iLT_list, iLT_tup, iL_none, iL_bool, iL_int, iL_str, iL_list, iL_tup, iT_none, iT_bool, iT_int, iT_str, iT_list, iT_tup, iS_none, iS_bool, iS_int, iS_str, iS_list, iS_tup, iI_none, iI_bool, iI_int, iI_str, iI_list, iI_tup, iB_none, iB_bool, iB_int, iB_str, iB_list, iB_tup, Bool.false_eq_true, reduceCtorEq, Bool.not_true, Bool.not_false, decide_true, decide_false, List.zip_cons_cons, List.zip_nil_left, List.foldl_cons, List.foldl_nil, and_self, and_true, true_and, Bool.and_true, Bool.true_and, Bool.or_true, Bool.true_or, *])
theorem zipD_self : ∀ ds : List D, zipD ds ds = ds.map fun d => .tuple [d, d]
  | [] => rfl
  | d :: ds => by rw [zipD, zipD_self ds]; rfl
theorem bools_true : ∀ n : Nat, bools (List.replicate n (.bool true)) = some (List.replicate n true)
  | 0 => rfl
  | n + 1 => by rw [List.replicate_succ, bools, bools_true n]; rfl
theorem all_true (n : Nat) : (List.replicate n true).all id = true := by induction n with
  | zero => rfl
  | succ n ih => rw [List.replicate_succ, List.all_cons, ih]; rfl
theorem eqS_bool (b : Bool) : eqS (.bool b) (.bool b) = some true := by simp [eqS]
theorem eqS_self_str (b : Str) : eqS (.str b) (.str b) = some true := by simp [eqS]
theorem eqS_self_int (b : Int) : eqS (.int b) (.int b) = some true := by simp [eqS]
theorem eqW_same {neg : Bool} {d : D} {h : Hh} (e : eqS d d = some true) : eqW neg (.dat d) (.dat d) h = bok (!neg) h := by
  unfold eqW
  simp only [deref, e]
  cases neg <;> rfl
mutual
def plainD : D → Bool
  | .dict _ => false
  | .list ds => plainDs ds && decide (ds.length ≤ sizeLine)
  | .tuple ds => plainDs ds && decide (ds.length ≤ sizeLine)
  | _ => true
def plainDs : List D → Bool
  | [] => true
  | d :: ds => plainD d && plainDs ds
end
theorem plainDs_mem : ∀ {ds : List D} {d : D}, plainDs ds = true → d ∈ ds → plainD d = true
  | _ :: _, _, h, .head _ => by rw [plainDs, Bool.and_eq_true] at h; exact h.1
  | _ :: ds, _, h, .tail _ m => by rw [plainDs, Bool.and_eq_true] at h; exact plainDs_mem h.2 m
theorem depthAll_mem : ∀ {ds : List D} {d : D}, d ∈ ds → d.depth ≤ PyData.depthAll ds
  | _ :: _, _, .head _ => by rw [PyData.depthAll]; exact Nat.le_max_left _ _
  | _ :: ds, _, .tail _ m => by rw [PyData.depthAll]; exact Nat.le_trans (depthAll_mem m) (Nat.le_max_right _ _)
theorem same_seq {n : Nat} {ds : List D} {h : Hh} (ih : ∀ d ∈ ds, m__law_same n [.dat d, .dat d] h = some (.dat (.bool true), h)) (v1 v2 : Option W) (hl : ds.length ≤ sizeLine) :
    lcL (gT 2 (gC (gN 2) (gC (gN 3) (gE)))) (bYes) (fA (m__law_same n) (fCons (fVar 2) (fCons (fVar 3) (fNil)))) [v1, v2, none, none] (zipD ds ds) h = some (List.replicate ds.length (.bool true), h) := by
  rw [zipD_self]
  rw [lcL_all (fun _ => .bool true) (ds := ds.map fun d => .tuple [d, d]) (fun d' hd' => ?_)]
  · rw [List.map_map]
    congr 2
    apply List.eq_replicate_iff.mpr
    exact ⟨by simp, fun b hb => by obtain ⟨d, hd, rfl⟩ := List.mem_map.mp hb; rfl⟩
  · obtain ⟨d, hd, rfl⟩ := List.mem_map.mp hd'
    have e := ih d hd
    refine ⟨[v1, v2, some (.dat d), some (.dat d)], ?_, rfl, ?_⟩
    · walk_at "dl"
    · walk_at "dl"
theorem callD_two (d : D) : callD [d, d] = false := by
  by_cases h : ∃ a b : Str, d = .tuple [.str a, .str b]
  · obtain ⟨a, b, rfl⟩ := h
    simp [callD, pairD, rowD, prTx, rowS]
  · by_cases h' : ∃ a : Str, d = .str a
    · obtain ⟨a, rfl⟩ := h'
      simp [callD, pairD, rowD, prTx, rowS]
    · exact callD_not _ (fun a b e => h ⟨a, b, e⟩) fun a e => h' ⟨a, e⟩
theorem zipOk_refl : ∀ ds : List D, zipOk ds ds = true
  | [] => rfl
  | d :: ds => by
    have ih := zipOk_refl ds
    unfold zipOk at ih ⊢
    simp only [zipD, List.all_cons, ih, notCall, callD_two]
    rfl
theorem zipOk_fst : ∀ (xs ys : List D), (∀ d ∈ xs, ∀ a b : Str, d ≠ .tuple [.str a, .str b]) → (∀ d ∈ xs, ∀ a : Str, d ≠ .str a) → zipOk xs ys = true
  | [], _, _, _ => rfl
  | _ :: _, [], _, _ => rfl
  | d :: xs, y :: ys, h, h' => by
    have ih := zipOk_fst xs ys (fun z hz => h z (List.mem_cons_of_mem _ hz)) fun z hz => h' z (List.mem_cons_of_mem _ hz)
    unfold zipOk at ih ⊢
    simp only [zipD, List.all_cons, ih, notCall, callD_not _ (h d List.mem_cons_self) (h' d List.mem_cons_self)]
    rfl
theorem zipOk_int {α : Type} (f : α → Int) (l : List α) (ys : List D) : zipOk (l.map fun x => .int (f x)) ys = true := zipOk_fst _ _ (fun d hd a b e => by
  obtain ⟨x, _, rfl⟩ := List.mem_map.mp hd
  cases e) fun d hd a e => by
  obtain ⟨x, _, rfl⟩ := List.mem_map.mp hd
  cases e
theorem same_refl : ∀ (n : Nat) (d : D) (h : Hh), plainD d = true → d.depth < n → m__law_same n [.dat d, .dat d] h = some (.dat (.bool true), h)
  | 0, _, _, _, hd => by omega
  | n + 1, d, h, hp, hd => by
    have tk : leave false h (.dat (.bool true)) h = some (.dat (.bool true), h) := leave_same'
    have e0 := fun b : Bool => eqW_same (neg := true) (h := h) (eqS_bool b)
    have e1 := fun b : Bool => eqW_same (neg := false) (h := h) (eqS_bool b)
    cases d with
    | none => 
      unfold m__law_same
      have e2 : eqW false (.dat .none) (.dat .none) h = bok true h := eqW_same rfl
      walk_at "dl"
    | bool b =>
      unfold m__law_same
      walk_at "dl"
    | int i =>
      unfold m__law_same
      have e2 := eqW_same (neg := false) (h := h) (eqS_self_int i)
      walk_at "dl"
    | str s =>
      unfold m__law_same
      have e2 := eqW_same (neg := false) (h := h) (eqS_self_str s)
      walk_at "dl"
    | list ds =>
      unfold m__law_same
      simp only [plainD, Bool.and_eq_true, decide_eq_true_eq] at hp
      simp only [PyData.depth] at hd
      have hl : ds.length ≤ sizeLine := hp.2
      have ez := zipOk_refl ds
      have e3 := same_seq (n := n) (ds := ds) (h := h) (fun d hd' => same_refl n d h (plainDs_mem hp.1 hd') (by have := depthAll_mem hd'; omega)) (some (.dat (.list ds))) (some (.dat (.list ds))) hl
      have e2 := eqW_same (neg := true) (h := h) (eqS_self_int (ds.length : Int))
      have e4 := bools_true ds.length
      have e5 := all_true ds.length
      have e6 : (List.replicate ds.length (PyData.bool true)).length ≤ sizeLine := by simpa using hl
      clear hd hp
      walk_at "dl"
    | tuple ds =>
      unfold m__law_same
      simp only [plainD, Bool.and_eq_true, decide_eq_true_eq] at hp
      simp only [PyData.depth] at hd
      have hl : ds.length ≤ sizeLine := hp.2
      have ez := zipOk_refl ds
      have e3 := same_seq (n := n) (ds := ds) (h := h) (fun d hd' => same_refl n d h (plainDs_mem hp.1 hd') (by have := depthAll_mem hd'; omega)) (some (.dat (.tuple ds))) (some (.dat (.tuple ds))) hl
      have e2 := eqW_same (neg := true) (h := h) (eqS_self_int (ds.length : Int))
      have e4 := bools_true ds.length
      have e5 := all_true ds.length
      have e6 : (List.replicate ds.length (PyData.bool true)).length ≤ sizeLine := by simpa using hl
      clear hd hp
      walk_at "dl"
    | dict es => simp [plainD] at hp
theorem forL_end {k : TM} {body : SM} (I : Nat → Env → Hh → Prop) {ds : List D} {ρ : Env} {h : Hh} (i : I 0 ρ h) (H : ∀ (j : Nat) (d : D), ds[j]? = some d → ∀ ρ h, I j ρ h → ∃ ρ1 ρ2 h2, k (.dat d) ρ h = some ρ1 ∧ body ρ1 h = some (.nx ρ2, h2) ∧ I (j + 1) ρ2 h2) :
    ∃ ρ' h', forL k body ds ρ h = some (.nx ρ', h') ∧ I ds.length ρ' h' := by
  have := forL_inv (k := k) (body := body) I (ds := ds) (n := 0) i fun j d e ρ h q => by
    have := H j d e ρ h (by rw [Nat.zero_add] at q; exact q)
    rw [Nat.zero_add]; exact this
  rw [Nat.zero_add] at this
  exact this
theorem leave_ref {h : Hh} {ds : List D} : leave true h (.ref h.length) (h ++ [some (.lst ds)]) = some (.ref h.length, h ++ [some (.lst ds)]) := by
  have e : (h ++ [some (MO.lst ds)]).take h.length = h := by rw [List.take_append_of_le_length (Nat.le_refl _), List.take_length]
  have e2 : (h ++ [some (MO.lst ds)])[h.length]? = some (some (.lst ds)) := by rw [List.getElem?_append_right (Nat.le_refl _)]; simp
  unfold leave
  rw [e, if_pos rfl]
  simp only [Nat.lt_irrefl, if_false, e2, if_true]
theorem bools_all : ∀ {rs : List D}, (∀ r ∈ rs, r = .bool true) → rs = List.replicate rs.length (.bool true)
  | [], _ => rfl
  | r :: rs, h => by
    rw [List.length_cons, List.replicate_succ, ← bools_all fun x hx => h x (List.mem_cons_of_mem _ hx), ← h r List.mem_cons_self]
end DL
set_option maxRecDepth 100000
set_option maxHeartbeats 400000
namespace DL
open PySem L2
variable [HW]
local macro_rules | `(tactic| walk_at "dl") => `(tactic| simp (config := { dsimp := false }) only [↓fnM_e, ↓sSeq_e, seqK_nx, seqK_rt, seqK_bk, seqK_ct, retK_rt, retK_nx, ↓sFrz_e, frK_some, ↓sAsg, ↓sRet, ↓sRetN, ↓sIf, ↓sExpr, ↓sSkip, ↓sNever, ↓sPar, ↓sFor, ↓sSub, ↓fVar, ↓fC, ↓fNil, ↓fCons, ↓fA, ↓f1, ↓f2, ↓fB, ↓fIf, ↓fNeg, ↓fNot, ↓fAnd, ↓fOr, ↓bNot, ↓bAnd, ↓bOr, ↓bYes, ↓obnd_x, ob_some, ↓sbnd_x, sb_some, ↓ite_x, iteK_t, iteK_f, gN, gT, gC, gE, ↓rng1I, ↓rng2I, ↓seqI, ↓enumA, ↓zipI, ↓strI, ↓fLc, ↓fDc, ↓fM, ↓fSl, ↓oNone, ↓oSome, ↓fRev, wipeE, ↓kwM, permM, permL, List.foldr, List.length_cons, List.length_nil, List.map_cons, List.map_nil, List.cons_append, List.nil_append, List.replicate, List.replicate_succ, List.replicate_zero, List.getElem?_cons_zero, List.getElem?_cons_succ, List.set_cons_zero, List.set_cons_succ, if_true, if_false, reduceIte, Nat.reduceAdd, Nat.reduceSub, Nat.reduceEqDiff, Nat.reduceLT, Nat.reduceLeDiff, Int.reduceLT, Int.reduceLE, Int.reduceNeg, Int.reduceMul, Int.reduceAdd, Int.reduceSub, Int.reduceToNat, Int.reducePow, Int.reduceEq, ok, bok, deref, mkL, lstW, tupW, dats, Option.map_some, appendW, insertW, setL, isL, listW, tupleW, lenW, absW, intC, maxW, minW, idxW, addW, subW_e, modW_e, divW_e, powW_e, mulW, intW, lt_e, gt_e, le_e, ge_e, ltW, allW_e, anyW_e, sumW_e, lW, setW, lstAt, cutW, backW, isW, isiW, iLT_none, iLT_bool, iLT_int, iLT_str, iLT_list, iLT_tup, iL_none, iL_bool, iL_int, iL_str, iL_list, iL_tup, iT_none, iT_bool, iT_int, iT_str, iT_list, iT_tup, iS_none, iS_bool, iS_int, iS_str, iS_list, iS_tup, iI_none, iI_bool, iI_int, iI_str, iI_list, iI_tup, iB_none, iB_bool, iB_int, iB_str, iB_list, iB_tup, Bool.false_eq_true, reduceCtorEq, Bool.not_true, Bool.not_false, decide_true, decide_false, List.zip_cons_cons, List.zip_nil_left, List.foldl_cons, List.foldl_nil, and_self, and_true, true_and, Bool.and_true, Bool.true_and, Bool.or_true, Bool.true_or, *])
def TxtOk (s : Str) : Prop := s.length ≤ 100 ∧ ∀ c ∈ s.cps.toList, c < 128
theorem TxtOk.ok {s : Str} (h : TxtOk s) : PyData.strOk s = true := by
  unfold PyData.strOk
  rw [Array.all_eq_true']
  intro c hc
  have := h.2 c (by simpa using hc)
  simp; omega
abbrev Txts (l : List Str) : Prop := ∀ s ∈ l, TxtOk s
theorem nm_ok {st sp a : Nat} : TxtOk (nm st sp a) := by
  refine ⟨?_, fun c hc => ?_⟩
  · unfold nm
    rw [len_app]
    have := sfx_le (a % 2 * (1 + st % 2))
    show 1 + _ ≤ _
    omega
  · rw [nm_cps] at hc
    rcases List.mem_cons.mp hc with rfl | hc
    · omega
    · generalize a % 2 * (1 + st % 2) = k at hc
      match k, hc with
      | 0, hc => rw [sfx_len.1] at hc; cases hc
      | 1, hc => rw [sfx_len.2.1] at hc; simp at hc; omega
      | _ + 2, hc => 
        have hc' : c ∈ (sfx 2).cps.toList := hc
        rw [sfx_len.2.2] at hc'; simp at hc'; omega
theorem Crew.txts {most : Nat} {rs : List Str} (h : Crew most rs) : Txts rs := fun s hs => by
  obtain ⟨st, sp, a, _, _, rfl⟩ := h.nam s hs
  exact nm_ok
theorem Txts.perm {l m : List Str} (h : Txts l) (p : m.Perm l) : Txts m := fun s hs => h s (p.mem_iff.mp hs)
def leS (a b : Str) : Bool := decide (a.cps.toList ≤ b.cps.toList)
theorem leS_trans (a b c : Str) (h1 : leS a b = true) (h2 : leS b c = true) : leS a c = true := by
  unfold leS at *
  simp only [decide_eq_true_eq] at *
  exact List.le_trans h1 h2
theorem leS_total (a b : Str) : (leS a b || leS b a) = true := by
  unfold leS
  simp only [Bool.or_eq_true, decide_eq_true_eq]
  exact List.le_total _ _
theorem leS_antisymm {a b : Str} (h1 : leS a b = true) (h2 : leS b a = true) : a = b := by
  unfold leS at *
  simp only [decide_eq_true_eq] at *
  exact str_ext (List.le_antisymm h1 h2)
def sortS (l : List Str) : List Str := l.mergeSort leS
theorem sortS_perm (l : List Str) : (sortS l).Perm l := List.mergeSort_perm _ _
theorem sortS_pw (l : List Str) : (sortS l).Pairwise fun a b => leS a b = true := List.pairwise_mergeSort leS_trans leS_total l
theorem sortS_eq {a b : List Str} (h : a.Perm b) : sortS a = sortS b :=
  List.Perm.eq_of_pairwise (fun x y _ _ h1 h2 => leS_antisymm h1 h2) (sortS_pw a) (sortS_pw b) ((sortS_perm a).trans (h.trans (sortS_perm b).symm))
theorem sortD_strs (l : List Str) : sortD (l.map .str) = (sortS l).map .str := by
  unfold sortD sortS
  have e := PySem.W.dataLe_str (fun s : Str => s)
  rw [← PySem.W.sort_maps (r := leS) (s := PySem.W.dataLe false fun d : D => d) (fun s : Str => (.str s : D)) (l := l) fun a _ b _ => ?_]
  have := congrFun (congrFun e a) b
  unfold leS
  rw [← this]
  rfl
theorem alike_strs (l : List Str) : (l.map PyData.str).all (fun d => (l.map PyData.str).all fun e => PySem.W.alike d e) = true := by
  rw [List.all_eq_true]
  intro d hd
  rw [List.all_eq_true]
  intro e he
  obtain ⟨a, _, rfl⟩ := List.mem_map.mp hd
  obtain ⟨b, _, rfl⟩ := List.mem_map.mp he
  rfl
theorem shp_strs {l : List Str} (ht : Txts l) : (l.map PyData.str).all shp = true := by
  rw [List.all_eq_true]
  intro d hd
  obtain ⟨a, ha, rfl⟩ := List.mem_map.mp hd
  simp [shp, PyData.canLay0, PyData.depth, (ht a ha).ok]
theorem sortable_strs {l : List Str} (ht : Txts l) : sortable (l.map .str) = true := by
  unfold sortable
  rw [alike_strs, shp_strs ht]
  simp only [Bool.true_and, Bool.and_true, Bool.or_eq_true]
  right
  rw [List.all_eq_true]
  intro d hd
  obtain ⟨a, _, rfl⟩ := List.mem_map.mp hd
  rfl
abbrev IsSeq (x : D) (ds : List D) : Prop := x = .list ds ∨ x = .tuple ds
theorem sortW_strs {x : D} {l : List Str} {h : Hh} (hx : IsSeq x (l.map .str)) (ht : Txts l) : sortW false [.dat x] h = some (.dat (.list ((sortS l).map .str)), h) := by
  have e := sortD_strs l
  have e2 := sortable_strs ht
  clear ht
  rcases hx with rfl | rfl <;> (unfold sortW; walk_at "dl")
theorem canLay_strs : ∀ {l : List Str}, Txts l → PyData.canLayAll0 (l.map .str) = true
  | [], _ => rfl
  | s :: l, h => by rw [List.map_cons, PyData.canLayAll0, canLay_strs fun t ht => h t (List.mem_cons_of_mem _ ht)]; simp [PyData.canLay0, (h s List.mem_cons_self).ok]
theorem depth_strs : ∀ l : List Str, PyData.depthAll (l.map .str) = 0
  | [] => rfl
  | s :: l => by rw [List.map_cons, PyData.depthAll, depth_strs l]; simp [PyData.depth]
theorem shp_list {l : List Str} (ht : Txts l) : shp (.list (l.map .str)) = true := by
  unfold shp
  rw [PyData.canLay0, canLay_strs ht, PyData.depth, depth_strs]
  rfl
theorem eqW_list {neg : Bool} {ds : List D} {h : Hh} (hs : shp (.list ds) = true) : eqW neg (.dat (.list ds)) (.dat (.list ds)) h = some (.dat (.bool (!neg)), h) := by
  have e : PyData.eqv (.list ds) (.list ds) = true := SeqAt.eqv_refl _ (SeqAt.canLay_of_shaped hs)
  unfold eqW
  simp only [deref, eqS, hs, e, Bool.and_self, if_true]
  cases neg <;> rfl
theorem look_alike_ok {x y : D} {l m : List Str} {h : Hh} (hx : IsSeq x (l.map .str)) (hy : IsSeq y (m.map .str)) (p : l.Perm m) (ht : Txts l) : m_look_alike [.dat x, .dat y] h = some (.dat .none, h) := by
  have e1 := sortW_strs (h := h) hx ht
  have e2 := sortW_strs (h := h) hy (ht.perm p.symm)
  rw [← sortS_eq p] at e2
  have e3 := eqW_list (neg := true) (h := h) (shp_list (ht.perm (sortS_perm l)))
  have lv := leave_same' (h := h) (d := .none)
  unfold m_look_alike
  clear hx hy p ht
  walk_at "dl"
end DL
set_option maxRecDepth 100000
set_option maxHeartbeats 400000
namespace DL
open PySem L2
variable [HW]
local macro_rules | `(tactic| walk_at "dl") => `(tactic| simp (config := { dsimp := false }) only [↓fnM_e, ↓sSeq_e, seqK_nx, seqK_rt, seqK_bk, seqK_ct, retK_rt, retK_nx, ↓sFrz_e, frK_some, ↓sAsg, ↓sRet, ↓sRetN, ↓sIf, ↓sExpr, ↓sSkip, ↓sNever, ↓sPar, ↓sFor, ↓sSub, ↓fVar, ↓fC, ↓fNil, ↓fCons, ↓fA, ↓f1, ↓f2, ↓fB, ↓fIf, ↓fNeg, ↓fNot, ↓fAnd, ↓fOr, ↓bNot, ↓bAnd, ↓bOr, ↓bYes, ↓obnd_x, ob_some, ↓sbnd_x, sb_some, ↓ite_x, iteK_t, iteK_f, gN, gT, gC, gE, ↓rng1I, ↓rng2I, ↓seqI, ↓enumA, ↓zipI, ↓strI, ↓fLc, ↓fDc, ↓fM, ↓fSl, ↓oNone, ↓oSome, ↓fRev, wipeE, ↓kwM, permM, permL, List.foldr, List.length_cons, List.length_nil, List.map_cons, List.map_nil, List.cons_append, List.nil_append, List.replicate, List.replicate_succ, List.replicate_zero, List.getElem?_cons_zero, List.getElem?_cons_succ, List.set_cons_zero, List.set_cons_succ, if_true, if_false, reduceIte, Nat.reduceAdd, Nat.reduceSub, Nat.reduceEqDiff, Nat.reduceLT, Nat.reduceLeDiff, Int.reduceLT, Int.reduceLE, Int.reduceNeg, Int.reduceMul, Int.reduceAdd, Int.reduceSub, Int.reduceToNat, Int.reducePow, Int.reduceEq, ok, bok, deref, mkL, lstW, tupW, dats, Option.map_some, appendW, insertW, setL, isL, listW, tupleW, lenW, absW, intC, maxW, minW, idxW, addW, subW_e, modW_e, divW_e, powW_e, mulW, intW, lt_e, gt_e, le_e, ge_e, ltW, allW_e, anyW_e, sumW_e, lW, setW, lstAt, cutW, backW, isW, isiW, iLT_none, iLT_bool, iLT_int, iLT_str, iLT_list, iLT_tup, iL_none, iL_bool, iL_int, iL_str, iL_list, iL_tup, iT_none, iT_bool, iT_int, iT_str, iT_list, iT_tup, iS_none, iS_bool, iS_int, iS_str, iS_list, iS_tup, iI_none, iI_bool, iI_int, iI_str, iI_list, iI_tup, iB_none, iB_bool, iB_int, iB_str, iB_list, iB_tup, Bool.false_eq_true, reduceCtorEq, Bool.not_true, Bool.not_false, decide_true, decide_false, List.zip_cons_cons, List.zip_nil_left, List.foldl_cons, List.foldl_nil, and_self, and_true, true_and, Bool.and_true, Bool.true_and, Bool.or_true, Bool.true_or, *])
def plc : Nat → List Str → List (Str × D)
  | _, [] => []
  | k, s :: r => (s, .int (k : Int)) :: plc (k + 1) r
theorem plc_keys : ∀ (k : Nat) (r : List Str), (plc k r).map (·.1) = r
  | _, [] => rfl
  | k, s :: r => by rw [plc, List.map_cons, plc_keys (k + 1) r]
theorem plc_look : ∀ (k : Nat) (r : List Str) (s : Str), (plc k r).lookup s = if s ∈ r then some (.int ((k + r.idxOf s : Nat) : Int)) else none
  | _, [], s => rfl
  | k, t :: r, s => by
    rw [plc, List.lookup_cons]
    by_cases h : s = t
    · subst h
      simp
    · have h1 : (s == t) = false := by simpa using h
      have h2 : (t == s) = false := by simpa using fun z => h z.symm
      rw [h1, plc_look (k + 1) r s]
      simp only [List.mem_cons, h, false_or]
      by_cases hm : s ∈ r
      · simp only [hm, if_true, List.idxOf_cons, h2, cond_false]
        rw [show k + 1 + List.idxOf s r = k + (List.idxOf s r + 1) by omega]
      · simp only [hm, if_false]
def enP : D → Str × D
  | .tuple [i, .str s] => (s, i)
  | _ => ("", .none)
theorem enum_plc : ∀ (k : Nat) (r : List Str), (enumD k (r.map .str)).map enP = plc k r
  | _, [] => rfl
  | k, s :: r => by rw [List.map_cons, enumD, List.map_cons, enum_plc (k + 1) r]; rfl
theorem enum_mem : ∀ {k : Nat} {r : List Str} {d : D}, d ∈ enumD k (r.map .str) → ∃ (i : Nat) (s : Str), d = .tuple [.int (i : Int), .str s]
  | _, [], _, h => by cases h
  | k, s :: r, d, h => by
    rw [List.map_cons, enumD] at h
    rcases List.mem_cons.mp h with rfl | h
    · exact ⟨k, s, rfl⟩
    · exact enum_mem h
theorem places_ok {x : D} {r : List Str} {h : Hh} (hx : IsSeq x (r.map .str)) (nd : r.Nodup) (hl : r.length ≤ 1000) : m_places_of [.dat x] h = some (.dat (.dict (sdic (plc 0 r))), h) := by
  have e := dcL_sdic (k := gT 2 (gC (gN 1) (gC (gN 2) gE))) (fk := fVar 2) (fv := fVar 1) (ρ := [some (.dat x), none, none]) (h := h) enP (ds := enumD 0 (r.map .str)) (l := []) (by rw [List.nil_append, enum_plc, plc_keys]; exact nd)
    (by rw [List.nil_append, List.length_map, enumD_len, List.length_map]; exact Nat.le_trans hl (by decide)) (by
      intro d hd
      obtain ⟨i, s, rfl⟩ := enum_mem hd
      refine ⟨[some (.dat x), some (.dat (.int i)), some (.dat (.str s))], ?_, rfl, rfl⟩
      walk_at "dl")
  rw [List.nil_append, enum_plc] at e
  have e' : dcL (gT 2 (gC (gN 1) (gC (gN 2) gE))) bYes (fVar 2) (fVar 1) [some (.dat x), none, none] (enumD 0 (r.map .str)) [] h = some (sdic (plc 0 r), h) := e
  have lv := leave_same' (h := h) (d := .dict (sdic (plc 0 r)))
  unfold m_places_of
  clear nd hl e
  rcases hx with rfl | rfl <;> (walk_at "dl"; simp only [mkK, Bool.false_eq_true, if_false, obnd_some, retK_rt]; walk_at "dl")
theorem place_ok {x : D} {r : List Str} {s : Str} {h : Hh} (hx : IsSeq x (r.map .str)) (nd : r.Nodup) (hl : r.length ≤ 1000) (hs : s ∈ r) : m_place_of [.dat x, .dat (.str s)] h = some (.dat (.int (r.idxOf s : Int)), h) := by
  have e := places_ok (h := h) hx nd hl
  have e2 : getD (sdic (plc 0 r)) (.str s) = some (some (.int (r.idxOf s : Int))) := by rw [getD_sdic, plc_look, if_pos hs, Nat.zero_add]
  have e3 : inW true (.dat (.str s)) (.dat (.dict (sdic (plc 0 r)))) h = some (.dat (.bool false), h) := by
    unfold inW
    simp only [deref, e2]
    rfl
  have lv := leave_same' (h := h) (d := .int (r.idxOf s : Int))
  unfold m_place_of
  clear hx nd hl hs
  walk_at "dl"
end DL
set_option maxRecDepth 100000
set_option maxHeartbeats 400000
namespace DL
open PySem L2
variable [HW]
end DL
set_option maxRecDepth 100000
set_option maxHeartbeats 400000
namespace DL
open PySem L2
variable [HW]
local macro_rules | `(tactic| walk_at "dl") => `(tactic| simp (config := { dsimp := false }) only [↓fnM_e, ↓sSeq_e, seqK_nx, seqK_rt, seqK_bk, seqK_ct, retK_rt, retK_nx, ↓sFrz_e, frK_some, ↓sAsg, ↓sRet, ↓sRetN, ↓sIf, ↓sExpr, ↓sSkip, ↓sNever, ↓sPar, ↓sFor, ↓sSub, ↓fVar, ↓fC, ↓fNil, ↓fCons, ↓fA, ↓f1, ↓f2, ↓fB, ↓fIf, ↓fNeg, ↓fNot, ↓fAnd, ↓fOr, ↓bNot, ↓bAnd, ↓bOr, ↓bYes, ↓obnd_x, ob_some, ↓sbnd_x, sb_some, ↓ite_x, iteK_t, iteK_f, gN, gT, gC, gE, ↓rng1I, ↓rng2I, ↓seqI, ↓enumA, ↓zipI, ↓strI, ↓fLc, ↓fDc, ↓fM, ↓fSl, ↓oNone, ↓oSome, ↓fRev, wipeE, ↓kwM, permM, permL, List.foldr, List.length_cons, List.length_nil, List.map_cons, List.map_nil, List.cons_append, List.nil_append, List.replicate, List.replicate_succ, List.replicate_zero, List.getElem?_cons_zero, List.getElem?_cons_succ, List.set_cons_zero, List.set_cons_succ, if_true, if_false, reduceIte, Nat.reduceAdd, Nat.reduceSub, Nat.reduceEqDiff, Nat.reduceLT, Nat.reduceLeDiff, Int.reduceLT, Int.reduceLE, Int.reduceNeg, Int.reduceMul, Int.reduceAdd, Int.reduceSub, Int.reduceToNat, Int.reducePow, Int.reduceEq, ok, bok, deref, mkL, lstW, tupW, dats, Option.map_some, appendW, insertW, setL, isL, listW, tupleW, lenW, absW, intC, maxW, minW, idxW, addW, subW_e, modW_e, divW_e, powW_e, mulW, intW, lt_e, gt_e, le_e, ge_e, ltW, allW_e, anyW_e, sumW_e, lW, setW, lstAt, cutW, backW, isW, isiW, iLT_none, iLT_bool, iLT_int, iLT_str, iLT_list, iLT_tup, iL_none, iL_bool, iL_int, iL_str, iL_list, iL_tup, iT_none, iT_bool, iT_int, iT_str, iT_list, iT_tup, iS_none, iS_bool, iS_int, iS_str, iS_list, iS_tup, iI_none, iI_bool, iI_int, iI_str, iI_list, iI_tup, iB_none, iB_bool, iB_int, iB_str, iB_list, iB_tup, Bool.false_eq_true, reduceCtorEq, Bool.not_true, Bool.not_false, decide_true, decide_false, List.zip_cons_cons, List.zip_nil_left, List.foldl_cons, List.foldl_nil, and_self, and_true, true_and, Bool.and_true, Bool.true_and, Bool.or_true, Bool.true_or, *])
theorem zipD_map {α β : Type} (f : α → D) (g : β → D) : ∀ (l : List α) (m : List β), zipD (l.map f) (m.map g) = (l.zip m).map fun p => .tuple [f p.1, g p.2]
  | [], _ => by simp [zipD]
  | _ :: _, [] => by simp [zipD]
  | a :: l, b :: m => by simp [zipD, zipD_map f g l m]
theorem cut1 {α : Type} (xs : List α) : cutG xs (some 1) none = xs.drop 1 := by
  unfold cutG
  rw [show HT.sIx xs.length 0 (some 1) = min 1 xs.length from HT.sIx_nat xs.length 0 1, HT.sIx_none]
  cases xs with
  | nil => rfl
  | cons a l =>
    have e : min 1 (a :: l).length = 1 := by simp
    rw [e]
    apply List.take_of_length_le
    simp
def fallsN (r m : List Str) : Nat := ((m.zip (m.drop 1)).filter fun p => decide (r.idxOf p.2 < r.idxOf p.1)).length
def gtP : D → Bool
  | .tuple [.int a, .int b] => decide (b < a)
  | _ => false
def fstP : D → D
  | .tuple [a, _] => a
  | _ => .none
theorem falls_ok {x y : D} {r m : List Str} {h : Hh} (hx : IsSeq x (r.map .str)) (hy : IsSeq y (m.map .str)) (p : r.Perm m) (nd : r.Nodup) (hl : r.length ≤ 1000) (ht : Txts r) :
    m_falls [.dat x, .dat y] h = some (.dat (.int (fallsN r m : Int)), h) := by
  have e1 := look_alike_ok (h := h) hx hy p ht
  have ml : m.length ≤ 1000 := by rw [← p.length_eq]; exact hl
  let ix : Str → D := fun s => .int (r.idxOf s : Int)
  have sz : sizeLine = 16777216 := rfl
  have e2 : lcL (gN 3) bYes (fA (m_place_of) (fCons (fVar 0) (fCons (fVar 3) (fNil)))) [some (.dat x), some (.dat y), none, none, none, none] (m.map .str) h = some (m.map ix, h) := by
    rw [lcL_all (fun d => ix (unS d)) (ds := m.map .str)]
    · rw [List.map_map]; rfl
    · intro d hd
      obtain ⟨s, hs, rfl⟩ := List.mem_map.mp hd
      have e := place_ok (h := h) hx nd hl (p.mem_iff.mpr hs)
      refine ⟨[some (.dat x), some (.dat y), none, some (.dat (.str s)), none, none], rfl, rfl, ?_⟩
      clear hx hy
      walk_at "dl"
      rfl
  have e3 : zipD (m.map ix) ((m.map ix).drop 1) = (m.zip (m.drop 1)).map fun p => .tuple [ix p.1, ix p.2] := by rw [← List.map_drop, zipD_map]
  have e4 : lcL (gT 2 (gC (gN 4) (gC (gN 5) (gE)))) (fB (f2 gt_W (fVar 4) (fVar 5))) (fVar 4) [some (.dat x), some (.dat y), some (.dat (.list (m.map ix))), none, none, none] (zipD (m.map ix) ((m.map ix).drop 1)) h =
      some ((((m.zip (m.drop 1)).map fun p => PyData.tuple [ix p.1, ix p.2]).filter gtP).map fstP, h) := by
    rw [e3]
    apply lcL_map gtP fstP
    intro d hd
    obtain ⟨q, hq, rfl⟩ := List.mem_map.mp hd
    refine ⟨[some (.dat x), some (.dat y), some (.dat (.list (m.map ix))), none, some (.dat (ix q.1)), some (.dat (ix q.2))], ?_, ?_, fun _ => rfl⟩
    · clear hx hy e1 e2 e3
      walk_at "dl"
    · show fB (f2 gt_W (fVar 4) (fVar 5)) [some (.dat x), some (.dat y), some (.dat (.list (m.map ix))), none, some (.dat (.int (r.idxOf q.1 : Int))), some (.dat (.int (r.idxOf q.2 : Int)))] h = some (decide ((r.idxOf q.2 : Int) < (r.idxOf q.1 : Int)), h)
      clear hx hy e1 e2 e3
      walk_at "dl"
  have e5 : ((((m.zip (m.drop 1)).map fun p => PyData.tuple [ix p.1, ix p.2]).filter gtP).map fstP).length = fallsN r m := by
    rw [List.length_map, List.filter_map, List.length_map]
    unfold fallsN
    congr 2
    funext q
    show decide ((r.idxOf q.2 : Int) < (r.idxOf q.1 : Int)) = _
    simp
  have l1 : (m.map ix).length ≤ sizeLine := by rw [List.length_map]; omega
  have ez : zipOk (m.map ix) ((m.map ix).drop 1) = true := zipOk_int _ _ _
  have l2 : ((((m.zip (m.drop 1)).map fun p => PyData.tuple [ix p.1, ix p.2]).filter gtP).map fstP).length ≤ sizeLine := by
    rw [List.length_map]
    refine Nat.le_trans (List.length_filter_le _ _) ?_
    rw [List.length_map, List.length_zip]
    omega
  rw [e5] at l2
  have c1 := cut1 (m.map ix)
  have lv := leave_same' (h := h) (d := .int (fallsN r m : Int))
  unfold m_falls
  clear hx p nd hl ht ml sz e3
  rcases hy with rfl | rfl <;> walk_at "dl"
theorem idx_of {r : List Str} (nd : r.Nodup) {i : Nat} (hi : i < r.length) : r.idxOf r[i] = i := nd.idxOf_getElem i hi
end DL
set_option maxRecDepth 100000
set_option maxHeartbeats 400000
namespace DL
open PySem L2
variable [HW]
local macro_rules | `(tactic| walk_at "dl") => `(tactic| simp (config := { dsimp := false }) only [↓fnM_e, ↓sSeq_e, seqK_nx, seqK_rt, seqK_bk, seqK_ct, retK_rt, retK_nx, ↓sFrz_e, frK_some, ↓sAsg, ↓sRet, ↓sRetN, ↓sIf, ↓sExpr, ↓sSkip, ↓sNever, ↓sPar, ↓sFor, ↓sSub, ↓fVar, ↓fC, ↓fNil, ↓fCons, ↓fA, ↓f1, ↓f2, ↓fB, ↓fIf, ↓fNeg, ↓fNot, ↓fAnd, ↓fOr, ↓bNot, ↓bAnd, ↓bOr, ↓bYes, ↓obnd_x, ob_some, ↓sbnd_x, sb_some, ↓ite_x, iteK_t, iteK_f, gN, gT, gC, gE, ↓rng1I, ↓rng2I, ↓seqI, ↓enumA, ↓zipI, ↓strI, ↓fLc, ↓fDc, ↓fM, ↓fSl, ↓oNone, ↓oSome, ↓fRev, wipeE, ↓kwM, permM, permL, List.foldr, List.length_cons, List.length_nil, List.map_cons, List.map_nil, List.cons_append, List.nil_append, List.replicate, List.replicate_succ, List.replicate_zero, List.getElem?_cons_zero, List.getElem?_cons_succ, List.set_cons_zero, List.set_cons_succ, if_true, if_false, reduceIte, Nat.reduceAdd, Nat.reduceSub, Nat.reduceEqDiff, Nat.reduceLT, Nat.reduceLeDiff, Int.reduceLT, Int.reduceLE, Int.reduceNeg, Int.reduceMul, Int.reduceAdd, Int.reduceSub, Int.reduceToNat, Int.reducePow, Int.reduceEq, ok, bok, deref, mkL, lstW, tupW, dats, Option.map_some, appendW, insertW, setL, isL, listW, tupleW, lenW, absW, intC, maxW, minW, idxW, addW, subW_e, modW_e, divW_e, powW_e, mulW, intW, lt_e, gt_e, le_e, ge_e, ltW, allW_e, anyW_e, sumW_e, lW, setW, lstAt, cutW, backW, isW, isiW, iLT_none, iLT_bool, iLT_int, iLT_str, iLT_list, iLT_tup, iL_none, iL_bool, iL_int, iL_str, iL_list, iL_tup, iT_none, iT_bool, iT_int, iT_str, iT_list, iT_tup, iS_none, iS_bool, iS_int, iS_str, iS_list, iS_tup, iI_none, iI_bool, iI_int, iI_str, iI_list, iI_tup, iB_none, iB_bool, iB_int, iB_str, iB_list, iB_tup, Bool.false_eq_true, reduceCtorEq, Bool.not_true, Bool.not_false, decide_true, decide_false, List.zip_cons_cons, List.zip_nil_left, List.foldl_cons, List.foldl_nil, and_self, and_true, true_and, Bool.and_true, Bool.true_and, Bool.or_true, Bool.true_or, *])
def Pre (h0 h : Hh) : Prop := ∀ i : Nat, i < h0.length → h[i]? = h0[i]?
theorem Pre.only {h0 h h' : Hh} {b : Nat} (p : Pre h0 h) (hb : h0.length ≤ b) (o : Only b h h') : Pre h0 h' := fun i hi => (o.off i (by omega)).trans (p i hi)
theorem Pre.app {h0 h l : Hh} (p : Pre h0 h) (hl : h0.length ≤ h.length) : Pre h0 (h ++ l) := fun i hi => by
  rw [List.getElem?_append_left (by omega)]; exact p i hi
theorem Pre.take {h0 h : Hh} (p : Pre h0 h) (hl : h0.length ≤ h.length) : h.take h0.length = h0 := by
  apply List.ext_getElem?
  intro i
  by_cases hi : i < h0.length
  · rw [List.getElem?_take_of_lt hi]; exact p i hi
  · rw [List.getElem?_eq_none (by rw [List.length_take]; omega), List.getElem?_eq_none (by omega)]
end DL
set_option maxRecDepth 100000
set_option maxHeartbeats 400000
namespace DL
open PySem L2
variable [HW]
local macro_rules | `(tactic| walk_at "dl") => `(tactic| simp (config := { dsimp := false }) only [↓fnM_e, ↓sSeq_e, seqK_nx, seqK_rt, seqK_bk, seqK_ct, retK_rt, retK_nx, ↓sFrz_e, frK_some, ↓sAsg, ↓sRet, ↓sRetN, ↓sIf, ↓sExpr, ↓sSkip, ↓sNever, ↓sPar, ↓sFor, ↓sSub, ↓fVar, ↓fC, ↓fNil, ↓fCons, ↓fA, ↓f1, ↓f2, ↓fB, ↓fIf, ↓fNeg, ↓fNot, ↓fAnd, ↓fOr, ↓bNot, ↓bAnd, ↓bOr, ↓bYes, ↓obnd_x, ob_some, ↓sbnd_x, sb_some, ↓ite_x, iteK_t, iteK_f, gN, gT, gC, gE, ↓rng1I, ↓rng2I, ↓seqI, ↓enumA, ↓zipI, ↓strI, ↓fLc, ↓fDc, ↓fM, ↓fSl, ↓oNone, ↓oSome, ↓fRev, wipeE, ↓kwM, permM, permL, List.foldr, List.length_cons, List.length_nil, List.map_cons, List.map_nil, List.cons_append, List.nil_append, List.replicate, List.replicate_succ, List.replicate_zero, List.getElem?_cons_zero, List.getElem?_cons_succ, List.set_cons_zero, List.set_cons_succ, if_true, if_false, reduceIte, Nat.reduceAdd, Nat.reduceSub, Nat.reduceEqDiff, Nat.reduceLT, Nat.reduceLeDiff, Int.reduceLT, Int.reduceLE, Int.reduceNeg, Int.reduceMul, Int.reduceAdd, Int.reduceSub, Int.reduceToNat, Int.reducePow, Int.reduceEq, ok, bok, deref, mkL, lstW, tupW, dats, Option.map_some, appendW, insertW, setL, isL, listW, tupleW, lenW, absW, intC, maxW, minW, idxW, addW, subW_e, modW_e, divW_e, powW_e, mulW, intW, lt_e, gt_e, le_e, ge_e, ltW, allW_e, anyW_e, sumW_e, lW, setW, lstAt, cutW, backW, isW, isiW, iLT_none, iLT_bool, iLT_int, iLT_str, iLT_list, iLT_tup, iL_none, iL_bool, iL_int, iL_str, iL_list, iL_tup, iT_none, iT_bool, iT_int, iT_str, iT_list, iT_tup, iS_none, iS_bool, iS_int, iS_str, iS_list, iS_tup, iI_none, iI_bool, iI_int, iI_str, iI_list, iI_tup, iB_none, iB_bool, iB_int, iB_str, iB_list, iB_tup, Bool.false_eq_true, reduceCtorEq, Bool.not_true, Bool.not_false, decide_true, decide_false, List.zip_cons_cons, List.zip_nil_left, List.foldl_cons, List.foldl_nil, and_self, and_true, true_and, Bool.and_true, Bool.true_and, Bool.or_true, Bool.true_or, *])
def prW (l : Bool) (p : Str × Str) : D := if l = true then .list [.str p.1, .str p.2] else .tuple [.str p.1, .str p.2]
abbrev prT (p : Str × Str) : D := .tuple [.str p.1, .str p.2]
def tld (ps : List (Str × Str)) : List (Str × D) := ps.map fun p => (p.1, .str p.2)
theorem tld_keys (ps : List (Str × Str)) : (tld ps).map (·.1) = ps.map (·.1) := by simp [tld]
end DL
set_option maxRecDepth 100000
set_option maxHeartbeats 400000
namespace DL
open PySem L2
variable [HW]
local macro_rules | `(tactic| walk_at "dl") => `(tactic| simp (config := { dsimp := false }) only [↓fnM_e, ↓sSeq_e, seqK_nx, seqK_rt, seqK_bk, seqK_ct, retK_rt, retK_nx, ↓sFrz_e, frK_some, ↓sAsg, ↓sRet, ↓sRetN, ↓sIf, ↓sExpr, ↓sSkip, ↓sNever, ↓sPar, ↓sFor, ↓sSub, ↓fVar, ↓fC, ↓fNil, ↓fCons, ↓fA, ↓f1, ↓f2, ↓fB, ↓fIf, ↓fNeg, ↓fNot, ↓fAnd, ↓fOr, ↓bNot, ↓bAnd, ↓bOr, ↓bYes, ↓obnd_x, ob_some, ↓sbnd_x, sb_some, ↓ite_x, iteK_t, iteK_f, gN, gT, gC, gE, ↓rng1I, ↓rng2I, ↓seqI, ↓enumA, ↓zipI, ↓strI, ↓fLc, ↓fDc, ↓fM, ↓fSl, ↓oNone, ↓oSome, ↓fRev, wipeE, ↓kwM, permM, permL, List.foldr, List.length_cons, List.length_nil, List.map_cons, List.map_nil, List.cons_append, List.nil_append, List.replicate, List.replicate_succ, List.replicate_zero, List.getElem?_cons_zero, List.getElem?_cons_succ, List.set_cons_zero, List.set_cons_succ, if_true, if_false, reduceIte, Nat.reduceAdd, Nat.reduceSub, Nat.reduceEqDiff, Nat.reduceLT, Nat.reduceLeDiff, Int.reduceLT, Int.reduceLE, Int.reduceNeg, Int.reduceMul, Int.reduceAdd, Int.reduceSub, Int.reduceToNat, Int.reducePow, Int.reduceEq, ok, bok, deref, mkL, lstW, tupW, dats, Option.map_some, appendW, insertW, setL, isL, listW, tupleW, lenW, absW, intC, maxW, minW, idxW, addW, subW_e, modW_e, divW_e, powW_e, mulW, intW, lt_e, gt_e, le_e, ge_e, ltW, allW_e, anyW_e, sumW_e, lW, setW, lstAt, cutW, backW, isW, isiW, iLT_none, iLT_bool, iLT_int, iLT_str, iLT_list, iLT_tup, iL_none, iL_bool, iL_int, iL_str, iL_list, iL_tup, iT_none, iT_bool, iT_int, iT_str, iT_list, iT_tup, iS_none, iS_bool, iS_int, iS_str, iS_list, iS_tup, iI_none, iI_bool, iI_int, iI_str, iI_list, iI_tup, iB_none, iB_bool, iB_int, iB_str, iB_list, iB_tup, Bool.false_eq_true, reduceCtorEq, Bool.not_true, Bool.not_false, decide_true, decide_false, List.zip_cons_cons, List.zip_nil_left, List.foldl_cons, List.foldl_nil, and_self, and_true, true_and, Bool.and_true, Bool.true_and, Bool.or_true, Bool.true_or, *])
def goal (ps : List (Str × Str)) (s : Str) : Str := (ps.lookup s).getD s
def keyN (r : List Str) (ps : List (Str × Str)) (s : Str) : Nat × Nat := (r.idxOf (goal ps s), r.idxOf s)
def leK (a b : Nat × Nat) : Bool := decide (a.1 < b.1 ∨ (a.1 = b.1 ∧ a.2 ≤ b.2))
def led (r : List Str) (ps : List (Str × Str)) : List Str := r.mergeSort fun a b => leK (keyN r ps a) (keyN r ps b)
theorem leK_trans (a b c : Nat × Nat) (h1 : leK a b = true) (h2 : leK b c = true) : leK a c = true := by
  unfold leK at *
  simp only [decide_eq_true_eq] at *
  omega
theorem leK_total (a b : Nat × Nat) : (leK a b || leK b a) = true := by
  unfold leK
  simp only [Bool.or_eq_true, decide_eq_true_eq]
  omega
theorem led_perm (r : List Str) (ps : List (Str × Str)) : (led r ps).Perm r := List.mergeSort_perm _ _
theorem led_pw (r : List Str) (ps : List (Str × Str)) : (led r ps).Pairwise fun a b => leK (keyN r ps a) (keyN r ps b) = true :=
  List.pairwise_mergeSort (le := fun a b => leK (keyN r ps a) (keyN r ps b)) (fun a b c => leK_trans _ _ _) (fun a b => leK_total _ _) r
structure CallOf (r : List Str) (ps : List (Str × Str)) : Prop where
  perm : (ps.map (·.1)).Perm r
  tgt : ∀ p ∈ ps, p.2 ∈ r
theorem CallOf.nodup {r : List Str} {ps : List (Str × Str)} (c : CallOf r ps) (nd : r.Nodup) : (ps.map (·.1)).Nodup := c.perm.nodup_iff.mpr nd
theorem CallOf.of_perm {r r' : List Str} {ps : List (Str × Str)} (c : CallOf r ps) (p : r.Perm r') : CallOf r' ps := ⟨c.perm.trans p, fun q hq => p.mem_iff.mp (c.tgt q hq)⟩
theorem look_tld : ∀ (ps : List (Str × Str)) (s : Str), (tld ps).lookup s = (ps.lookup s).map .str
  | [], s => rfl
  | (a, b) :: ps, s => by
    have ih := look_tld ps s
    unfold tld at ih ⊢
    rw [List.map_cons, List.lookup_cons, List.lookup_cons]
    cases s == a with
    | true => rfl
    | false => exact ih
theorem look_mem : ∀ {ps : List (Str × Str)} {s : Str}, s ∈ ps.map (·.1) → ∃ t, ps.lookup s = some t ∧ (s, t) ∈ ps
  | [], s, h => by cases h
  | (a, b) :: ps, s, h => by
    rw [List.lookup_cons]
    cases e : s == a with
    | true =>
      have : s = a := by simpa using e
      subst this
      exact ⟨b, rfl, List.mem_cons_self⟩
    | false =>
      have hne : s ≠ a := by simpa using e
      rw [List.map_cons] at h
      rcases List.mem_cons.mp h with z | h
      · exact absurd z hne
      · obtain ⟨t, h1, h2⟩ := look_mem h
        exact ⟨t, h1, List.mem_cons_of_mem _ h2⟩
theorem CallOf.goal_mem {r : List Str} {ps : List (Str × Str)} (c : CallOf r ps) {s : Str} (hs : s ∈ r) : ps.lookup s = some (goal ps s) ∧ goal ps s ∈ r := by
  obtain ⟨t, h1, h2⟩ := look_mem (c.perm.mem_iff.mpr hs)
  have e : goal ps s = t := by unfold goal; rw [h1]; rfl
  rw [e]
  exact ⟨h1, c.tgt _ h2⟩
end DL
set_option maxRecDepth 100000
set_option maxHeartbeats 400000
namespace DL
open PySem L2
variable [HW]
local macro_rules | `(tactic| walk_at "dl") => `(tactic| simp (config := { dsimp := false }) only [↓fnM_e, ↓sSeq_e, seqK_nx, seqK_rt, seqK_bk, seqK_ct, retK_rt, retK_nx, ↓sFrz_e, frK_some, ↓sAsg, ↓sRet, ↓sRetN, ↓sIf, ↓sExpr, ↓sSkip, ↓sNever, ↓sPar, ↓sFor, ↓sSub, ↓fVar, ↓fC, ↓fNil, ↓fCons, ↓fA, ↓f1, ↓f2, ↓fB, ↓fIf, ↓fNeg, ↓fNot, ↓fAnd, ↓fOr, ↓bNot, ↓bAnd, ↓bOr, ↓bYes, ↓obnd_x, ob_some, ↓sbnd_x, sb_some, ↓ite_x, iteK_t, iteK_f, gN, gT, gC, gE, ↓rng1I, ↓rng2I, ↓seqI, ↓enumA, ↓zipI, ↓strI, ↓fLc, ↓fDc, ↓fM, ↓fSl, ↓oNone, ↓oSome, ↓fRev, wipeE, ↓kwM, permM, permL, List.foldr, List.length_cons, List.length_nil, List.map_cons, List.map_nil, List.cons_append, List.nil_append, List.replicate, List.replicate_succ, List.replicate_zero, List.getElem?_cons_zero, List.getElem?_cons_succ, List.set_cons_zero, List.set_cons_succ, if_true, if_false, reduceIte, Nat.reduceAdd, Nat.reduceSub, Nat.reduceEqDiff, Nat.reduceLT, Nat.reduceLeDiff, Int.reduceLT, Int.reduceLE, Int.reduceNeg, Int.reduceMul, Int.reduceAdd, Int.reduceSub, Int.reduceToNat, Int.reducePow, Int.reduceEq, ok, bok, deref, mkL, lstW, tupW, dats, Option.map_some, appendW, insertW, setL, isL, listW, tupleW, lenW, absW, intC, maxW, minW, idxW, addW, subW_e, modW_e, divW_e, powW_e, mulW, intW, lt_e, gt_e, le_e, ge_e, ltW, allW_e, anyW_e, sumW_e, lW, setW, lstAt, cutW, backW, isW, isiW, iLT_none, iLT_bool, iLT_int, iLT_str, iLT_list, iLT_tup, iL_none, iL_bool, iL_int, iL_str, iL_list, iL_tup, iT_none, iT_bool, iT_int, iT_str, iT_list, iT_tup, iS_none, iS_bool, iS_int, iS_str, iS_list, iS_tup, iI_none, iI_bool, iI_int, iI_str, iI_list, iI_tup, iB_none, iB_bool, iB_int, iB_str, iB_list, iB_tup, Bool.false_eq_true, reduceCtorEq, Bool.not_true, Bool.not_false, decide_true, decide_false, List.zip_cons_cons, List.zip_nil_left, List.foldl_cons, List.foldl_nil, and_self, and_true, true_and, Bool.and_true, Bool.true_and, Bool.or_true, Bool.true_or, *])
theorem of_ok {x : D} {ds : List D} {h : Hh} {b c : Nat} (hx : IsSeq x ds) (hb : BoxAt h b c) (hc : c < 1000000000) (h0 : 0 < ds.length) (h1 : ds.length ≤ 1000) :
    ∃ d h', m__law_of [.ref b, .dat x] h = some (.dat d, h') ∧ d ∈ ds ∧ BoxAt h' b (c + 1) ∧ Only b h h' := by
  obtain ⟨r, h', e, r0, r1, b1, o1⟩ := take_ok (n := (ds.length : Int)) hb (by omega) (by omega) (by omega)
  have hr : r.toNat < ds.length := by omega
  have e2 : L2.atI ds r = some ds[r.toNat] := by
    have := atI_nat (xs := ds) (j := r.toNat) (List.getElem?_eq_getElem hr)
    rwa [show ((r.toNat : Nat) : Int) = r by omega] at this
  obtain ⟨d, hd, e3⟩ : ∃ d, d ∈ ds ∧ L2.atI ds r = some d := ⟨_, List.getElem_mem hr, e2⟩
  refine ⟨d, h', ?_, hd, b1, o1⟩
  have lv := leave_dat' (d := d) hb b1 o1
  unfold m__law_of
  clear e2 hd hb b1 o1 r0 r1 hr h0 h1 hc
  rcases hx with rfl | rfl <;> walk_at "dl"
end DL
set_option maxRecDepth 100000
set_option maxHeartbeats 400000
namespace DL
open PySem L2
variable [HW]
local macro_rules | `(tactic| walk_at "dl") => `(tactic| simp (config := { dsimp := false }) only [↓fnM_e, ↓sSeq_e, seqK_nx, seqK_rt, seqK_bk, seqK_ct, retK_rt, retK_nx, ↓sFrz_e, frK_some, ↓sAsg, ↓sRet, ↓sRetN, ↓sIf, ↓sExpr, ↓sSkip, ↓sNever, ↓sPar, ↓sFor, ↓sSub, ↓fVar, ↓fC, ↓fNil, ↓fCons, ↓fA, ↓f1, ↓f2, ↓fB, ↓fIf, ↓fNeg, ↓fNot, ↓fAnd, ↓fOr, ↓bNot, ↓bAnd, ↓bOr, ↓bYes, ↓obnd_x, ob_some, ↓sbnd_x, sb_some, ↓ite_x, iteK_t, iteK_f, gN, gT, gC, gE, ↓rng1I, ↓rng2I, ↓seqI, ↓enumA, ↓zipI, ↓strI, ↓fLc, ↓fDc, ↓fM, ↓fSl, ↓oNone, ↓oSome, ↓fRev, wipeE, ↓kwM, permM, permL, List.foldr, List.length_cons, List.length_nil, List.map_cons, List.map_nil, List.cons_append, List.nil_append, List.replicate, List.replicate_succ, List.replicate_zero, List.getElem?_cons_zero, List.getElem?_cons_succ, List.set_cons_zero, List.set_cons_succ, if_true, if_false, reduceIte, Nat.reduceAdd, Nat.reduceSub, Nat.reduceEqDiff, Nat.reduceLT, Nat.reduceLeDiff, Int.reduceLT, Int.reduceLE, Int.reduceNeg, Int.reduceMul, Int.reduceAdd, Int.reduceSub, Int.reduceToNat, Int.reducePow, Int.reduceEq, ok, bok, deref, mkL, lstW, tupW, dats, Option.map_some, appendW, insertW, setL, isL, listW, tupleW, lenW, absW, intC, maxW, minW, idxW, addW, subW_e, modW_e, divW_e, powW_e, mulW, intW, lt_e, gt_e, le_e, ge_e, ltW, allW_e, anyW_e, sumW_e, lW, setW, lstAt, cutW, backW, isW, isiW, iLT_none, iLT_bool, iLT_int, iLT_str, iLT_list, iLT_tup, iL_none, iL_bool, iL_int, iL_str, iL_list, iL_tup, iT_none, iT_bool, iT_int, iT_str, iT_list, iT_tup, iS_none, iS_bool, iS_int, iS_str, iS_list, iS_tup, iI_none, iI_bool, iI_int, iI_str, iI_list, iI_tup, iB_none, iB_bool, iB_int, iB_str, iB_list, iB_tup, Bool.false_eq_true, reduceCtorEq, Bool.not_true, Bool.not_false, decide_true, decide_false, List.zip_cons_cons, List.zip_nil_left, List.foldl_cons, List.foldl_nil, and_self, and_true, true_and, Bool.and_true, Bool.true_and, Bool.or_true, Bool.true_or, *])
theorem eqW_ints {neg : Bool} {i j : Int} {h : Hh} : eqW neg (.dat (.int i)) (.dat (.int j)) h = bok (if neg = true then !decide (i = j) else decide (i = j)) h := by
  rfl
theorem cut_to {α : Type} (xs : List α) {k : Nat} : cutG xs none (some (k : Int)) = xs.take k := by
  have e : HT.sIx xs.length xs.length (some (k : Int)) = min k xs.length := HT.sIx_nat _ _ _
  have e0 : HT.sIx xs.length 0 none = 0 := rfl
  unfold cutG
  rw [e, e0]
  simp only [List.drop_zero, Nat.sub_zero]
  rw [List.take_eq_take_iff]
  omega
end DL
set_option maxRecDepth 100000
set_option maxHeartbeats 400000
namespace DL
open PySem L2
variable [HW]
local macro_rules | `(tactic| walk_at "dl") => `(tactic| simp (config := { dsimp := false }) only [↓fnM_e, ↓sSeq_e, seqK_nx, seqK_rt, seqK_bk, seqK_ct, retK_rt, retK_nx, ↓sFrz_e, frK_some, ↓sAsg, ↓sRet, ↓sRetN, ↓sIf, ↓sExpr, ↓sSkip, ↓sNever, ↓sPar, ↓sFor, ↓sSub, ↓fVar, ↓fC, ↓fNil, ↓fCons, ↓fA, ↓f1, ↓f2, ↓fB, ↓fIf, ↓fNeg, ↓fNot, ↓fAnd, ↓fOr, ↓bNot, ↓bAnd, ↓bOr, ↓bYes, ↓obnd_x, ob_some, ↓sbnd_x, sb_some, ↓ite_x, iteK_t, iteK_f, gN, gT, gC, gE, ↓rng1I, ↓rng2I, ↓seqI, ↓enumA, ↓zipI, ↓strI, ↓fLc, ↓fDc, ↓fM, ↓fSl, ↓oNone, ↓oSome, ↓fRev, wipeE, ↓kwM, permM, permL, List.foldr, List.length_cons, List.length_nil, List.map_cons, List.map_nil, List.cons_append, List.nil_append, List.replicate, List.replicate_succ, List.replicate_zero, List.getElem?_cons_zero, List.getElem?_cons_succ, List.set_cons_zero, List.set_cons_succ, if_true, if_false, reduceIte, Nat.reduceAdd, Nat.reduceSub, Nat.reduceEqDiff, Nat.reduceLT, Nat.reduceLeDiff, Int.reduceLT, Int.reduceLE, Int.reduceNeg, Int.reduceMul, Int.reduceAdd, Int.reduceSub, Int.reduceToNat, Int.reducePow, Int.reduceEq, ok, bok, deref, mkL, lstW, tupW, dats, Option.map_some, appendW, insertW, setL, isL, listW, tupleW, lenW, absW, intC, maxW, minW, idxW, addW, subW_e, modW_e, divW_e, powW_e, mulW, intW, lt_e, gt_e, le_e, ge_e, ltW, allW_e, anyW_e, sumW_e, lW, setW, lstAt, cutW, backW, isW, isiW, iLT_none, iLT_bool, iLT_int, iLT_str, iLT_list, iLT_tup, iL_none, iL_bool, iL_int, iL_str, iL_list, iL_tup, iT_none, iT_bool, iT_int, iT_str, iT_list, iT_tup, iS_none, iS_bool, iS_int, iS_str, iS_list, iS_tup, iI_none, iI_bool, iI_int, iI_str, iI_list, iI_tup, iB_none, iB_bool, iB_int, iB_str, iB_list, iB_tup, Bool.false_eq_true, reduceCtorEq, Bool.not_true, Bool.not_false, decide_true, decide_false, List.zip_cons_cons, List.zip_nil_left, List.foldl_cons, List.foldl_nil, and_self, and_true, true_and, Bool.and_true, Bool.true_and, Bool.or_true, Bool.true_or, *])
theorem app_take {g : Hh} {o : Option MO} {n : Nat} (e : g.length = n) : (g ++ [o]).take n = g := by
  rw [← e, List.take_append_of_le_length (Nat.le_refl _), List.take_length]
theorem app_get {g : Hh} {o : Option MO} {n : Nat} (e : g.length = n) : (g ++ [o])[n]? = some o := by
  rw [List.getElem?_append_right (by omega), e]; simp
theorem app_set {g : Hh} {o o' : Option MO} {n : Nat} (e : g.length = n) : (g ++ [o]).set n o' = g ++ [o'] := by
  rw [List.set_append_right _ _ (by omega), show n - g.length = 0 by omega]; rfl
end DL
set_option maxRecDepth 100000
set_option maxHeartbeats 400000
namespace DL
open PySem L2
variable [HW]
local macro_rules | `(tactic| walk_at "dl") => `(tactic| simp (config := { dsimp := false }) only [↓fnM_e, ↓sSeq_e, seqK_nx, seqK_rt, seqK_bk, seqK_ct, retK_rt, retK_nx, ↓sFrz_e, frK_some, ↓sAsg, ↓sRet, ↓sRetN, ↓sIf, ↓sExpr, ↓sSkip, ↓sNever, ↓sPar, ↓sFor, ↓sSub, ↓fVar, ↓fC, ↓fNil, ↓fCons, ↓fA, ↓f1, ↓f2, ↓fB, ↓fIf, ↓fNeg, ↓fNot, ↓fAnd, ↓fOr, ↓bNot, ↓bAnd, ↓bOr, ↓bYes, ↓obnd_x, ob_some, ↓sbnd_x, sb_some, ↓ite_x, iteK_t, iteK_f, gN, gT, gC, gE, ↓rng1I, ↓rng2I, ↓seqI, ↓enumA, ↓zipI, ↓strI, ↓fLc, ↓fDc, ↓fM, ↓fSl, ↓oNone, ↓oSome, ↓fRev, wipeE, ↓kwM, permM, permL, List.foldr, List.length_cons, List.length_nil, List.map_cons, List.map_nil, List.cons_append, List.nil_append, List.replicate, List.replicate_succ, List.replicate_zero, List.getElem?_cons_zero, List.getElem?_cons_succ, List.set_cons_zero, List.set_cons_succ, if_true, if_false, reduceIte, Nat.reduceAdd, Nat.reduceSub, Nat.reduceEqDiff, Nat.reduceLT, Nat.reduceLeDiff, Int.reduceLT, Int.reduceLE, Int.reduceNeg, Int.reduceMul, Int.reduceAdd, Int.reduceSub, Int.reduceToNat, Int.reducePow, Int.reduceEq, ok, bok, deref, mkL, lstW, tupW, dats, Option.map_some, appendW, insertW, setL, isL, listW, tupleW, lenW, absW, intC, maxW, minW, idxW, addW, subW_e, modW_e, divW_e, powW_e, mulW, intW, lt_e, gt_e, le_e, ge_e, ltW, allW_e, anyW_e, sumW_e, lW, setW, lstAt, cutW, backW, isW, isiW, iLT_none, iLT_bool, iLT_int, iLT_str, iLT_list, iLT_tup, iL_none, iL_bool, iL_int, iL_str, iL_list, iL_tup, iT_none, iT_bool, iT_int, iT_str, iT_list, iT_tup, iS_none, iS_bool, iS_int, iS_str, iS_list, iS_tup, iI_none, iI_bool, iI_int, iI_str, iI_list, iI_tup, iB_none, iB_bool, iB_int, iB_str, iB_list, iB_tup, Bool.false_eq_true, reduceCtorEq, Bool.not_true, Bool.not_false, decide_true, decide_false, List.zip_cons_cons, List.zip_nil_left, List.foldl_cons, List.foldl_nil, and_self, and_true, true_and, Bool.and_true, Bool.true_and, Bool.or_true, Bool.true_or, *])
def NameOk (s : Str) : Prop := 1 ≤ s.length ∧ s.length ≤ 6 ∧ ∀ c ∈ s.cps.toList, 97 ≤ c ∧ c ≤ 122
theorem nm_name {st sp a : Nat} : NameOk (nm st sp a) := by
  refine ⟨?_, ?_, fun c hc => ?_⟩
  · unfold nm
    rw [len_app]
    show 1 ≤ 1 + _
    omega
  · unfold nm
    rw [len_app]
    have := sfx_le (a % 2 * (1 + st % 2))
    show 1 + _ ≤ _
    omega
  · rw [nm_cps] at hc
    rcases List.mem_cons.mp hc with rfl | hc
    · omega
    · generalize a % 2 * (1 + st % 2) = k at hc
      match k, hc with
      | 0, hc => rw [sfx_len.1] at hc; cases hc
      | 1, hc => rw [sfx_len.2.1] at hc; simp at hc; omega
      | _ + 2, hc =>
        have hc' : c ∈ (sfx 2).cps.toList := hc
        rw [sfx_len.2.2] at hc'; simp at hc'; omega
theorem Crew.names {most : Nat} {rs : List Str} (h : Crew most rs) : ∀ s ∈ rs, NameOk s := fun s hs => by
  obtain ⟨st, sp, a, _, _, rfl⟩ := h.nam s hs
  exact nm_name
end DL
set_option maxRecDepth 100000
set_option maxHeartbeats 400000
namespace DL
open PySem L2
variable [HW]
abbrev TxtP (ps : List (Str × Str)) : Prop := ∀ p ∈ ps, TxtOk p.1 ∧ TxtOk p.2
theorem CallOf.txts {r : List Str} {ps : List (Str × Str)} (c : CallOf r ps) (ht : Txts r) : TxtP ps := fun p hp =>
  ⟨ht _ (c.perm.mem_iff.mp (List.mem_map.mpr ⟨p, hp, rfl⟩)), ht _ (c.tgt p hp)⟩
theorem prTx_pairs : ∀ ps : List (Str × Str), prTx (ps.map prT) = some ps
  | [] => rfl
  | p :: ps => by
    rw [List.map_cons]
    show (prTx (ps.map prT)).map ((p.1, p.2) :: ·) = _
    rw [prTx_pairs ps]; rfl
theorem callD_pairs {ps : List (Str × Str)} (h0 : 0 < ps.length) (nd : (ps.map (·.1)).Nodup) : callD (ps.map prT) = true := by
  suffices e : pairD (ps.map prT) = true by
    unfold callD
    first | rw [e, Bool.true_or] | rw [e]
  unfold pairD
  rw [prTx_pairs]
  cases ps with
  | nil => simp at h0
  | cons p ps => simp only [List.isEmpty_cons, Bool.not_false, Bool.true_and, decide_eq_true_eq]; exact nd
theorem prs_tld (ps : List (Str × Str)) : ps.map prT = prs (tld ps) := by
  unfold prs tld
  rw [List.map_map]; rfl
theorem dict_call {ps : List (Str × Str)} {h : Hh} (h0 : 0 < ps.length) (nd : (ps.map (·.1)).Nodup) : dictA false [.dat (.tuple (ps.map prT))] h = some (.dat (.dict (sdic (tld ps))), h) := by
  have e := pairsK_prs (tld ps)
  have e2 := merge_sdic (tld ps) [] (by rw [List.nil_append, tld_keys]; exact nd)
  have e3 : mergeD [] ((tld ps).map fun p => (Sum.inr p.1, p.2)) = sdic (tld ps) := e2
  have ec := callD_pairs h0 nd
  unfold dictA
  simp only [deref, ec, if_true]
  rw [prs_tld, e]
  simp only [e3, mkK, Bool.false_eq_true, if_false]
end DL
set_option maxRecDepth 100000
set_option maxHeartbeats 400000
namespace DL
open PySem L2
variable [HW]
local macro_rules | `(tactic| walk_at "dl") => `(tactic| simp (config := { dsimp := false }) only [↓fnM_e, ↓sSeq_e, seqK_nx, seqK_rt, seqK_bk, seqK_ct, retK_rt, retK_nx, ↓sFrz_e, frK_some, ↓sAsg, ↓sRet, ↓sRetN, ↓sIf, ↓sExpr, ↓sSkip, ↓sNever, ↓sPar, ↓sFor, ↓sSub, ↓fVar, ↓fC, ↓fNil, ↓fCons, ↓fA, ↓f1, ↓f2, ↓fB, ↓fIf, ↓fNeg, ↓fNot, ↓fAnd, ↓fOr, ↓bNot, ↓bAnd, ↓bOr, ↓bYes, ↓obnd_x, ob_some, ↓sbnd_x, sb_some, ↓ite_x, iteK_t, iteK_f, gN, gT, gC, gE, ↓rng1I, ↓rng2I, ↓seqI, ↓enumA, ↓zipI, ↓strI, ↓fLc, ↓fDc, ↓fM, ↓fSl, ↓oNone, ↓oSome, ↓fRev, wipeE, ↓kwM, permM, permL, List.foldr, List.length_cons, List.length_nil, List.map_cons, List.map_nil, List.cons_append, List.nil_append, List.replicate, List.replicate_succ, List.replicate_zero, List.getElem?_cons_zero, List.getElem?_cons_succ, List.set_cons_zero, List.set_cons_succ, if_true, if_false, reduceIte, Nat.reduceAdd, Nat.reduceSub, Nat.reduceEqDiff, Nat.reduceLT, Nat.reduceLeDiff, Int.reduceLT, Int.reduceLE, Int.reduceNeg, Int.reduceMul, Int.reduceAdd, Int.reduceSub, Int.reduceToNat, Int.reducePow, Int.reduceEq, ok, bok, deref, mkL, lstW, tupW, dats, Option.map_some, appendW, insertW, setL, isL, listW, tupleW, lenW, absW, intC, maxW, minW, idxW, addW, subW_e, modW_e, divW_e, powW_e, mulW, intW, lt_e, gt_e, le_e, ge_e, ltW, allW_e, anyW_e, sumW_e, lW, setW, lstAt, cutW, backW, isW, isiW, iLT_none, iLT_bool, iLT_int, iLT_str, iLT_list, iLT_tup, iL_none, iL_bool, iL_int, iL_str, iL_list, iL_tup, iT_none, iT_bool, iT_int, iT_str, iT_list, iT_tup, iS_none, iS_bool, iS_int, iS_str, iS_list, iS_tup, iI_none, iI_bool, iI_int, iI_str, iI_list, iI_tup, iB_none, iB_bool, iB_int, iB_str, iB_list, iB_tup, Bool.false_eq_true, reduceCtorEq, Bool.not_true, Bool.not_false, decide_true, decide_false, List.zip_cons_cons, List.zip_nil_left, List.foldl_cons, List.foldl_nil, and_self, and_true, true_and, Bool.and_true, Bool.true_and, Bool.or_true, Bool.true_or, *])
theorem pw_idx {r : List Str} (nd : r.Nodup) : r.Pairwise fun a b => r.idxOf a < r.idxOf b := by
  rw [List.pairwise_iff_getElem]
  intro i j hi hj hij
  rw [idx_of nd hi, idx_of nd hj]
  exact hij
end DL
set_option maxRecDepth 100000
set_option maxHeartbeats 400000
namespace DL
open PySem L2
variable [HW]
local macro_rules | `(tactic| walk_at "dl") => `(tactic| simp (config := { dsimp := false }) only [↓fnM_e, ↓sSeq_e, seqK_nx, seqK_rt, seqK_bk, seqK_ct, retK_rt, retK_nx, ↓sFrz_e, frK_some, ↓sAsg, ↓sRet, ↓sRetN, ↓sIf, ↓sExpr, ↓sSkip, ↓sNever, ↓sPar, ↓sFor, ↓sSub, ↓fVar, ↓fC, ↓fNil, ↓fCons, ↓fA, ↓f1, ↓f2, ↓fB, ↓fIf, ↓fNeg, ↓fNot, ↓fAnd, ↓fOr, ↓bNot, ↓bAnd, ↓bOr, ↓bYes, ↓obnd_x, ob_some, ↓sbnd_x, sb_some, ↓ite_x, iteK_t, iteK_f, gN, gT, gC, gE, ↓rng1I, ↓rng2I, ↓seqI, ↓enumA, ↓zipI, ↓strI, ↓fLc, ↓fDc, ↓fM, ↓fSl, ↓oNone, ↓oSome, ↓fRev, wipeE, ↓kwM, permM, permL, List.foldr, List.length_cons, List.length_nil, List.map_cons, List.map_nil, List.cons_append, List.nil_append, List.replicate, List.replicate_succ, List.replicate_zero, List.getElem?_cons_zero, List.getElem?_cons_succ, List.set_cons_zero, List.set_cons_succ, if_true, if_false, reduceIte, Nat.reduceAdd, Nat.reduceSub, Nat.reduceEqDiff, Nat.reduceLT, Nat.reduceLeDiff, Int.reduceLT, Int.reduceLE, Int.reduceNeg, Int.reduceMul, Int.reduceAdd, Int.reduceSub, Int.reduceToNat, Int.reducePow, Int.reduceEq, ok, bok, deref, mkL, lstW, tupW, dats, Option.map_some, appendW, insertW, setL, isL, listW, tupleW, lenW, absW, intC, maxW, minW, idxW, addW, subW_e, modW_e, divW_e, powW_e, mulW, intW, lt_e, gt_e, le_e, ge_e, ltW, allW_e, anyW_e, sumW_e, lW, setW, lstAt, cutW, backW, isW, isiW, iLT_none, iLT_bool, iLT_int, iLT_str, iLT_list, iLT_tup, iL_none, iL_bool, iL_int, iL_str, iL_list, iL_tup, iT_none, iT_bool, iT_int, iT_str, iT_list, iT_tup, iS_none, iS_bool, iS_int, iS_str, iS_list, iS_tup, iI_none, iI_bool, iI_int, iI_str, iI_list, iI_tup, iB_none, iB_bool, iB_int, iB_str, iB_list, iB_tup, Bool.false_eq_true, reduceCtorEq, Bool.not_true, Bool.not_false, decide_true, decide_false, List.zip_cons_cons, List.zip_nil_left, List.foldl_cons, List.foldl_nil, and_self, and_true, true_and, Bool.and_true, Bool.true_and, Bool.or_true, Bool.true_or, *])
structure Folk (most : Nat) (rs : List Str) : Prop where
  nd : rs.Nodup
  pos : 0 < rs.length
  le : rs.length ≤ most
  nam : ∀ s ∈ rs, NameOk s
theorem NameOk.txt {s : Str} (h : NameOk s) : TxtOk s := ⟨by have := h.2.1; omega, fun c hc => by have := h.2.2 c hc; omega⟩
theorem Folk.txts {n : Nat} {rs : List Str} (h : Folk n rs) : Txts rs := fun s hs => (h.nam s hs).txt
theorem Folk.perm {n : Nat} {rs ms : List Str} (h : Folk n rs) (p : ms.Perm rs) : Folk n ms := ⟨p.nodup_iff.mpr h.nd, by rw [p.length_eq]; exact h.pos, by rw [p.length_eq]; exact h.le, fun s hs => h.nam s (p.mem_iff.mp hs)⟩
abbrev qqq : Str := "qqq"
theorem qqq_cps : qqq.cps.toList = [113, 113, 113] := by decide +kernel
theorem qqq_nm {st sp a : Nat} : nm st sp a ≠ qqq := fun e => by
  have e' := congrArg (fun s : Str => s.cps.toList) e
  simp only [nm_cps, qqq_cps] at e'
  injection e' with _ e2
  generalize a % 2 * (1 + st % 2) = k at e2
  match k, e2 with
  | 0, e2 => rw [sfx_len.1] at e2; cases e2
  | 1, e2 => rw [sfx_len.2.1] at e2; simp at e2
  | _ + 2, e2 =>
    have e3 : (sfx 2).cps.toList = [113, 113] := e2
    rw [sfx_len.2.2] at e3; simp at e3
theorem qqq_len : qqq.length = 3 := by decide +kernel
theorem Crew.more {n : Nat} {rs : List Str} (h : Crew n rs) : Folk (n + 1) (rs ++ [qqq]) ∧ 2 ≤ (rs ++ [qqq]).length := by
  refine ⟨⟨?_, by simp, by simp; exact h.le, fun s hs => ?_⟩, by simp; exact h.pos⟩
  · rw [List.nodup_append]
    refine ⟨h.nd, by simp, fun a ha b hb e => ?_⟩
    rw [List.mem_singleton] at hb
    subst hb e
    obtain ⟨st, sp, x, _, _, e⟩ := h.nam _ ha
    exact qqq_nm e.symm
  · rcases List.mem_append.mp hs with hs | hs
    · exact h.names s hs
    · rw [List.mem_singleton] at hs
      subst hs
      refine ⟨by rw [qqq_len]; omega, by rw [qqq_len]; omega, fun c hc => ?_⟩
      rw [qqq_cps] at hc
      simp at hc
      omega
abbrev cT (ps : List (Str × Str)) : D := .tuple (ps.map prT)
abbrev Words (r : List Str) (ws : List (List (Str × Str))) : Prop := ∀ ps ∈ ws, CallOf r ps
theorem Words.perm {r r' : List Str} {ws : List (List (Str × Str))} (h : Words r ws) (p : r.Perm r') : Words r' ws := fun ps hp => (h ps hp).of_perm p
end DL
set_option maxRecDepth 100000
set_option maxHeartbeats 400000
namespace DL
open PySem L2
variable [HW]
local macro_rules | `(tactic| walk_at "dl") => `(tactic| simp (config := { dsimp := false }) only [↓fnM_e, ↓sSeq_e, seqK_nx, seqK_rt, seqK_bk, seqK_ct, retK_rt, retK_nx, ↓sFrz_e, frK_some, ↓sAsg, ↓sRet, ↓sRetN, ↓sIf, ↓sExpr, ↓sSkip, ↓sNever, ↓sPar, ↓sFor, ↓sSub, ↓fVar, ↓fC, ↓fNil, ↓fCons, ↓fA, ↓f1, ↓f2, ↓fB, ↓fIf, ↓fNeg, ↓fNot, ↓fAnd, ↓fOr, ↓bNot, ↓bAnd, ↓bOr, ↓bYes, ↓obnd_x, ob_some, ↓sbnd_x, sb_some, ↓ite_x, iteK_t, iteK_f, gN, gT, gC, gE, ↓rng1I, ↓rng2I, ↓seqI, ↓enumA, ↓zipI, ↓strI, ↓fLc, ↓fDc, ↓fM, ↓fSl, ↓oNone, ↓oSome, ↓fRev, wipeE, ↓kwM, permM, permL, List.foldr, List.length_cons, List.length_nil, List.map_cons, List.map_nil, List.cons_append, List.nil_append, List.replicate, List.replicate_succ, List.replicate_zero, List.getElem?_cons_zero, List.getElem?_cons_succ, List.set_cons_zero, List.set_cons_succ, if_true, if_false, reduceIte, Nat.reduceAdd, Nat.reduceSub, Nat.reduceEqDiff, Nat.reduceLT, Nat.reduceLeDiff, Int.reduceLT, Int.reduceLE, Int.reduceNeg, Int.reduceMul, Int.reduceAdd, Int.reduceSub, Int.reduceToNat, Int.reducePow, Int.reduceEq, ok, bok, deref, mkL, lstW, tupW, dats, Option.map_some, appendW, insertW, setL, isL, listW, tupleW, lenW, absW, intC, maxW, minW, idxW, addW, subW_e, modW_e, divW_e, powW_e, mulW, intW, lt_e, gt_e, le_e, ge_e, ltW, allW_e, anyW_e, sumW_e, lW, setW, lstAt, cutW, backW, isW, isiW, iLT_none, iLT_bool, iLT_int, iLT_str, iLT_list, iLT_tup, iL_none, iL_bool, iL_int, iL_str, iL_list, iL_tup, iT_none, iT_bool, iT_int, iT_str, iT_list, iT_tup, iS_none, iS_bool, iS_int, iS_str, iS_list, iS_tup, iI_none, iI_bool, iI_int, iI_str, iI_list, iI_tup, iB_none, iB_bool, iB_int, iB_str, iB_list, iB_tup, Bool.false_eq_true, reduceCtorEq, Bool.not_true, Bool.not_false, decide_true, decide_false, List.zip_cons_cons, List.zip_nil_left, List.foldl_cons, List.foldl_nil, and_self, and_true, true_and, Bool.and_true, Bool.true_and, Bool.or_true, Bool.true_or, *])
abbrev dW (ps : List (Str × Str)) : D := .dict (sdic (tld ps))
theorem eqW_strs {neg : Bool} {i j : Str} {h : Hh} : eqW neg (.dat (.str i)) (.dat (.str j)) h = bok (if neg = true then !decide (i = j) else decide (i = j)) h := by
  unfold eqW
  simp only [deref, eqS]
def cD (l : Bool) (ps : List (Str × Str)) : D := if l = true then .list (ps.map (prW true)) else .tuple (ps.map prT)
end DL
set_option maxRecDepth 100000
set_option maxHeartbeats 400000
namespace DL
open PySem L2
variable [HW]
local macro_rules | `(tactic| walk_at "dl") => `(tactic| simp (config := { dsimp := false }) only [↓fnM_e, ↓sSeq_e, seqK_nx, seqK_rt, seqK_bk, seqK_ct, retK_rt, retK_nx, ↓sFrz_e, frK_some, ↓sAsg, ↓sRet, ↓sRetN, ↓sIf, ↓sExpr, ↓sSkip, ↓sNever, ↓sPar, ↓sFor, ↓sSub, ↓fVar, ↓fC, ↓fNil, ↓fCons, ↓fA, ↓f1, ↓f2, ↓fB, ↓fIf, ↓fNeg, ↓fNot, ↓fAnd, ↓fOr, ↓bNot, ↓bAnd, ↓bOr, ↓bYes, ↓obnd_x, ob_some, ↓sbnd_x, sb_some, ↓ite_x, iteK_t, iteK_f, gN, gT, gC, gE, ↓rng1I, ↓rng2I, ↓seqI, ↓enumA, ↓zipI, ↓strI, ↓fLc, ↓fDc, ↓fM, ↓fSl, ↓oNone, ↓oSome, ↓fRev, wipeE, ↓kwM, permM, permL, List.foldr, List.length_cons, List.length_nil, List.map_cons, List.map_nil, List.cons_append, List.nil_append, List.replicate, List.replicate_succ, List.replicate_zero, List.getElem?_cons_zero, List.getElem?_cons_succ, List.set_cons_zero, List.set_cons_succ, if_true, if_false, reduceIte, Nat.reduceAdd, Nat.reduceSub, Nat.reduceEqDiff, Nat.reduceLT, Nat.reduceLeDiff, Int.reduceLT, Int.reduceLE, Int.reduceNeg, Int.reduceMul, Int.reduceAdd, Int.reduceSub, Int.reduceToNat, Int.reducePow, Int.reduceEq, ok, bok, deref, mkL, lstW, tupW, dats, Option.map_some, appendW, insertW, setL, isL, listW, tupleW, lenW, absW, intC, maxW, minW, idxW, addW, subW_e, modW_e, divW_e, powW_e, mulW, intW, lt_e, gt_e, le_e, ge_e, ltW, allW_e, anyW_e, sumW_e, lW, setW, lstAt, cutW, backW, isW, isiW, iLT_none, iLT_bool, iLT_int, iLT_str, iLT_list, iLT_tup, iL_none, iL_bool, iL_int, iL_str, iL_list, iL_tup, iT_none, iT_bool, iT_int, iT_str, iT_list, iT_tup, iS_none, iS_bool, iS_int, iS_str, iS_list, iS_tup, iI_none, iI_bool, iI_int, iI_str, iI_list, iI_tup, iB_none, iB_bool, iB_int, iB_str, iB_list, iB_tup, Bool.false_eq_true, reduceCtorEq, Bool.not_true, Bool.not_false, decide_true, decide_false, List.zip_cons_cons, List.zip_nil_left, List.foldl_cons, List.foldl_nil, and_self, and_true, true_and, Bool.and_true, Bool.true_and, Bool.or_true, Bool.true_or, *])
abbrev rowT (r : List Str) : D := .tuple (r.map .str)
end DL
set_option maxRecDepth 100000
set_option maxHeartbeats 400000
namespace DL
open PySem L2
variable [HW]
local macro_rules | `(tactic| walk_at "dl") => `(tactic| simp (config := { dsimp := false }) only [↓fnM_e, ↓sSeq_e, seqK_nx, seqK_rt, seqK_bk, seqK_ct, retK_rt, retK_nx, ↓sFrz_e, frK_some, ↓sAsg, ↓sRet, ↓sRetN, ↓sIf, ↓sExpr, ↓sSkip, ↓sNever, ↓sPar, ↓sFor, ↓sSub, ↓fVar, ↓fC, ↓fNil, ↓fCons, ↓fA, ↓f1, ↓f2, ↓fB, ↓fIf, ↓fNeg, ↓fNot, ↓fAnd, ↓fOr, ↓bNot, ↓bAnd, ↓bOr, ↓bYes, ↓obnd_x, ob_some, ↓sbnd_x, sb_some, ↓ite_x, iteK_t, iteK_f, gN, gT, gC, gE, ↓rng1I, ↓rng2I, ↓seqI, ↓enumA, ↓zipI, ↓strI, ↓fLc, ↓fDc, ↓fM, ↓fSl, ↓oNone, ↓oSome, ↓fRev, wipeE, ↓kwM, permM, permL, List.foldr, List.length_cons, List.length_nil, List.map_cons, List.map_nil, List.cons_append, List.nil_append, List.replicate, List.replicate_succ, List.replicate_zero, List.getElem?_cons_zero, List.getElem?_cons_succ, List.set_cons_zero, List.set_cons_succ, if_true, if_false, reduceIte, Nat.reduceAdd, Nat.reduceSub, Nat.reduceEqDiff, Nat.reduceLT, Nat.reduceLeDiff, Int.reduceLT, Int.reduceLE, Int.reduceNeg, Int.reduceMul, Int.reduceAdd, Int.reduceSub, Int.reduceToNat, Int.reducePow, Int.reduceEq, ok, bok, deref, mkL, lstW, tupW, dats, Option.map_some, appendW, insertW, setL, isL, listW, tupleW, lenW, absW, intC, maxW, minW, idxW, addW, subW_e, modW_e, divW_e, powW_e, mulW, intW, lt_e, gt_e, le_e, ge_e, ltW, allW_e, anyW_e, sumW_e, lW, setW, lstAt, cutW, backW, isW, isiW, iLT_none, iLT_bool, iLT_int, iLT_str, iLT_list, iLT_tup, iL_none, iL_bool, iL_int, iL_str, iL_list, iL_tup, iT_none, iT_bool, iT_int, iT_str, iT_list, iT_tup, iS_none, iS_bool, iS_int, iS_str, iS_list, iS_tup, iI_none, iI_bool, iI_int, iI_str, iI_list, iI_tup, iB_none, iB_bool, iB_int, iB_str, iB_list, iB_tup, Bool.false_eq_true, reduceCtorEq, Bool.not_true, Bool.not_false, decide_true, decide_false, List.zip_cons_cons, List.zip_nil_left, List.foldl_cons, List.foldl_nil, and_self, and_true, true_and, Bool.and_true, Bool.true_and, Bool.or_true, Bool.true_or, *])
theorem notin_row {s : Str} {r : List Str} {h : Hh} : inW true (.dat (.str s)) (.dat (rowT r)) h = some (.dat (.bool (decide (s ∉ r))), h) := by
  have e1 : ((r.map PyData.str).all flatD) = true := by
    rw [List.all_eq_true]
    intro d hd
    obtain ⟨s, hs, rfl⟩ := List.mem_map.mp hd
    rfl
  have e2 : ((r.map PyData.str).any fun z => PyData.eqv z (.str s)) = decide (s ∈ r) := by
    rw [List.any_map]
    induction r with
    | nil => rfl
    | cons t r ih =>
      have := ih (by
        rw [List.all_eq_true]
        intro d hd
        obtain ⟨s, hs, rfl⟩ := List.mem_map.mp hd
        rfl)
      rw [List.any_cons, this]
      have q : (((fun z => PyData.eqv z (.str s)) ∘ PyData.str) t) = decide (s = t) := by
        show PyData.eqv (.str t) (.str s) = _
        by_cases z : s = t
        · subst z; simp [PyData.eqv]
        · have z' : ¬ t = s := fun w => z w.symm
          simp [PyData.eqv, z, z']
      rw [q]
      simp [List.mem_cons]
  unfold inW
  simp only [deref, flatD, e1, e2, Bool.and_self, if_true]
  show bok (!decide (s ∈ r)) h = _
  rw [decide_not]; rfl
def moreR (cr r : List Str) : List (List Str) := (cr.filter fun s => decide (s ∉ r)).map fun s => r ++ [s]
theorem more_lc {x : W} {cr r : List Str} {v1 v2 v3 : Option W} {h : Hh} (hr : r.length ≤ 1000) : lcL (gN 5) (fB (f2 (inW true) (fVar 5) (fVar 4))) (f2 (addW false) (fVar 4) (fA tupW (fCons (fVar 5) (fNil)))) [some x, v1, v2, v3, some (.dat (rowT r)), none] (cr.map .str) h = some ((moreR cr r).map rowT, h) := by
  have hz : sizeLine = 16777216 := rfl
  have e := lcL_map (k := gN 5) (t := fB (f2 (inW true) (fVar 5) (fVar 4))) (f := f2 (addW false) (fVar 4) (fA tupW (fCons (fVar 5) (fNil)))) (ρ := [some x, v1, v2, v3, some (.dat (rowT r)), none]) (h := h) (fun d => decide (unS d ∉ r)) (fun d => rowT (r ++ [unS d])) (ds := cr.map .str) (by
    intro d hd
    obtain ⟨s, hs, rfl⟩ := List.mem_map.mp hd
    refine ⟨[some x, v1, v2, v3, some (.dat (rowT r)), some (.dat (.str s))], rfl, ?_, fun _ => ?_⟩
    · have e := notin_row (s := s) (r := r) (h := h)
      clear hr hz hd hs
      walk_at "dl"
      rfl
    · have e : (r.map PyData.str).length + 1 ≤ sizeLine := by rw [List.length_map]; omega
      have e2 : rowT (r ++ [unS (.str s)]) = .tuple (r.map .str ++ [.str s]) := by
        show PyData.tuple _ = _
        rw [List.map_append]; rfl
      have c1 : 1 ≤ sizeLine := by omega
      rw [e2]
      clear hr hz hd hs e2
      walk_at "dl")
  rw [e]
  congr 2
  unfold moreR
  rw [List.filter_map, List.map_map, List.map_map]
  rfl
end DL
set_option maxRecDepth 100000
set_option maxHeartbeats 400000
namespace DL
open PySem L2
variable [HW]
local macro_rules | `(tactic| walk_at "dl") => `(tactic| simp (config := { dsimp := false }) only [↓fnM_e, ↓sSeq_e, seqK_nx, seqK_rt, seqK_bk, seqK_ct, retK_rt, retK_nx, ↓sFrz_e, frK_some, ↓sAsg, ↓sRet, ↓sRetN, ↓sIf, ↓sExpr, ↓sSkip, ↓sNever, ↓sPar, ↓sFor, ↓sSub, ↓fVar, ↓fC, ↓fNil, ↓fCons, ↓fA, ↓f1, ↓f2, ↓fB, ↓fIf, ↓fNeg, ↓fNot, ↓fAnd, ↓fOr, ↓bNot, ↓bAnd, ↓bOr, ↓bYes, ↓obnd_x, ob_some, ↓sbnd_x, sb_some, ↓ite_x, iteK_t, iteK_f, gN, gT, gC, gE, ↓rng1I, ↓rng2I, ↓seqI, ↓enumA, ↓zipI, ↓strI, ↓fLc, ↓fDc, ↓fM, ↓fSl, ↓oNone, ↓oSome, ↓fRev, wipeE, ↓kwM, permM, permL, List.foldr, List.length_cons, List.length_nil, List.map_cons, List.map_nil, List.cons_append, List.nil_append, List.replicate, List.replicate_succ, List.replicate_zero, List.getElem?_cons_zero, List.getElem?_cons_succ, List.set_cons_zero, List.set_cons_succ, if_true, if_false, reduceIte, Nat.reduceAdd, Nat.reduceSub, Nat.reduceEqDiff, Nat.reduceLT, Nat.reduceLeDiff, Int.reduceLT, Int.reduceLE, Int.reduceNeg, Int.reduceMul, Int.reduceAdd, Int.reduceSub, Int.reduceToNat, Int.reducePow, Int.reduceEq, ok, bok, deref, mkL, lstW, tupW, dats, Option.map_some, appendW, insertW, setL, isL, listW, tupleW, lenW, absW, intC, maxW, minW, idxW, addW, subW_e, modW_e, divW_e, powW_e, mulW, intW, lt_e, gt_e, le_e, ge_e, ltW, allW_e, anyW_e, sumW_e, lW, setW, lstAt, cutW, backW, isW, isiW, iLT_none, iLT_bool, iLT_int, iLT_str, iLT_list, iLT_tup, iL_none, iL_bool, iL_int, iL_str, iL_list, iL_tup, iT_none, iT_bool, iT_int, iT_str, iT_list, iT_tup, iS_none, iS_bool, iS_int, iS_str, iS_list, iS_tup, iI_none, iI_bool, iI_int, iI_str, iI_list, iI_tup, iB_none, iB_bool, iB_int, iB_str, iB_list, iB_tup, Bool.false_eq_true, reduceCtorEq, Bool.not_true, Bool.not_false, decide_true, decide_false, List.zip_cons_cons, List.zip_nil_left, List.foldl_cons, List.foldl_nil, and_self, and_true, true_and, Bool.and_true, Bool.true_and, Bool.or_true, Bool.true_or, *])
end DL
set_option maxRecDepth 100000
set_option maxHeartbeats 400000
namespace DL
open PySem L2
variable [HW]
local macro_rules | `(tactic| walk_at "dl") => `(tactic| simp (config := { dsimp := false }) only [↓fnM_e, ↓sSeq_e, seqK_nx, seqK_rt, seqK_bk, seqK_ct, retK_rt, retK_nx, ↓sFrz_e, frK_some, ↓sAsg, ↓sRet, ↓sRetN, ↓sIf, ↓sExpr, ↓sSkip, ↓sNever, ↓sPar, ↓sFor, ↓sSub, ↓fVar, ↓fC, ↓fNil, ↓fCons, ↓fA, ↓f1, ↓f2, ↓fB, ↓fIf, ↓fNeg, ↓fNot, ↓fAnd, ↓fOr, ↓bNot, ↓bAnd, ↓bOr, ↓bYes, ↓obnd_x, ob_some, ↓sbnd_x, sb_some, ↓ite_x, iteK_t, iteK_f, gN, gT, gC, gE, ↓rng1I, ↓rng2I, ↓seqI, ↓enumA, ↓zipI, ↓strI, ↓fLc, ↓fDc, ↓fM, ↓fSl, ↓oNone, ↓oSome, ↓fRev, wipeE, ↓kwM, permM, permL, List.foldr, List.length_cons, List.length_nil, List.map_cons, List.map_nil, List.cons_append, List.nil_append, List.replicate, List.replicate_succ, List.replicate_zero, List.getElem?_cons_zero, List.getElem?_cons_succ, List.set_cons_zero, List.set_cons_succ, if_true, if_false, reduceIte, Nat.reduceAdd, Nat.reduceSub, Nat.reduceEqDiff, Nat.reduceLT, Nat.reduceLeDiff, Int.reduceLT, Int.reduceLE, Int.reduceNeg, Int.reduceMul, Int.reduceAdd, Int.reduceSub, Int.reduceToNat, Int.reducePow, Int.reduceEq, ok, bok, deref, mkL, lstW, tupW, dats, Option.map_some, appendW, insertW, setL, isL, listW, tupleW, lenW, absW, intC, maxW, minW, idxW, addW, subW_e, modW_e, divW_e, powW_e, mulW, intW, lt_e, gt_e, le_e, ge_e, ltW, allW_e, anyW_e, sumW_e, lW, setW, lstAt, cutW, backW, isW, isiW, iLT_none, iLT_bool, iLT_int, iLT_str, iLT_list, iLT_tup, iL_none, iL_bool, iL_int, iL_str, iL_list, iL_tup, iT_none, iT_bool, iT_int, iT_str, iT_list, iT_tup, iS_none, iS_bool, iS_int, iS_str, iS_list, iS_tup, iI_none, iI_bool, iI_int, iI_str, iI_list, iI_tup, iB_none, iB_bool, iB_int, iB_str, iB_list, iB_tup, Bool.false_eq_true, reduceCtorEq, Bool.not_true, Bool.not_false, decide_true, decide_false, List.zip_cons_cons, List.zip_nil_left, List.foldl_cons, List.foldl_nil, and_self, and_true, true_and, Bool.and_true, Bool.true_and, Bool.or_true, Bool.true_or, *])
theorem idx_inj {r : List Str} {s t : Str} (hs : s ∈ r) (ht : t ∈ r) (e : r.idxOf s = r.idxOf t) : s = t := by
  have h1 := List.getElem_idxOf (List.idxOf_lt_length_of_mem hs)
  have h2 := List.getElem_idxOf (List.idxOf_lt_length_of_mem ht)
  rw [← h1, ← h2]
  simp only [e]
end DL
set_option maxRecDepth 100000
set_option maxHeartbeats 400000
namespace DL
open PySem L2
variable [HW]
structure OnlyP (b : Nat) (h g : Hh) : Prop where
  len : h.length ≤ g.length
  off : ∀ i : Nat, i < h.length → i ≠ b → g[i]? = h[i]?
theorem Only.p {b : Nat} {h g : Hh} (o : Only b h g) : OnlyP b h g := ⟨Nat.le_of_eq o.len.symm, fun i _ n => o.off i n⟩
theorem OnlyP.only {b : Nat} {h g g' : Hh} (o : OnlyP b h g) (o' : Only b g g') : OnlyP b h g' := ⟨by rw [o'.len]; exact o.len, fun i hi n => (o'.off i n).trans (o.off i hi n)⟩
theorem OnlyP.app {b : Nat} {h g l : Hh} (o : OnlyP b h g) : OnlyP b h (g ++ l) := ⟨by rw [List.length_append]; have := o.len; omega, fun i hi n => by
  rw [List.getElem?_append_left (by have := o.len; omega)]; exact o.off i hi n⟩
theorem leave_P {b c c' : Nat} {h g : Hh} {d : D} (x : BoxAt h b c) (y : BoxAt g b c') (o : OnlyP b h g) : ∃ h', leave false h (.dat d) g = some (.dat d, h') ∧ BoxAt h' b c' ∧ Only b h h' := by
  have lb := x.lt
  have y' := box_take y lb
  have on : Only b h (g.take h.length) := ⟨by rw [List.length_take]; have := o.len; omega, fun i n => by
    by_cases hi : i < h.length
    · rw [List.getElem?_take_of_lt hi]; exact o.off i hi n
    · rw [List.getElem?_eq_none (by rw [List.length_take]; omega), List.getElem?_eq_none (by omega)]⟩
  exact ⟨_, leave_dat (live_only x y' on), y', on⟩
theorem Folk.mono {n m : Nat} {rs : List Str} (h : Folk n rs) (k : n ≤ m) : Folk m rs := ⟨h.nd, h.pos, Nat.le_trans h.le k, h.nam⟩
end DL
set_option maxRecDepth 100000
set_option maxHeartbeats 400000
namespace DL
open PySem L2
variable [HW]
local macro_rules | `(tactic| walk_at "dl") => `(tactic| simp (config := { dsimp := false }) only [↓fnM_e, ↓sSeq_e, seqK_nx, seqK_rt, seqK_bk, seqK_ct, retK_rt, retK_nx, ↓sFrz_e, frK_some, ↓sAsg, ↓sRet, ↓sRetN, ↓sIf, ↓sExpr, ↓sSkip, ↓sNever, ↓sPar, ↓sFor, ↓sSub, ↓fVar, ↓fC, ↓fNil, ↓fCons, ↓fA, ↓f1, ↓f2, ↓fB, ↓fIf, ↓fNeg, ↓fNot, ↓fAnd, ↓fOr, ↓bNot, ↓bAnd, ↓bOr, ↓bYes, ↓obnd_x, ob_some, ↓sbnd_x, sb_some, ↓ite_x, iteK_t, iteK_f, gN, gT, gC, gE, ↓rng1I, ↓rng2I, ↓seqI, ↓enumA, ↓zipI, ↓strI, ↓fLc, ↓fDc, ↓fM, ↓fSl, ↓oNone, ↓oSome, ↓fRev, wipeE, ↓kwM, permM, permL, List.foldr, List.length_cons, List.length_nil, List.map_cons, List.map_nil, List.cons_append, List.nil_append, List.replicate, List.replicate_succ, List.replicate_zero, List.getElem?_cons_zero, List.getElem?_cons_succ, List.set_cons_zero, List.set_cons_succ, if_true, if_false, reduceIte, Nat.reduceAdd, Nat.reduceSub, Nat.reduceEqDiff, Nat.reduceLT, Nat.reduceLeDiff, Int.reduceLT, Int.reduceLE, Int.reduceNeg, Int.reduceMul, Int.reduceAdd, Int.reduceSub, Int.reduceToNat, Int.reducePow, Int.reduceEq, ok, bok, deref, mkL, lstW, tupW, dats, Option.map_some, appendW, insertW, setL, isL, listW, tupleW, lenW, absW, intC, maxW, minW, idxW, addW, subW_e, modW_e, divW_e, powW_e, mulW, intW, lt_e, gt_e, le_e, ge_e, ltW, allW_e, anyW_e, sumW_e, lW, setW, lstAt, cutW, backW, isW, isiW, iLT_none, iLT_bool, iLT_int, iLT_str, iLT_list, iLT_tup, iL_none, iL_bool, iL_int, iL_str, iL_list, iL_tup, iT_none, iT_bool, iT_int, iT_str, iT_list, iT_tup, iS_none, iS_bool, iS_int, iS_str, iS_list, iS_tup, iI_none, iI_bool, iI_int, iI_str, iI_list, iI_tup, iB_none, iB_bool, iB_int, iB_str, iB_list, iB_tup, Bool.false_eq_true, reduceCtorEq, Bool.not_true, Bool.not_false, decide_true, decide_false, List.zip_cons_cons, List.zip_nil_left, List.foldl_cons, List.foldl_nil, and_self, and_true, true_and, Bool.and_true, Bool.true_and, Bool.or_true, Bool.true_or, *])
theorem look_map {F : Str → D} : ∀ (hs : List Str) (s : Str), (hs.map fun t => (t, F t)).lookup s = if s ∈ hs then some (F s) else none
  | [], s => rfl
  | t :: hs, s => by
    rw [List.map_cons, List.lookup_cons]
    by_cases h : s = t
    · subst h; simp
    · have h1 : (s == t) = false := by simpa using h
      rw [h1, look_map hs s]
      simp only [List.mem_cons, h, false_or]
end DL
set_option maxRecDepth 100000
set_option maxHeartbeats 400000
namespace DL
open PySem L2
variable [HW]
theorem led_eq {r m : List Str} {ps : List (Str × Str)} (p : m.Perm r) (h : m.Pairwise fun a b => leK (keyN r ps a) (keyN r ps b) = true) : m = led r ps := by
  have pm := p.trans (led_perm r ps).symm
  refine List.Perm.eq_of_pairwise (fun a b ha hb h1 h2 => ?_) h (led_pw r ps) pm
  unfold leK keyN at h1 h2
  simp only [decide_eq_true_eq] at h1 h2
  exact idx_inj (p.mem_iff.mp ha) ((led_perm r ps).mem_iff.mp hb) (by omega)
def told (r : List Str) (ps : List (Str × Str)) (t : Str) : List Str := r.filter fun s => decide (goal ps s = t)
theorem goal_of : ∀ {ps : List (Str × Str)}, (ps.map (·.1)).Nodup → ∀ p ∈ ps, goal ps p.1 = p.2
  | [], _, p, h => by cases h
  | (a, b) :: ps, nd, p, h => by
    rw [List.map_cons, List.nodup_cons] at nd
    unfold goal
    rw [List.lookup_cons]
    rcases List.mem_cons.mp h with rfl | h
    · simp
    · have ne : p.1 ≠ a := fun z => nd.1 (List.mem_map.mpr ⟨p, h, z⟩)
      rw [show (p.1 == a) = false by simpa using ne]
      exact goal_of nd.2 p h
end DL
set_option maxRecDepth 100000
set_option maxHeartbeats 400000
namespace DL
open PySem L2
variable [HW]
local macro_rules | `(tactic| walk_at "dl") => `(tactic| simp (config := { dsimp := false }) only [↓fnM_e, ↓sSeq_e, seqK_nx, seqK_rt, seqK_bk, seqK_ct, retK_rt, retK_nx, ↓sFrz_e, frK_some, ↓sAsg, ↓sRet, ↓sRetN, ↓sIf, ↓sExpr, ↓sSkip, ↓sNever, ↓sPar, ↓sFor, ↓sSub, ↓fVar, ↓fC, ↓fNil, ↓fCons, ↓fA, ↓f1, ↓f2, ↓fB, ↓fIf, ↓fNeg, ↓fNot, ↓fAnd, ↓fOr, ↓bNot, ↓bAnd, ↓bOr, ↓bYes, ↓obnd_x, ob_some, ↓sbnd_x, sb_some, ↓ite_x, iteK_t, iteK_f, gN, gT, gC, gE, ↓rng1I, ↓rng2I, ↓seqI, ↓enumA, ↓zipI, ↓strI, ↓fLc, ↓fDc, ↓fM, ↓fSl, ↓oNone, ↓oSome, ↓fRev, wipeE, ↓kwM, permM, permL, List.foldr, List.length_cons, List.length_nil, List.map_cons, List.map_nil, List.cons_append, List.nil_append, List.replicate, List.replicate_succ, List.replicate_zero, List.getElem?_cons_zero, List.getElem?_cons_succ, List.set_cons_zero, List.set_cons_succ, if_true, if_false, reduceIte, Nat.reduceAdd, Nat.reduceSub, Nat.reduceEqDiff, Nat.reduceLT, Nat.reduceLeDiff, Int.reduceLT, Int.reduceLE, Int.reduceNeg, Int.reduceMul, Int.reduceAdd, Int.reduceSub, Int.reduceToNat, Int.reducePow, Int.reduceEq, ok, bok, deref, mkL, lstW, tupW, dats, Option.map_some, appendW, insertW, setL, isL, listW, tupleW, lenW, absW, intC, maxW, minW, idxW, addW, subW_e, modW_e, divW_e, powW_e, mulW, intW, lt_e, gt_e, le_e, ge_e, ltW, allW_e, anyW_e, sumW_e, lW, setW, lstAt, cutW, backW, isW, isiW, iLT_none, iLT_bool, iLT_int, iLT_str, iLT_list, iLT_tup, iL_none, iL_bool, iL_int, iL_str, iL_list, iL_tup, iT_none, iT_bool, iT_int, iT_str, iT_list, iT_tup, iS_none, iS_bool, iS_int, iS_str, iS_list, iS_tup, iI_none, iI_bool, iI_int, iI_str, iI_list, iI_tup, iB_none, iB_bool, iB_int, iB_str, iB_list, iB_tup, Bool.false_eq_true, reduceCtorEq, Bool.not_true, Bool.not_false, decide_true, decide_false, List.zip_cons_cons, List.zip_nil_left, List.foldl_cons, List.foldl_nil, and_self, and_true, true_and, Bool.and_true, Bool.true_and, Bool.or_true, Bool.true_or, *])
theorem whileL_run {t : BM} {body : SM} (J : Nat → Env → Hh → Prop) : ∀ (k : Nat) {n fuel : Nat} {ρ : Env} {h : Hh}, k < fuel → J n ρ h →
    (∀ j ρ h, n ≤ j → j < n + k → J j ρ h → ∃ h1 ρ2 h2, t ρ h = some (true, h1) ∧ body ρ h1 = some (.nx ρ2, h2) ∧ J (j + 1) ρ2 h2) →
    (∀ ρ h, J (n + k) ρ h → t ρ h = some (false, h)) → ∃ ρ' h', whileL t body fuel ρ h = some (.nx ρ', h') ∧ J (n + k) ρ' h'
  | 0, n, f + 1, ρ, h, _, j, _, e => by
    refine ⟨ρ, h, ?_, j⟩
    unfold whileL
    simp only [e ρ h j, sbnd, Bool.false_eq_true, if_false]
  | k + 1, n, f + 1, ρ, h, hf, j, H, e => by
    obtain ⟨h1, ρ2, h2, e1, e2, j2⟩ := H n ρ h (Nat.le_refl _) (by omega) j
    obtain ⟨ρ', h', e3, j3⟩ := whileL_run J k (n := n + 1) (fuel := f) (by omega) j2 (fun i ρ h a b q => H i ρ h (by omega) (by omega) q) (fun ρ h q => e ρ h (by rw [show n + (k + 1) = n + 1 + k by omega]; exact q))
    refine ⟨ρ', h', ?_, by rw [show n + (k + 1) = n + 1 + k by omega]; exact j3⟩
    unfold whileL
    simp only [e1, sbnd, if_true, e2, e3]
theorem pick_eq : m__law_pick = m__law_of := rfl
theorem pick_ok {x : D} {ds : List D} {h : Hh} {b c : Nat} (hx : IsSeq x ds) (hb : BoxAt h b c) (hc : c < 1000000000) (h0 : 0 < ds.length) (h1 : ds.length ≤ 1000) :
    ∃ d h', m__law_pick [.ref b, .dat x] h = some (.dat d, h') ∧ d ∈ ds ∧ BoxAt h' b (c + 1) ∧ Only b h h' := by
  rw [pick_eq]
  exact of_ok hx hb hc h0 h1
theorem pick_txt {z : Str} {h : Hh} {b c : Nat} (hb : BoxAt h b c) (hc : c < 1000000000) (h0 : 0 < z.length) (h1 : z.length ≤ 1000) :
    ∃ (y : Nat) (h' : Hh), m__law_pick [.ref b, .dat (.str z)] h = some (.dat (.str ⟨#[y]⟩), h') ∧ y ∈ z.cps.toList ∧ BoxAt h' b (c + 1) ∧ Only b h h' := by
  obtain ⟨r, h', e, r0, r1, b1, o1⟩ := take_ok (n := (z.length : Int)) hb (by omega) (by omega) (by omega)
  have hz : z.cps.toList.length = z.length := by simp [Str.length]
  have hr : r.toNat < z.cps.toList.length := by omega
  have e2 : L2.atI z.cps.toList r = some z.cps.toList[r.toNat] := by
    have := atI_nat (xs := z.cps.toList) (j := r.toNat) (List.getElem?_eq_getElem hr)
    rwa [show ((r.toNat : Nat) : Int) = r by omega] at this
  refine ⟨z.cps.toList[r.toNat], h', ?_, List.getElem_mem hr, b1, o1⟩
  have lv := leave_dat' (d := .str ⟨#[z.cps.toList[r.toNat]]⟩) hb b1 o1
  have l1 : z.length ≤ sizeLine := Nat.le_trans h1 (by decide)
  generalize z.cps.toList[r.toNat] = y at *
  unfold m__law_pick
  clear hb b1 o1 r0 r1 hr h0 h1 hc hz
  walk_at "dl"
theorem glue_cps (e : Array Nat) (he : e.toList = []) : ∀ (ps : List Str) (acc : Array Nat), (ps.foldl (fun acc p => acc ++ e ++ p.cps) acc).toList = acc.toList ++ ps.flatMap fun s => s.cps.toList
  | [], acc => by simp
  | p :: ps, acc => by
    rw [List.foldl_cons, glue_cps e he ps, List.flatMap_cons]
    simp [he]
theorem join_cps : ∀ l : List Str, (Txt.join "" l).cps.toList = l.flatMap fun s => s.cps.toList
  | [] => by decide +kernel
  | a :: l => by
    show (l.foldl (fun acc p => acc ++ ("" : Str).cps ++ p.cps) a.cps).toList = _
    rw [glue_cps _ (by decide +kernel), List.flatMap_cons]
abbrev six : Str := "abkmxz"
abbrev ends : Str := "abcdefghijklmnopqrstuvwx"
theorem six_ok : ∀ c ∈ six.cps.toList, 97 ≤ c ∧ c ≤ 122 := by decide +kernel
theorem six_len : six.length = 6 := by decide +kernel
theorem ends_len : ends.length = 24 := by decide +kernel
theorem ends_at {i : Nat} (h : i < 24) : L2.atI ends.cps.toList (i : Int) = some (97 + i) := by
  have : ∀ i : Fin 24, L2.atI ends.cps.toList ((i : Nat) : Int) = some (97 + i.1) := by decide +kernel
  exact this ⟨i, h⟩
def NameAt (i : Nat) (s : Str) : Prop := NameOk s ∧ s.cps.toList.getLast? = some (97 + i) ∧ s.length ≤ 4
theorem name_made {ys : List Nat} {i : Nat} (h1 : 1 ≤ ys.length) (h2 : ys.length ≤ 3) (h3 : ∀ y ∈ ys, 97 ≤ y ∧ y ≤ 122) (hi : i < 24) : NameAt i (Txt.join "" (ys.map fun y => (⟨#[y]⟩ : Str)) ++ ⟨#[97 + i]⟩) := by
  have e : (Txt.join "" (ys.map fun y => (⟨#[y]⟩ : Str)) ++ ⟨#[97 + i]⟩).cps.toList = ys ++ [97 + i] := by
    rw [cps_app, join_cps]
    congr 1
    rw [List.flatMap_map]
    simp
  have l : (Txt.join "" (ys.map fun y => (⟨#[y]⟩ : Str)) ++ ⟨#[97 + i]⟩).length = ys.length + 1 := by
    show (Txt.join "" (ys.map fun y => (⟨#[y]⟩ : Str)) ++ ⟨#[97 + i]⟩).cps.size = _
    rw [← Array.length_toList, e]; simp
  refine ⟨⟨by omega, by omega, fun c hc => ?_⟩, by rw [e]; simp, by omega⟩
  rw [e] at hc
  rcases List.mem_append.mp hc with hc | hc
  · exact h3 c hc
  · rw [List.mem_singleton] at hc; omega
end DL
set_option maxRecDepth 100000
set_option maxHeartbeats 400000
namespace DL
open PySem L2
variable [HW]
local macro_rules | `(tactic| walk_at "dl") => `(tactic| simp (config := { dsimp := false }) only [↓fnM_e, ↓sSeq_e, seqK_nx, seqK_rt, seqK_bk, seqK_ct, retK_rt, retK_nx, ↓sFrz_e, frK_some, ↓sAsg, ↓sRet, ↓sRetN, ↓sIf, ↓sExpr, ↓sSkip, ↓sNever, ↓sPar, ↓sFor, ↓sSub, ↓fVar, ↓fC, ↓fNil, ↓fCons, ↓fA, ↓f1, ↓f2, ↓fB, ↓fIf, ↓fNeg, ↓fNot, ↓fAnd, ↓fOr, ↓bNot, ↓bAnd, ↓bOr, ↓bYes, ↓obnd_x, ob_some, ↓sbnd_x, sb_some, ↓ite_x, iteK_t, iteK_f, gN, gT, gC, gE, ↓rng1I, ↓rng2I, ↓seqI, ↓enumA, ↓zipI, ↓strI, ↓fLc, ↓fDc, ↓fM, ↓fSl, ↓oNone, ↓oSome, ↓fRev, wipeE, ↓kwM, permM, permL, List.foldr, List.length_cons, List.length_nil, List.map_cons, List.map_nil, List.cons_append, List.nil_append, List.replicate, List.replicate_succ, List.replicate_zero, List.getElem?_cons_zero, List.getElem?_cons_succ, List.set_cons_zero, List.set_cons_succ, if_true, if_false, reduceIte, Nat.reduceAdd, Nat.reduceSub, Nat.reduceEqDiff, Nat.reduceLT, Nat.reduceLeDiff, Int.reduceLT, Int.reduceLE, Int.reduceNeg, Int.reduceMul, Int.reduceAdd, Int.reduceSub, Int.reduceToNat, Int.reducePow, Int.reduceEq, ok, bok, deref, mkL, lstW, tupW, dats, Option.map_some, appendW, insertW, setL, isL, listW, tupleW, lenW, absW, intC, maxW, minW, idxW, addW, subW_e, modW_e, divW_e, powW_e, mulW, intW, lt_e, gt_e, le_e, ge_e, ltW, allW_e, anyW_e, sumW_e, lW, setW, lstAt, cutW, backW, isW, isiW, iLT_none, iLT_bool, iLT_int, iLT_str, iLT_list, iLT_tup, iL_none, iL_bool, iL_int, iL_str, iL_list, iL_tup, iT_none, iT_bool, iT_int, iT_str, iT_list, iT_tup, iS_none, iS_bool, iS_int, iS_str, iS_list, iS_tup, iI_none, iI_bool, iI_int, iI_str, iI_list, iI_tup, iB_none, iB_bool, iB_int, iB_str, iB_list, iB_tup, Bool.false_eq_true, reduceCtorEq, Bool.not_true, Bool.not_false, decide_true, decide_false, List.zip_cons_cons, List.zip_nil_left, List.foldl_cons, List.foldl_nil, and_self, and_true, true_and, Bool.and_true, Bool.true_and, Bool.or_true, Bool.true_or, *])
noncomputable def nmBody : SM := (sSeq (sAsg (fJoin (fC (.str "")) (fLc false (rng1I (fCons (f2 (addW false) (fC (.int 1)) (fA (m__law_take) (fCons (fVar 0) (fCons (fC (.int 3)) (fNil))))) (fNil))) (gN 5) (bYes) (fA (m__law_pick) (fCons (fVar 0) (fCons (fC (.str "abkmxz")) (fNil)))) [5])) (gN 4))
    (sAsg (fA (sortSW false) (fCons (f2 (addW false) (fVar 3) (fA (lstW false) (fCons (f2 (addW false) (fVar 4) (f2 idxW (fC (.str "abcdefghijklmnopqrstuvwx")) (fA lenW (fCons (fVar 3) (fNil))))) (fNil)))) (fNil))) (gN 3)))
theorem nm_run {g g1 g2 : Hh} {b : Nat} {r nI : Int} {L M Z nmz : Str} {cc : Nat} {F rs R : List D} {v1 v2 v4 : Option W} (hL : L = ends) (hM : M = six) (hZ : Z = "") (e1 : m__law_take [.ref b, .dat (.int 3)] g = some (.dat (.int r), g1)) (b0 : -1000000000 ≤ 1 + r) (b1 : 1 + r ≤ 1000000000)
    (e2 : lcL (gN 5) (bYes) (fA (m__law_pick) (fCons (fVar 0) (fCons (fC (.str M)) (fNil)))) [some (.ref b), v1, v2, some (.dat (.list F)), v4, none] (rngD 0 (1 + r).toNat) g1 = some (rs, g2)) (l1 : rs.length ≤ sizeLine) (ej : joinW (.dat (.str Z)) (.dat (.list rs)) g2 = some (.dat (.str nmz), g2)) (es : isS (.dat (.str Z)) = true)
    (hn : (F.length : Int) = nI) (la : L2.atI L.cps.toList nI = some cc) (ll : L.length ≤ sizeLine) (l2 : nmz.length + (Str.length ⟨#[cc]⟩) ≤ sizeLine) (l3 : F.length + 1 ≤ sizeLine) (eq : sortSW false [.dat (.list (F ++ [.str (nmz ++ ⟨#[cc]⟩)]))] g2 = some (.dat (.list R), g2)) :
    nmBody [some (.ref b), v1, v2, some (.dat (.list F)), v4, none] g = some (.nx [some (.ref b), v1, v2, some (.dat (.list R)), some (.dat (.str nmz)), none], g2) := by
  have c1 : 1 ≤ sizeLine := by decide
  unfold nmBody fJoin
  subst hL hM hZ
  walk_at "dl"
theorem rowS_sing (ys : List Nat) : rowS (ys.map fun y => PyData.str ⟨#[y]⟩) = some (ys.map fun y => (⟨#[y]⟩ : Str)) := by
  have := rowS_strs (ys.map fun y => (⟨#[y]⟩ : Str))
  rwa [List.map_map] at this
theorem nm_turn {g : Hh} {b c n : Nat} {l : List Str} {v1 v2 v4 : Option W} (hb : BoxAt g b c) (hc : c < 100000) (hl : l.length = n) (hn : n < 24) (nd : l.Nodup) (hno : ∀ s, NameAt n s → s ∉ l) :
    ∃ (s : Str) (v4' : Option W) (g' : Hh), NameAt n s ∧ nmBody [some (.ref b), v1, v2, some (.dat (.list (l.map .str))), v4, none] g = some (.nx [some (.ref b), v1, v2, some (.dat (.list (((l ++ [s]).mergeSort leT).map .str))), v4', none], g') ∧ BoxAt g' b (c + 4) ∧ Only b g g' := by
  have hz : sizeLine = 16777216 := rfl
  obtain ⟨r, g1, e1, r0, r1, b1, o1⟩ := take_ok (n := 3) hb (by omega) (by omega) (by omega)
  have key := lcL_inv (k := gN 5) (f := fA (m__law_pick) (fCons (fVar 0) (fCons (fC (.str six)) (fNil)))) (ρ := [some (.ref b), v1, v2, some (.dat (.list (l.map .str))), v4, none]) (fun k g' => BoxAt g' b (c + 1 + k) ∧ Only b g g') (fun _ d => ∃ y : Nat, y ∈ six.cps.toList ∧ d = .str ⟨#[y]⟩) (ds := rngD 0 (1 + r).toNat) (n := 0) (h := g1) ⟨b1, o1⟩ (by
    intro j d ej g' hi
    obtain ⟨bx, on⟩ := hi
    have hj := (rng_get ej).1
    obtain ⟨y, g2, e2, hy, b2, o2⟩ := pick_txt (z := six) bx (by omega) (by rw [six_len]; omega) (by rw [six_len]; omega)
    refine ⟨[some (.ref b), v1, v2, some (.dat (.list (l.map .str))), v4, some (.dat d)], .str ⟨#[y]⟩, g2, rfl, ?_, ⟨y, hy, rfl⟩, b2, on.trans o2⟩
    generalize six = M at *
    clear hb hc hl hn nd hno hz e1 r0 r1 b1 o1 ej bx on hj hy b2 o2
    walk_at "dl")
  obtain ⟨rs, g2, e2, rl, hr, b2, o2⟩ := key
  rw [rng_len] at rl b2
  obtain ⟨ys, rfl, hy⟩ : ∃ ys : List Nat, rs = ys.map (fun y => PyData.str ⟨#[y]⟩) ∧ ∀ y ∈ ys, y ∈ six.cps.toList := by
    have : ∀ rs : List D, (∀ d ∈ rs, ∃ y : Nat, y ∈ six.cps.toList ∧ d = .str ⟨#[y]⟩) → ∃ ys : List Nat, rs = ys.map (fun y => PyData.str ⟨#[y]⟩) ∧ ∀ y ∈ ys, y ∈ six.cps.toList := fun rs => by
      induction rs with
      | nil => exact fun _ => ⟨[], rfl, fun y hy => by cases hy⟩
      | cons d rs ih =>
        intro H
        obtain ⟨y, h1, rfl⟩ := H d List.mem_cons_self
        obtain ⟨ys, rfl, h2⟩ := ih fun e he => H e (List.mem_cons_of_mem _ he)
        exact ⟨y :: ys, rfl, fun z hz => by
          rcases List.mem_cons.mp hz with rfl | hz
          · exact h1
          · exact h2 z hz⟩
    refine this rs fun d hd => ?_
    obtain ⟨j, hj, rfl⟩ := List.getElem_of_mem hd
    exact hr j _ (List.getElem?_eq_getElem hj)
  rw [List.length_map] at rl
  have na := name_made (ys := ys) (i := n) (by omega) (by omega) (fun y h => six_ok y (hy y h)) hn
  have nn := hno _ na
  have ndl : (l ++ [Txt.join "" (ys.map fun y => (⟨#[y]⟩ : Str)) ++ ⟨#[97 + n]⟩]).Nodup := by
    rw [List.nodup_append]
    refine ⟨nd, by simp, fun x hx y hy' e => ?_⟩
    rw [List.mem_singleton] at hy'
    subst hy'
    rw [e] at hx
    exact nn hx
  have nl := na.1.2.1
  refine ⟨_, some (.dat (.str (Txt.join "" (ys.map fun y => (⟨#[y]⟩ : Str))))), g2, na, nm_run (L := ends) (M := six) (Z := "") (cc := 97 + n) (nI := (n : Int)) rfl rfl rfl e1 (by omega) (by omega) e2 (by rw [List.length_map]; omega) ?_ rfl (by rw [List.length_map, hl]) (ends_at hn) (by rw [ends_len]; omega) ?_ (by rw [List.length_map]; omega) ?_, b2.mono (by omega), o2⟩
  · unfold joinW
    have q : ((ys.map fun y => (⟨#[y]⟩ : Str)).map (·.length)).sum + (ys.map fun y => (⟨#[y]⟩ : Str)).length * ("" : Str).length ≤ 16777216 := by
      have e0 : ("" : Str).length = 0 := by decide +kernel
      rw [e0, Nat.mul_zero, List.map_map]
      have : ∀ ys : List Nat, (ys.map ((fun s : Str => s.length) ∘ fun y => (⟨#[y]⟩ : Str))).sum = ys.length := fun ys => by
        induction ys with
        | nil => rfl
        | cons a t ih =>
          rw [List.map_cons, List.sum_cons, ih, List.length_cons]
          show 1 + _ = _
          omega
      rw [this]
      omega
    simp only [deref, rowS_sing]
    rw [if_pos q]
    rfl
  · rw [← len_app]; omega
  · unfold sortSW
    have e : rowS (l.map PyData.str ++ [.str (Txt.join "" (ys.map fun y => (⟨#[y]⟩ : Str)) ++ ⟨#[97 + n]⟩)]) = some (l ++ [Txt.join "" (ys.map fun y => (⟨#[y]⟩ : Str)) ++ ⟨#[97 + n]⟩]) := by
      have := rowS_strs (l ++ [Txt.join "" (ys.map fun y => (⟨#[y]⟩ : Str)) ++ ⟨#[97 + n]⟩])
      rwa [List.map_append] at this
    have ln : (l ++ [Txt.join "" (ys.map fun y => (⟨#[y]⟩ : Str)) ++ ⟨#[97 + n]⟩]).length < 1000 := by rw [List.length_append]; simp; omega
    simp only [deref, e, ndl, ln, decide_true, Bool.and_self, if_true]
    rfl
end DL
set_option maxRecDepth 100000
set_option maxHeartbeats 400000
namespace DL
open PySem L2
variable [HW]
local macro_rules | `(tactic| walk_at "dl") => `(tactic| simp (config := { dsimp := false }) only [↓fnM_e, ↓sSeq_e, seqK_nx, seqK_rt, seqK_bk, seqK_ct, retK_rt, retK_nx, ↓sFrz_e, frK_some, ↓sAsg, ↓sRet, ↓sRetN, ↓sIf, ↓sExpr, ↓sSkip, ↓sNever, ↓sPar, ↓sFor, ↓sSub, ↓fVar, ↓fC, ↓fNil, ↓fCons, ↓fA, ↓f1, ↓f2, ↓fB, ↓fIf, ↓fNeg, ↓fNot, ↓fAnd, ↓fOr, ↓bNot, ↓bAnd, ↓bOr, ↓bYes, ↓obnd_x, ob_some, ↓sbnd_x, sb_some, ↓ite_x, iteK_t, iteK_f, gN, gT, gC, gE, ↓rng1I, ↓rng2I, ↓seqI, ↓enumA, ↓zipI, ↓strI, ↓fLc, ↓fDc, ↓fM, ↓fSl, ↓oNone, ↓oSome, ↓fRev, wipeE, ↓kwM, permM, permL, List.foldr, List.length_cons, List.length_nil, List.map_cons, List.map_nil, List.cons_append, List.nil_append, List.replicate, List.replicate_succ, List.replicate_zero, List.getElem?_cons_zero, List.getElem?_cons_succ, List.set_cons_zero, List.set_cons_succ, if_true, if_false, reduceIte, Nat.reduceAdd, Nat.reduceSub, Nat.reduceEqDiff, Nat.reduceLT, Nat.reduceLeDiff, Int.reduceLT, Int.reduceLE, Int.reduceNeg, Int.reduceMul, Int.reduceAdd, Int.reduceSub, Int.reduceToNat, Int.reducePow, Int.reduceEq, ok, bok, deref, mkL, lstW, tupW, dats, Option.map_some, appendW, insertW, setL, isL, listW, tupleW, lenW, absW, intC, maxW, minW, idxW, addW, subW_e, modW_e, divW_e, powW_e, mulW, intW, lt_e, gt_e, le_e, ge_e, ltW, allW_e, anyW_e, sumW_e, lW, setW, lstAt, cutW, backW, isW, isiW, iLT_none, iLT_bool, iLT_int, iLT_str, iLT_list, iLT_tup, iL_none, iL_bool, iL_int, iL_str, iL_list, iL_tup, iT_none, iT_bool, iT_int, iT_str, iT_list, iT_tup, iS_none, iS_bool, iS_int, iS_str, iS_list, iS_tup, iI_none, iI_bool, iI_int, iI_str, iI_list, iI_tup, iB_none, iB_bool, iB_int, iB_str, iB_list, iB_tup, Bool.false_eq_true, reduceCtorEq, Bool.not_true, Bool.not_false, decide_true, decide_false, List.zip_cons_cons, List.zip_nil_left, List.foldl_cons, List.foldl_nil, and_self, and_true, true_and, Bool.and_true, Bool.true_and, Bool.or_true, Bool.true_or, *])
theorem nameAt_inj {i j : Nat} {s : Str} (h1 : NameAt i s) (h2 : NameAt j s) : i = j := by
  have := h1.2.1.symm.trans h2.2.1
  injection this with e
  omega
theorem names_okZ {h : Hh} {b c most : Nat} (hb : BoxAt h b c) (hc : c < 10000) (m0 : 0 < most) (m1 : most ≤ 24) :
    ∃ (l : List Str) (h' : Hh), m__law_names [.ref b, .dat (.int most)] h = some (.dat (.list (l.map .str)), h') ∧ Folk most l ∧ (∀ s ∈ l, s.length ≤ 4) ∧ l.Pairwise (fun a b => leS a b = true) ∧ BoxAt h' b (c + 1 + 4 * most) ∧ Only b h h' := by
  have hz : sizeLine = 16777216 := rfl
  obtain ⟨r, g1, e1, r0, r1, b1, o1⟩ := take_ok (n := (most : Int)) hb (by omega) (by omega) (by omega)
  have key := whileL_run (t := fB (f2 lt_W (fA lenW (fCons (fVar 3) (fNil))) (fVar 2))) (body := nmBody) (fun n ρ g => ∃ (l : List Str) (v4 : Option W), ρ = [some (.ref b), some (.dat (.int most)), some (.dat (.int (1 + r))), some (.dat (.list (l.map .str))), v4, none] ∧ l.length = n ∧ l.Nodup ∧ (∀ s ∈ l, ∃ i, i < n ∧ NameAt i s) ∧ l.Pairwise (fun a b => leS a b = true) ∧ BoxAt g b (c + 1 + 4 * n) ∧ Only b h g)
    (1 + r).toNat (n := 0) (fuel := 100000) (ρ := [some (.ref b), some (.dat (.int most)), some (.dat (.int (1 + r))), some (.dat (.list [])), none, none]) (h := g1) (by omega) ⟨[], none, rfl, rfl, .nil, (fun s hs => by cases hs), .nil, b1, o1⟩ (by
      intro j ρ g _ hj hi
      obtain ⟨l, v4, rfl, hl, nd, hs, pw, bx, on⟩ := hi
      obtain ⟨s, v4', g', na, et, b2, o2⟩ := nm_turn (v1 := some (.dat (.int most))) (v2 := some (.dat (.int (1 + r)))) (v4 := v4) bx (by omega) hl (by omega) nd (fun s hs' hm => by
        obtain ⟨i, hi, ni⟩ := hs s hm
        have := nameAt_inj hs' ni
        omega)
      have pm := List.mergeSort_perm (l ++ [s]) leT
      refine ⟨g, _, g', ?_, et, _, v4', rfl, ?_, ?_, ?_, ?_, b2.mono (by omega), on.trans o2⟩
      · have d1 : decide (((l.map PyData.str).length : Int) < 1 + r) = true := by rw [List.length_map, hl]; simp; omega
        clear hz e1 r0 r1 b1 o1 hl nd hs pw bx on na et b2 o2 hb hc m0 m1 hj pm
        walk_at "dl"
      · rw [pm.length_eq]; simp [hl]
      · refine pm.nodup_iff.mpr ?_
        rw [List.nodup_append]
        refine ⟨nd, by simp, fun x hx y hy e => ?_⟩
        rw [List.mem_singleton] at hy
        subst hy
        subst e
        obtain ⟨i, hi, ni⟩ := hs x hx
        have := nameAt_inj na ni
        omega
      · intro x hx
        rcases List.mem_append.mp (pm.mem_iff.mp hx) with hx | hx
        · obtain ⟨i, hi, ni⟩ := hs x hx
          exact ⟨i, by omega, ni⟩
        · rw [List.mem_singleton] at hx
          subst hx
          exact ⟨j, by omega, na⟩
      · exact List.pairwise_mergeSort leT_trans leT_total (l ++ [s])) (by
      intro ρ g hi
      obtain ⟨l, v4, rfl, hl, nd, hs, pw, bx, on⟩ := hi
      have d1 : decide (((l.map PyData.str).length : Int) < 1 + r) = false := by rw [List.length_map, hl]; simp; omega
      clear hz e1 r0 r1 b1 o1 hl nd hs pw bx on hb hc m0 m1
      walk_at "dl")
  obtain ⟨ρ', g, e2, l, v4, rfl, hl, nd, hs, pw, bx, on⟩ := key
  have bm : BoxAt g b (c + 1 + 4 * most) := bx.mono (by omega)
  refine ⟨l, g, ?_, ⟨nd, by omega, by omega, fun s h' => by obtain ⟨i, _, na⟩ := hs s h'; exact na.1⟩, fun s h' => by obtain ⟨i, _, na⟩ := hs s h'; exact na.2.2, pw, bm, on⟩
  have lv := leave_dat' (d := .list (l.map .str)) hb bm on
  have c0 : 0 ≤ sizeLine := Nat.zero_le _
  have ew : sWhile 100000 (fB (f2 lt_W (fA lenW (fCons (fVar 3) (fNil))) (fVar 2))) nmBody [some (.ref b), some (.dat (.int most)), some (.dat (.int (1 + r))), some (.dat (.list [])), none, none] g1 = some (.nx [some (.ref b), some (.dat (.int most)), some (.dat (.int (1 + r))), some (.dat (.list (l.map .str))), v4, none], g) := e2
  unfold nmBody at ew
  unfold m__law_names
  clear hz r0 r1 b1 o1 hl nd hs pw bx on hb hc m0 m1 e2 bm
  walk_at "dl"
end DL
set_option maxRecDepth 100000
set_option maxHeartbeats 400000
namespace DL
open PySem L2
variable [HW]
local macro_rules | `(tactic| walk_at "dl") => `(tactic| simp (config := { dsimp := false }) only [↓fnM_e, ↓sSeq_e, seqK_nx, seqK_rt, seqK_bk, seqK_ct, retK_rt, retK_nx, ↓sFrz_e, frK_some, ↓sAsg, ↓sRet, ↓sRetN, ↓sIf, ↓sExpr, ↓sSkip, ↓sNever, ↓sPar, ↓sFor, ↓sSub, ↓fVar, ↓fC, ↓fNil, ↓fCons, ↓fA, ↓f1, ↓f2, ↓fB, ↓fIf, ↓fNeg, ↓fNot, ↓fAnd, ↓fOr, ↓bNot, ↓bAnd, ↓bOr, ↓bYes, ↓obnd_x, ob_some, ↓sbnd_x, sb_some, ↓ite_x, iteK_t, iteK_f, gN, gT, gC, gE, ↓rng1I, ↓rng2I, ↓seqI, ↓enumA, ↓zipI, ↓strI, ↓fLc, ↓fDc, ↓fM, ↓fSl, ↓oNone, ↓oSome, ↓fRev, wipeE, ↓kwM, permM, permL, List.foldr, List.length_cons, List.length_nil, List.map_cons, List.map_nil, List.cons_append, List.nil_append, List.replicate, List.replicate_succ, List.replicate_zero, List.getElem?_cons_zero, List.getElem?_cons_succ, List.set_cons_zero, List.set_cons_succ, if_true, if_false, reduceIte, Nat.reduceAdd, Nat.reduceSub, Nat.reduceEqDiff, Nat.reduceLT, Nat.reduceLeDiff, Int.reduceLT, Int.reduceLE, Int.reduceNeg, Int.reduceMul, Int.reduceAdd, Int.reduceSub, Int.reduceToNat, Int.reducePow, Int.reduceEq, ok, bok, deref, mkL, lstW, tupW, dats, Option.map_some, appendW, insertW, setL, isL, listW, tupleW, lenW, absW, intC, maxW, minW, idxW, addW, subW_e, modW_e, divW_e, powW_e, mulW, intW, lt_e, gt_e, le_e, ge_e, ltW, allW_e, anyW_e, sumW_e, lW, setW, lstAt, cutW, backW, isW, isiW, iLT_none, iLT_bool, iLT_int, iLT_str, iLT_list, iLT_tup, iL_none, iL_bool, iL_int, iL_str, iL_list, iL_tup, iT_none, iT_bool, iT_int, iT_str, iT_list, iT_tup, iS_none, iS_bool, iS_int, iS_str, iS_list, iS_tup, iI_none, iI_bool, iI_int, iI_str, iI_list, iI_tup, iB_none, iB_bool, iB_int, iB_str, iB_list, iB_tup, Bool.false_eq_true, reduceCtorEq, Bool.not_true, Bool.not_false, decide_true, decide_false, List.zip_cons_cons, List.zip_nil_left, List.foldl_cons, List.foldl_nil, and_self, and_true, true_and, Bool.and_true, Bool.true_and, Bool.or_true, Bool.true_or, *])
end DL
set_option maxRecDepth 100000
set_option maxHeartbeats 400000
namespace DL
open PySem L2
variable [HW]
local macro_rules | `(tactic| walk_at "dl") => `(tactic| simp (config := { dsimp := false }) only [↓fnM_e, ↓sSeq_e, seqK_nx, seqK_rt, seqK_bk, seqK_ct, retK_rt, retK_nx, ↓sFrz_e, frK_some, ↓sAsg, ↓sRet, ↓sRetN, ↓sIf, ↓sExpr, ↓sSkip, ↓sNever, ↓sPar, ↓sFor, ↓sSub, ↓fVar, ↓fC, ↓fNil, ↓fCons, ↓fA, ↓f1, ↓f2, ↓fB, ↓fIf, ↓fNeg, ↓fNot, ↓fAnd, ↓fOr, ↓bNot, ↓bAnd, ↓bOr, ↓bYes, ↓obnd_x, ob_some, ↓sbnd_x, sb_some, ↓ite_x, iteK_t, iteK_f, gN, gT, gC, gE, ↓rng1I, ↓rng2I, ↓seqI, ↓enumA, ↓zipI, ↓strI, ↓fLc, ↓fDc, ↓fM, ↓fSl, ↓oNone, ↓oSome, ↓fRev, wipeE, ↓kwM, permM, permL, List.foldr, List.length_cons, List.length_nil, List.map_cons, List.map_nil, List.cons_append, List.nil_append, List.replicate, List.replicate_succ, List.replicate_zero, List.getElem?_cons_zero, List.getElem?_cons_succ, List.set_cons_zero, List.set_cons_succ, if_true, if_false, reduceIte, Nat.reduceAdd, Nat.reduceSub, Nat.reduceEqDiff, Nat.reduceLT, Nat.reduceLeDiff, Int.reduceLT, Int.reduceLE, Int.reduceNeg, Int.reduceMul, Int.reduceAdd, Int.reduceSub, Int.reduceToNat, Int.reducePow, Int.reduceEq, ok, bok, deref, mkL, lstW, tupW, dats, Option.map_some, appendW, insertW, setL, isL, listW, tupleW, lenW, absW, intC, maxW, minW, idxW, addW, subW_e, modW_e, divW_e, powW_e, mulW, intW, lt_e, gt_e, le_e, ge_e, ltW, allW_e, anyW_e, sumW_e, lW, setW, lstAt, cutW, backW, isW, isiW, iLT_none, iLT_bool, iLT_int, iLT_str, iLT_list, iLT_tup, iL_none, iL_bool, iL_int, iL_str, iL_list, iL_tup, iT_none, iT_bool, iT_int, iT_str, iT_list, iT_tup, iS_none, iS_bool, iS_int, iS_str, iS_list, iS_tup, iI_none, iI_bool, iI_int, iI_str, iI_list, iI_tup, iB_none, iB_bool, iB_int, iB_str, iB_list, iB_tup, Bool.false_eq_true, reduceCtorEq, Bool.not_true, Bool.not_false, decide_true, decide_false, List.zip_cons_cons, List.zip_nil_left, List.foldl_cons, List.foldl_nil, and_self, and_true, true_and, Bool.and_true, Bool.true_and, Bool.or_true, Bool.true_or, *])
theorem perm_nodup : ∀ {l m : List Str}, l.Nodup → m.Nodup → (∀ k, k ∈ l ↔ k ∈ m) → l.Perm m
  | [], m, _, _, h => by
    have : m = [] := List.eq_nil_iff_forall_not_mem.mpr fun k hk => by have := (h k).mpr hk; cases this
    rw [this]
  | a :: l, m, n1, n2, h => by
    have ha : a ∈ m := (h a).mp List.mem_cons_self
    have pe := List.perm_cons_erase ha
    have n2' : (a :: m.erase a).Nodup := pe.nodup_iff.mp n2
    obtain ⟨a1, a2⟩ := List.nodup_cons.mp n1
    obtain ⟨b1, b2⟩ := List.nodup_cons.mp n2'
    refine (List.Perm.cons a (perm_nodup a2 b2 fun k => ?_)).trans pe.symm
    constructor
    · intro hk
      have ne : k ≠ a := fun z => by subst z; exact a1 hk
      exact (List.mem_erase_of_ne ne).mpr ((h k).mp (List.mem_cons_of_mem _ hk))
    · intro hk
      have ne : k ≠ a := fun z => by subst z; exact b1 hk
      rcases List.mem_cons.mp ((h k).mpr ((List.mem_erase_of_ne ne).mp hk)) with z | z
      · exact absurd z ne
      · exact z
theorem flat_pw {R : Str → Str → Prop} (f : Str → List Str) : ∀ {r : List Str}, (∀ t ∈ r, (f t).Pairwise R) → r.Pairwise (fun t u => ∀ a ∈ f t, ∀ b ∈ f u, R a b) → (r.flatMap f).Pairwise R
  | [], _, _ => .nil
  | t :: r, h1, h2 => by
    obtain ⟨h3, h4⟩ := List.pairwise_cons.mp h2
    rw [List.flatMap_cons, List.pairwise_append]
    refine ⟨h1 t List.mem_cons_self, flat_pw f (fun u hu => h1 u (List.mem_cons_of_mem _ hu)) h4, fun a ha b hb => ?_⟩
    obtain ⟨u, hu, hb⟩ := List.mem_flatMap.mp hb
    exact h3 u hu a ha b hb
theorem told_goal {r : List Str} {ps : List (Str × Str)} {t s : Str} (h : s ∈ told r ps t) : s ∈ r ∧ goal ps s = t := by
  unfold told at h
  rw [List.mem_filter] at h
  exact ⟨h.1, by simpa using h.2⟩
theorem led_flat {r : List Str} {ps : List (Str × Str)} (c : CallOf r ps) (nd : r.Nodup) : r.flatMap (told r ps) = led r ps := by
  apply led_eq
  · refine perm_nodup ?_ nd fun k => ?_
    · refine flat_pw (R := fun a b => a ≠ b) _ (fun t _ => nd.filter _) (nd.imp fun {t u} ne a ha b hb e => ?_)
      subst e
      exact ne ((told_goal ha).2.symm.trans (told_goal hb).2)
    · rw [List.mem_flatMap]
      constructor
      · rintro ⟨t, _, h⟩
        exact (told_goal h).1
      · intro hk
        refine ⟨goal ps k, (c.goal_mem hk).2, ?_⟩
        unfold told
        rw [List.mem_filter]
        exact ⟨hk, by simp⟩
  · refine flat_pw _ (fun t ht => ?_) ((pw_idx nd).imp fun {t u} lt a ha b hb => ?_)
    · refine List.Pairwise.imp_of_mem ?_ ((pw_idx nd).filter fun s => decide (goal ps s = t))
      intro a b ha hb lt
      have e1 := (told_goal (r := r) ha).2
      have e2 := (told_goal (r := r) hb).2
      unfold leK keyN
      rw [e1, e2, decide_eq_true_eq]
      exact .inr ⟨rfl, Nat.le_of_lt lt⟩
    · have e1 := (told_goal ha).2
      have e2 := (told_goal hb).2
      unfold leK keyN
      simp only [e1, e2, decide_eq_true_eq]
      exact .inl lt
noncomputable def ownBody : SM := sAsg (f2 (addW false) (fVar 3) (fLc false (seqI (fVar 0)) (gN 5) (fB (f2 (eqW false) (f2 idxW (fVar 2) (fVar 5)) (fVar 4))) (fVar 5) [5])) (gN 3)
theorem own_called_ok {x : D} {r : List Str} {ps : List (Str × Str)} {h : Hh} (hx : IsSeq x (r.map .str)) (c : CallOf r ps) (nd : r.Nodup) (hp : 0 < r.length) (hr : r.length ≤ 1000) : m__law_called [.dat x, .dat (cT ps)] h = some (.dat (rowT (led r ps)), h) := by
  have hz : sizeLine = 16777216 := rfl
  have hpl : ps.length = r.length := by have := c.perm.length_eq; rw [List.length_map] at this; exact this
  have e1 := dict_call (h := h) (ps := ps) (by omega) (c.nodup nd)
  have key := forL_inv (k := gN 4) (body := ownBody) (fun n ρ g => g = h ∧ ∃ v4 : Option W, ρ = [some (.dat x), some (.dat (cT ps)), some (.dat (dW ps)), some (.dat (.list (((r.take n).flatMap (told r ps)).map .str))), v4, none]) (ds := r.map .str) (n := 0)
    (ρ := [some (.dat x), some (.dat (cT ps)), some (.dat (dW ps)), some (.dat (.list [])), none, none]) (h := h) ⟨rfl, none, rfl⟩ (by
      intro j d ej ρ g hi
      obtain ⟨rfl, v4, rfl⟩ := hi
      rw [Nat.zero_add]
      rw [List.getElem?_map] at ej
      obtain ⟨t, et, rfl⟩ := Option.map_eq_some_iff.mp ej
      have e2 : lcL (gN 5) (fB (f2 (eqW false) (f2 idxW (fVar 2) (fVar 5)) (fVar 4))) (fVar 5) [some (.dat x), some (.dat (cT ps)), some (.dat (dW ps)), some (.dat (.list (((r.take j).flatMap (told r ps)).map .str))), some (.dat (.str t)), none] (r.map .str) g = some ((told r ps t).map .str, g) := by
        rw [lcL_map (fun d => decide (goal ps (unS d) = t)) (fun d => d)]
        · rw [List.map_id', List.filter_map]
          rfl
        · intro d hd
          obtain ⟨s, hs, rfl⟩ := List.mem_map.mp hd
          obtain ⟨k1, _⟩ := c.goal_mem hs
          have g1 : getD (sdic (tld ps)) (.str s) = some (some (.str (goal ps s))) := by rw [getD_sdic, look_tld, k1]; rfl
          have g2 := eqW_strs (neg := false) (i := goal ps s) (j := t) (h := g)
          refine ⟨[some (.dat x), some (.dat (cT ps)), some (.dat (dW ps)), some (.dat (.list (((r.take j).flatMap (told r ps)).map .str))), some (.dat (.str t)), some (.dat (.str s))], rfl, ?_, fun _ => rfl⟩
          clear hx c nd hp hr hz hpl e1 ej et hd hs k1
          generalize ((r.take j).flatMap (told r ps)).map PyData.str = w
          walk_at "dl"
          rfl
      have l1 : (((r.take j).flatMap (told r ps)).map PyData.str).length + ((told r ps t).map PyData.str).length ≤ sizeLine := by
        have q1 : (told r ps t).length ≤ r.length := List.length_filter_le _ _
        have q2 : ∀ m : List Str, (m.flatMap (told r ps)).length ≤ m.length * r.length := fun m => by
          induction m with
          | nil => exact Nat.zero_le _
          | cons a m ih =>
            have : (told r ps a).length ≤ r.length := List.length_filter_le _ _
            rw [List.flatMap_cons, List.length_append, List.length_cons, Nat.succ_mul]
            omega
        have q3 := q2 (r.take j)
        have q4 : (r.take j).length ≤ 1000 := by rw [List.length_take]; omega
        have q5 := Nat.mul_le_mul q4 hr
        rw [List.length_map, List.length_map]
        omega
      have l2 : ((told r ps t).map PyData.str).length ≤ sizeLine := by omega
      have e3 : (r.take (j + 1)).flatMap (told r ps) = (r.take j).flatMap (told r ps) ++ told r ps t := by
        rw [take_snoc et, List.flatMap_append]
        simp
      refine ⟨_, _, g, rfl, ?_, rfl, some (.dat (.str t)), rfl⟩
      rw [e3, List.map_append]
      unfold ownBody
      clear c nd hp hr hz hpl e1 ej et e3
      generalize ((r.take j).flatMap (told r ps)).map PyData.str = w at *
      rcases hx with rfl | rfl <;> walk_at "dl")
  obtain ⟨ρ', g, e, rfl, v4, rfl⟩ := key
  rw [Nat.zero_add, List.length_map, List.take_length, led_flat c nd] at e
  have lv := leave_same' (h := g) (d := rowT (led r ps))
  have c0 : 0 ≤ sizeLine := Nat.zero_le _
  unfold ownBody at e
  unfold m__law_called
  clear c nd hp hr hz hpl
  rcases hx with rfl | rfl <;> walk_at "dl"
end DL
set_option maxRecDepth 100000
set_option maxHeartbeats 400000
namespace DL
open PySem L2
variable [HW]
local macro_rules | `(tactic| walk_at "dl") => `(tactic| simp (config := { dsimp := false }) only [↓fnM_e, ↓sSeq_e, seqK_nx, seqK_rt, seqK_bk, seqK_ct, retK_rt, retK_nx, ↓sFrz_e, frK_some, ↓sAsg, ↓sRet, ↓sRetN, ↓sIf, ↓sExpr, ↓sSkip, ↓sNever, ↓sPar, ↓sFor, ↓sSub, ↓fVar, ↓fC, ↓fNil, ↓fCons, ↓fA, ↓f1, ↓f2, ↓fB, ↓fIf, ↓fNeg, ↓fNot, ↓fAnd, ↓fOr, ↓bNot, ↓bAnd, ↓bOr, ↓bYes, ↓obnd_x, ob_some, ↓sbnd_x, sb_some, ↓ite_x, iteK_t, iteK_f, gN, gT, gC, gE, ↓rng1I, ↓rng2I, ↓seqI, ↓enumA, ↓zipI, ↓strI, ↓fLc, ↓fDc, ↓fM, ↓fSl, ↓oNone, ↓oSome, ↓fRev, wipeE, ↓kwM, permM, permL, List.foldr, List.length_cons, List.length_nil, List.map_cons, List.map_nil, List.cons_append, List.nil_append, List.replicate, List.replicate_succ, List.replicate_zero, List.getElem?_cons_zero, List.getElem?_cons_succ, List.set_cons_zero, List.set_cons_succ, if_true, if_false, reduceIte, Nat.reduceAdd, Nat.reduceSub, Nat.reduceEqDiff, Nat.reduceLT, Nat.reduceLeDiff, Int.reduceLT, Int.reduceLE, Int.reduceNeg, Int.reduceMul, Int.reduceAdd, Int.reduceSub, Int.reduceToNat, Int.reducePow, Int.reduceEq, ok, bok, deref, mkL, lstW, tupW, dats, Option.map_some, appendW, insertW, setL, isL, listW, tupleW, lenW, absW, intC, maxW, minW, idxW, addW, subW_e, modW_e, divW_e, powW_e, mulW, intW, lt_e, gt_e, le_e, ge_e, ltW, allW_e, anyW_e, sumW_e, lW, setW, lstAt, cutW, backW, isW, isiW, iLT_none, iLT_bool, iLT_int, iLT_str, iLT_list, iLT_tup, iL_none, iL_bool, iL_int, iL_str, iL_list, iL_tup, iT_none, iT_bool, iT_int, iT_str, iT_list, iT_tup, iS_none, iS_bool, iS_int, iS_str, iS_list, iS_tup, iI_none, iI_bool, iI_int, iI_str, iI_list, iI_tup, iB_none, iB_bool, iB_int, iB_str, iB_list, iB_tup, Bool.false_eq_true, reduceCtorEq, Bool.not_true, Bool.not_false, decide_true, decide_false, List.zip_cons_cons, List.zip_nil_left, List.foldl_cons, List.foldl_nil, and_self, and_true, true_and, Bool.and_true, Bool.true_and, Bool.or_true, Bool.true_or, *])
end DL
set_option maxRecDepth 100000
set_option maxHeartbeats 400000
namespace DL
open PySem L2
variable [HW]
local macro_rules | `(tactic| walk_at "dl") => `(tactic| simp (config := { dsimp := false }) only [↓fnM_e, ↓sSeq_e, seqK_nx, seqK_rt, seqK_bk, seqK_ct, retK_rt, retK_nx, ↓sFrz_e, frK_some, ↓sAsg, ↓sRet, ↓sRetN, ↓sIf, ↓sExpr, ↓sSkip, ↓sNever, ↓sPar, ↓sFor, ↓sSub, ↓fVar, ↓fC, ↓fNil, ↓fCons, ↓fA, ↓f1, ↓f2, ↓fB, ↓fIf, ↓fNeg, ↓fNot, ↓fAnd, ↓fOr, ↓bNot, ↓bAnd, ↓bOr, ↓bYes, ↓obnd_x, ob_some, ↓sbnd_x, sb_some, ↓ite_x, iteK_t, iteK_f, gN, gT, gC, gE, ↓rng1I, ↓rng2I, ↓seqI, ↓enumA, ↓zipI, ↓strI, ↓fLc, ↓fDc, ↓fM, ↓fSl, ↓oNone, ↓oSome, ↓fRev, wipeE, ↓kwM, permM, permL, List.foldr, List.length_cons, List.length_nil, List.map_cons, List.map_nil, List.cons_append, List.nil_append, List.replicate, List.replicate_succ, List.replicate_zero, List.getElem?_cons_zero, List.getElem?_cons_succ, List.set_cons_zero, List.set_cons_succ, if_true, if_false, reduceIte, Nat.reduceAdd, Nat.reduceSub, Nat.reduceEqDiff, Nat.reduceLT, Nat.reduceLeDiff, Int.reduceLT, Int.reduceLE, Int.reduceNeg, Int.reduceMul, Int.reduceAdd, Int.reduceSub, Int.reduceToNat, Int.reducePow, Int.reduceEq, ok, bok, deref, mkL, lstW, tupW, dats, Option.map_some, appendW, insertW, setL, isL, listW, tupleW, lenW, absW, intC, maxW, minW, idxW, addW, subW_e, modW_e, divW_e, powW_e, mulW, intW, lt_e, gt_e, le_e, ge_e, ltW, allW_e, anyW_e, sumW_e, lW, setW, lstAt, cutW, backW, isW, isiW, iLT_none, iLT_bool, iLT_int, iLT_str, iLT_list, iLT_tup, iL_none, iL_bool, iL_int, iL_str, iL_list, iL_tup, iT_none, iT_bool, iT_int, iT_str, iT_list, iT_tup, iS_none, iS_bool, iS_int, iS_str, iS_list, iS_tup, iI_none, iI_bool, iI_int, iI_str, iI_list, iI_tup, iB_none, iB_bool, iB_int, iB_str, iB_list, iB_tup, Bool.false_eq_true, reduceCtorEq, Bool.not_true, Bool.not_false, decide_true, decide_false, List.zip_cons_cons, List.zip_nil_left, List.foldl_cons, List.foldl_nil, and_self, and_true, true_and, Bool.and_true, Bool.true_and, Bool.or_true, Bool.true_or, *])
end DL
set_option maxRecDepth 100000
set_option maxHeartbeats 400000
namespace DL
open PySem L2
variable [HW]
local macro_rules | `(tactic| walk_at "dl") => `(tactic| simp (config := { dsimp := false }) only [↓fnM_e, ↓sSeq_e, seqK_nx, seqK_rt, seqK_bk, seqK_ct, retK_rt, retK_nx, ↓sFrz_e, frK_some, ↓sAsg, ↓sRet, ↓sRetN, ↓sIf, ↓sExpr, ↓sSkip, ↓sNever, ↓sPar, ↓sFor, ↓sSub, ↓fVar, ↓fC, ↓fNil, ↓fCons, ↓fA, ↓f1, ↓f2, ↓fB, ↓fIf, ↓fNeg, ↓fNot, ↓fAnd, ↓fOr, ↓bNot, ↓bAnd, ↓bOr, ↓bYes, ↓obnd_x, ob_some, ↓sbnd_x, sb_some, ↓ite_x, iteK_t, iteK_f, gN, gT, gC, gE, ↓rng1I, ↓rng2I, ↓seqI, ↓enumA, ↓zipI, ↓strI, ↓fLc, ↓fDc, ↓fM, ↓fSl, ↓oNone, ↓oSome, ↓fRev, wipeE, ↓kwM, permM, permL, List.foldr, List.length_cons, List.length_nil, List.map_cons, List.map_nil, List.cons_append, List.nil_append, List.replicate, List.replicate_succ, List.replicate_zero, List.getElem?_cons_zero, List.getElem?_cons_succ, List.set_cons_zero, List.set_cons_succ, if_true, if_false, reduceIte, Nat.reduceAdd, Nat.reduceSub, Nat.reduceEqDiff, Nat.reduceLT, Nat.reduceLeDiff, Int.reduceLT, Int.reduceLE, Int.reduceNeg, Int.reduceMul, Int.reduceAdd, Int.reduceSub, Int.reduceToNat, Int.reducePow, Int.reduceEq, ok, bok, deref, mkL, lstW, tupW, dats, Option.map_some, appendW, insertW, setL, isL, listW, tupleW, lenW, absW, intC, maxW, minW, idxW, addW, subW_e, modW_e, divW_e, powW_e, mulW, intW, lt_e, gt_e, le_e, ge_e, ltW, allW_e, anyW_e, sumW_e, lW, setW, lstAt, cutW, backW, isW, isiW, iLT_none, iLT_bool, iLT_int, iLT_str, iLT_list, iLT_tup, iL_none, iL_bool, iL_int, iL_str, iL_list, iL_tup, iT_none, iT_bool, iT_int, iT_str, iT_list, iT_tup, iS_none, iS_bool, iS_int, iS_str, iS_list, iS_tup, iI_none, iI_bool, iI_int, iI_str, iI_list, iI_tup, iB_none, iB_bool, iB_int, iB_str, iB_list, iB_tup, Bool.false_eq_true, reduceCtorEq, Bool.not_true, Bool.not_false, decide_true, decide_false, List.zip_cons_cons, List.zip_nil_left, List.foldl_cons, List.foldl_nil, and_self, and_true, true_and, Bool.and_true, Bool.true_and, Bool.or_true, Bool.true_or, *])
noncomputable def foldBody : SM := sSub (f2 (addW false) (f2 idxW (fVar 2) (f2 modW (fVar 3) (fVar 1))) (f2 (mulW false) (fVar 4) (f2 (addW false) (fVar 3) (fC (.int 2))))) (fVar 2) (f2 modW (fVar 3) (fVar 1))
theorem fold_run {g : Hh} {x : W} {p j : Nat} {k m v a : Int} {cs : List D} (m0 : decide (0 < m) = true) (hg : g[p]? = some (some (.lst cs))) (ha : L2.atI cs (k % m) = some (.int a)) (hj : ixN cs.length (k % m) = some j) (k0 : -18446744073709551616 < k + 2) (k1 : k + 2 < 18446744073709551616) :
    foldBody [some x, some (.dat (.int m)), some (.ref p), some (.dat (.int k)), some (.dat (.int v))] g = some (.nx [some x, some (.dat (.int m)), some (.ref p), some (.dat (.int k)), some (.dat (.int v))], g.set p (some (.lst (cs.set j (.int (a + v * (k + 2))))))) := by
  unfold foldBody
  walk_at "dl"
theorem ints_at {cs : List Int} {i : Nat} (h : i < cs.length) : L2.atI (cs.map PyData.int) (i : Int) = some (.int cs[i]) :=
  atI_nat (xs := cs.map PyData.int) (j := i) (by rw [List.getElem?_map, List.getElem?_eq_getElem h]; rfl)
theorem ixN_nat {n i : Nat} (h : i < n) : ixN n (i : Int) = some i := by
  unfold ixN
  rw [if_pos (by omega), if_pos (by omega)]
  simp
theorem enum_int {ms : List Int} {j : Nat} {d : D} (e : (enumD 0 (ms.map .int))[j]? = some d) : ∃ v : Int, j < ms.length ∧ d = .tuple [.int (j : Int), .int v] := by
  obtain ⟨s, hs, rfl⟩ := enumD_get e
  rw [List.getElem?_map] at hs
  obtain ⟨v, hv, rfl⟩ := Option.map_eq_some_iff.mp hs
  exact ⟨v, (List.getElem?_eq_some_iff.mp hv).1, by rw [Nat.zero_add]⟩
theorem shp_ints (cs : List Int) : shp (.list (cs.map .int)) = true := by
  have h1 : ∀ cs : List Int, PyData.canLayAll0 (cs.map .int) = true := fun cs => by
    induction cs with
    | nil => rfl
    | cons a t ih => rw [List.map_cons, PyData.canLayAll0, ih]; simp [PyData.canLay0]
  have h2 : ∀ cs : List Int, PyData.depthAll (cs.map .int) = 0 := fun cs => by
    induction cs with
    | nil => rfl
    | cons a t ih => rw [List.map_cons, PyData.depthAll, ih]; simp [PyData.depth]
  unfold shp
  rw [PyData.canLay0, h1, PyData.depth, h2]
  rfl
theorem eqW_ints_nil {cs : List Int} {h : Hh} : eqW true (.dat (.list (cs.map .int))) (.dat (.list [])) h = some (.dat (.bool (decide (cs ≠ []))), h) := by
  have hs := shp_ints cs
  have h0 : shp (.list []) = true := by decide +kernel
  have e : PyData.eqv (.list (cs.map .int)) (.list []) = decide (cs = []) := by
    cases cs with
    | nil => decide +kernel
    | cons a l => simp [PyData.eqv, PyData.eqvAll]
  unfold eqW
  simp only [deref, eqS, hs, h0, e, Bool.and_self, if_true]
  show bok (!decide (cs = [])) h = _
  rw [← decide_not]; rfl
theorem fold_end {ns : List Int} {h : Hh} {cs : List Int} {m : Int} {z : Bool} {A B : List Int} {v3 v4 : Option W} (i3 : ∀ n, isR n v3 = false) (i4 : ∀ n, isR n v4 = false) (eA : cutG ns none (some m) = A) (eB : cutG ns (some m) (some 63) = B)
    (e1 : forL (gT 2 (gC (gN 3) (gC (gN 4) (gE)))) foldBody (enumD 0 (B.map .int)) [some (.scr ns), some (.dat (.int m)), some (.ref h.length), none, none] (h ++ [some (.lst (A.map .int))]) = some (.nx [some (.scr ns), some (.dat (.int m)), some (.ref h.length), v3, v4], h ++ [some (.lst (cs.map .int))])) (ez : decide (cs ≠ []) = z) :
    m__law_folded [.scr ns, .dat (.int m)] h = some (.dat (.list (if z = true then cs.map .int else [.int 0])), h) := by
  have e2 := eqW_ints_nil (cs := cs) (h := h ++ [none])
  rw [ez] at e2
  have c0 : 0 ≤ sizeLine := Nat.zero_le _
  have c1 : 1 ≤ sizeLine := by decide
  have hf : frz 2 [some (.scr ns), some (.dat (.int m)), some (.ref h.length), v3, v4] (h ++ [some (.lst (cs.map .int))]) = some ([some (.scr ns), some (.dat (.int m)), some (.dat (.list (cs.map .int))), v3, v4], h ++ [none]) := by
    have g1 : (h ++ [some (MO.lst (cs.map .int))])[h.length]? = some (some (.lst (cs.map .int))) := app_get rfl
    have g2 : (h ++ [some (MO.lst (cs.map .int))]).set h.length none = h ++ [none] := app_set rfl
    unfold frz
    simp only [List.getElem?_cons_zero, List.getElem?_cons_succ, g1, g2, List.set_cons_zero, List.set_cons_succ, List.any_cons, List.any_nil, i3, i4, isR_ref, isR_dat, isR_scr, isR_none, Bool.or_false, Bool.false_or, isTab, Bool.false_eq_true, if_false, moD]
  have lv := fun d : D => show leave false h (.dat d) (h ++ [none]) = some (.dat d, h) by
    have e : (h ++ [none]).take h.length = h := app_take rfl
    rw [leave_dat (by rw [e]), e]
  unfold foldBody at e1
  unfold m__law_folded
  clear i3 i4 ez
  cases z with
  | true => walk_at "dl"
  | false => walk_at "dl"
theorem folded_ok {ns : List Int} {h : Hh} (hn : ns.length ≤ 63) : ∃ cs : List Int, m__law_folded [.scr ns, .dat (.int 3)] h = some (.dat (.list (cs.map .int)), h) ∧ 0 < cs.length ∧ cs.length ≤ 3 := by
  have eA : cutG ns none (some (3 : Int)) = ns.take 3 := cut_to ns (k := 3)
  have eB : cutG ns (some (3 : Int)) (some 63) = ns.drop 3 := by
    have e : HT.sIx ns.length 0 (some (3 : Int)) = min 3 ns.length := HT.sIx_nat ns.length 0 3
    have e0 : HT.sIx ns.length ns.length (some (63 : Int)) = min 63 ns.length := HT.sIx_nat ns.length ns.length 63
    unfold cutG
    rw [e, e0, Nat.min_eq_right hn]
    rcases Nat.le_total 3 ns.length with q | q
    · rw [Nat.min_eq_left q]
      exact List.take_of_length_le (by rw [List.length_drop]; omega)
    · rw [Nat.min_eq_right q, List.drop_eq_nil_of_le q]
      simp
  obtain ⟨ρ', g, e1, v3, v4, cs, rfl, i3, i4, rfl, hl⟩ := forL_end (k := gT 2 (gC (gN 3) (gC (gN 4) (gE)))) (body := foldBody) (fun _ ρ g => ∃ (v3 v4 : Option W) (cs : List Int), ρ = [some (.scr ns), some (.dat (.int 3)), some (.ref h.length), v3, v4] ∧ (∀ n, isR n v3 = false) ∧ (∀ n, isR n v4 = false) ∧ g = h ++ [some (.lst (cs.map .int))] ∧ cs.length = (ns.take 3).length)
    (ds := enumD 0 ((ns.drop 3).map .int)) (ρ := [some (.scr ns), some (.dat (.int 3)), some (.ref h.length), none, none]) (h := h ++ [some (.lst ((ns.take 3).map .int))]) ⟨none, none, ns.take 3, rfl, fun _ => rfl, fun _ => rfl, rfl, rfl⟩ (by
      intro j d ej ρ g hi
      obtain ⟨v3, v4, cs, rfl, i3, i4, rfl, hl⟩ := hi
      obtain ⟨v, hj, rfl⟩ := enum_int ej
      rw [List.length_drop] at hj
      have h3 : cs.length = 3 := by rw [hl, List.length_take]; omega
      have hk : j % 3 < cs.length := by omega
      have ek : (j : Int) % 3 = ((j % 3 : Nat) : Int) := by omega
      have et := fold_run (x := .scr ns) (p := h.length) (j := j % 3) (k := (j : Int)) (m := 3) (v := v) (a := cs[j % 3]) (cs := cs.map .int) (g := h ++ [some (.lst (cs.map .int))]) rfl (app_get rfl) (by rw [ek]; exact ints_at hk) (by rw [List.length_map, ek]; exact ixN_nat hk) (by omega) (by omega)
      rw [app_set rfl] at et
      refine ⟨_, _, _, ?_, et, some (.dat (.int (j : Int))), some (.dat (.int v)), cs.set (j % 3) (cs[j % 3] + v * ((j : Int) + 2)), rfl, fun _ => rfl, fun _ => rfl, ?_, by rw [List.length_set]; exact hl⟩
      · clear et hj h3 hk ek hl ej eA eB hn i3 i4
        walk_at "dl"
      · rw [List.map_set])
  by_cases z : cs = []
  · refine ⟨[0], ?_, by simp, by simp⟩
    rw [fold_end (z := false) i3 i4 eA eB e1 (by simp [z])]
    rfl
  · refine ⟨cs, ?_, List.length_pos_iff.mpr z, by rw [hl, List.length_take]; omega⟩
    rw [fold_end (z := true) i3 i4 eA eB e1 (by simp [z])]
    rfl
theorem boxL_run {cs : List Int} {k cell a n : Int} {z : Bool} {h : Hh} (hn : ((cs.map PyData.int).length : Int) = n) (h1 : decide (k < n) = true) (h2 : L2.atI (cs.map PyData.int) k = some (.int cell)) (ha : (if cell < 0 then -cell else cell) = a) (hz : decide (1000000000000000000 ≤ a) = z) :
    m__law_box [.dat (.list (cs.map .int)), .dat (.int k)] h = some (.ref h.length, h ++ [some (.lst [.int (a * (if z = true then 1 else 0)), .int (cell % 2147483629 + 7919 * k + 11), .int 0])]) := by
  have c7 : 3 ≤ sizeLine := by decide
  have hna : Int.natAbs 10 < 18446744073709551616 := by decide
  have lv := leave_ref (h := h) (ds := [.int (a * (if z = true then 1 else 0)), .int (cell % 2147483629 + 7919 * k + 11), .int 0])
  unfold m__law_box
  cases z with
  | true => walk_at "dl"; exact leave_ref
  | false => walk_at "dl"; exact leave_ref
theorem boxL_new {cs : List Int} {k : Nat} {h : Hh} (hk : k < cs.length) (hk2 : k < 100) :
    ∃ d s : Int, m__law_box [.dat (.list (cs.map .int)), .dat (.int (k : Int))] h = some (.ref h.length, h ++ [some (.lst [.int d, .int s, .int 0])]) ∧ 0 ≤ d ∧ 0 ≤ s ∧ s < 1099511627776 := by
  refine ⟨_, _, boxL_run (n := (cs.length : Int)) (by rw [List.length_map]) (by simp; omega) (ints_at hk) rfl rfl, ?_, by omega, by omega⟩
  split <;> split <;> omega
end DL
set_option maxRecDepth 100000
set_option maxHeartbeats 400000
namespace DL
open PySem L2
variable [HW]
local macro_rules | `(tactic| walk_at "dl") => `(tactic| simp (config := { dsimp := false }) only [↓fnM_e, ↓sSeq_e, seqK_nx, seqK_rt, seqK_bk, seqK_ct, retK_rt, retK_nx, ↓sFrz_e, frK_some, ↓sAsg, ↓sRet, ↓sRetN, ↓sIf, ↓sExpr, ↓sSkip, ↓sNever, ↓sPar, ↓sFor, ↓sSub, ↓fVar, ↓fC, ↓fNil, ↓fCons, ↓fA, ↓f1, ↓f2, ↓fB, ↓fIf, ↓fNeg, ↓fNot, ↓fAnd, ↓fOr, ↓bNot, ↓bAnd, ↓bOr, ↓bYes, ↓obnd_x, ob_some, ↓sbnd_x, sb_some, ↓ite_x, iteK_t, iteK_f, gN, gT, gC, gE, ↓rng1I, ↓rng2I, ↓seqI, ↓enumA, ↓zipI, ↓strI, ↓fLc, ↓fDc, ↓fM, ↓fSl, ↓oNone, ↓oSome, ↓fRev, wipeE, ↓kwM, permM, permL, List.foldr, List.length_cons, List.length_nil, List.map_cons, List.map_nil, List.cons_append, List.nil_append, List.replicate, List.replicate_succ, List.replicate_zero, List.getElem?_cons_zero, List.getElem?_cons_succ, List.set_cons_zero, List.set_cons_succ, if_true, if_false, reduceIte, Nat.reduceAdd, Nat.reduceSub, Nat.reduceEqDiff, Nat.reduceLT, Nat.reduceLeDiff, Int.reduceLT, Int.reduceLE, Int.reduceNeg, Int.reduceMul, Int.reduceAdd, Int.reduceSub, Int.reduceToNat, Int.reducePow, Int.reduceEq, ok, bok, deref, mkL, lstW, tupW, dats, Option.map_some, appendW, insertW, setL, isL, listW, tupleW, lenW, absW, intC, maxW, minW, idxW, addW, subW_e, modW_e, divW_e, powW_e, mulW, intW, lt_e, gt_e, le_e, ge_e, ltW, allW_e, anyW_e, sumW_e, lW, setW, lstAt, cutW, backW, isW, isiW, iLT_none, iLT_bool, iLT_int, iLT_str, iLT_list, iLT_tup, iL_none, iL_bool, iL_int, iL_str, iL_list, iL_tup, iT_none, iT_bool, iT_int, iT_str, iT_list, iT_tup, iS_none, iS_bool, iS_int, iS_str, iS_list, iS_tup, iI_none, iI_bool, iI_int, iI_str, iI_list, iI_tup, iB_none, iB_bool, iB_int, iB_str, iB_list, iB_tup, Bool.false_eq_true, reduceCtorEq, Bool.not_true, Bool.not_false, decide_true, decide_false, List.zip_cons_cons, List.zip_nil_left, List.foldl_cons, List.foldl_nil, and_self, and_true, true_and, Bool.and_true, Bool.true_and, Bool.or_true, Bool.true_or, *])
end DL
set_option maxRecDepth 100000
set_option maxHeartbeats 400000
namespace DL
open PySem L2
variable [HW]
end DL
set_option maxRecDepth 100000
set_option maxHeartbeats 400000
namespace DL
open PySem L2
variable [HW]
end DL
set_option maxRecDepth 100000
set_option maxHeartbeats 400000
namespace DL
open PySem L2
variable [HW]
end DL
set_option maxRecDepth 100000
set_option maxHeartbeats 400000
namespace DL
open PySem L2
variable [HW]
local macro_rules | `(tactic| walk_at "dl") => `(tactic| simp (config := { dsimp := false }) only [↓fnM_e, ↓sSeq_e, seqK_nx, seqK_rt, seqK_bk, seqK_ct, retK_rt, retK_nx, ↓sFrz_e, frK_some, ↓sAsg, ↓sRet, ↓sRetN, ↓sIf, ↓sExpr, ↓sSkip, ↓sNever, ↓sPar, ↓sFor, ↓sSub, ↓fVar, ↓fC, ↓fNil, ↓fCons, ↓fA, ↓f1, ↓f2, ↓fB, ↓fIf, ↓fNeg, ↓fNot, ↓fAnd, ↓fOr, ↓bNot, ↓bAnd, ↓bOr, ↓bYes, ↓obnd_x, ob_some, ↓sbnd_x, sb_some, ↓ite_x, iteK_t, iteK_f, gN, gT, gC, gE, ↓rng1I, ↓rng2I, ↓seqI, ↓enumA, ↓zipI, ↓strI, ↓fLc, ↓fDc, ↓fM, ↓fSl, ↓oNone, ↓oSome, ↓fRev, wipeE, ↓kwM, permM, permL, List.foldr, List.length_cons, List.length_nil, List.map_cons, List.map_nil, List.cons_append, List.nil_append, List.replicate, List.replicate_succ, List.replicate_zero, List.getElem?_cons_zero, List.getElem?_cons_succ, List.set_cons_zero, List.set_cons_succ, if_true, if_false, reduceIte, Nat.reduceAdd, Nat.reduceSub, Nat.reduceEqDiff, Nat.reduceLT, Nat.reduceLeDiff, Int.reduceLT, Int.reduceLE, Int.reduceNeg, Int.reduceMul, Int.reduceAdd, Int.reduceSub, Int.reduceToNat, Int.reducePow, Int.reduceEq, ok, bok, deref, mkL, lstW, tupW, dats, Option.map_some, appendW, insertW, setL, isL, listW, tupleW, lenW, absW, intC, maxW, minW, idxW, addW, subW_e, modW_e, divW_e, powW_e, mulW, intW, lt_e, gt_e, le_e, ge_e, ltW, allW_e, anyW_e, sumW_e, lW, setW, lstAt, cutW, backW, isW, isiW, iLT_none, iLT_bool, iLT_int, iLT_str, iLT_list, iLT_tup, iL_none, iL_bool, iL_int, iL_str, iL_list, iL_tup, iT_none, iT_bool, iT_int, iT_str, iT_list, iT_tup, iS_none, iS_bool, iS_int, iS_str, iS_list, iS_tup, iI_none, iI_bool, iI_int, iI_str, iI_list, iI_tup, iB_none, iB_bool, iB_int, iB_str, iB_list, iB_tup, Bool.false_eq_true, reduceCtorEq, Bool.not_true, Bool.not_false, decide_true, decide_false, List.zip_cons_cons, List.zip_nil_left, List.foldl_cons, List.foldl_nil, and_self, and_true, true_and, Bool.and_true, Bool.true_and, Bool.or_true, Bool.true_or, *])
def cnt (g : Nat → Nat) : Nat → Nat
  | 0 => 0
  | i + 1 => cnt g i + if g (i + 1) < g i then 1 else 0
theorem cnt_shift (g : Nat → Nat) : ∀ n : Nat, cnt g (n + 1) = (if g 1 < g 0 then 1 else 0) + cnt (fun k => g (k + 1)) n
  | 0 => by simp [cnt]
  | n + 1 => by
    rw [cnt, cnt_shift g n, cnt]
    omega
theorem falls_cnt (r : List Str) : ∀ m : List Str, fallsN r m = cnt (fun k => r.idxOf (m.getD k "")) (m.length - 1)
  | [] => rfl
  | [a] => rfl
  | a :: b :: m => by
    have ih := falls_cnt r (b :: m)
    have e : fallsN r (a :: b :: m) = (if r.idxOf b < r.idxOf a then 1 else 0) + fallsN r (b :: m) := by
      unfold fallsN
      have ez : (a :: b :: m).zip ((a :: b :: m).drop 1) = (a, b) :: (b :: m).zip ((b :: m).drop 1) := by simp
      rw [ez]
      by_cases c : r.idxOf b < r.idxOf a
      · rw [List.filter_cons_of_pos (by simpa using c), List.length_cons, if_pos c]
        omega
      · rw [List.filter_cons_of_neg (by simpa using c), if_neg c]
        omega
    rw [e, ih]
    show _ = cnt _ (m.length + 1)
    rw [cnt_shift]
    rfl
theorem getD_in {m : List Str} {k : Nat} (h : k < m.length) : m.getD k "" ∈ m := by
  rw [List.getD_eq_getElem?_getD, List.getElem?_eq_getElem h]
  exact List.getElem_mem h
theorem idx_back {r : List Str} {s : Str} (h : s ∈ r) : r.getD (r.idxOf s) "" = s := by
  rw [List.getD_eq_getElem?_getD, List.getElem?_eq_getElem (List.idxOf_lt_length_of_mem h)]
  exact List.getElem_idxOf (List.idxOf_lt_length_of_mem h)
end DL
set_option maxRecDepth 100000
set_option maxHeartbeats 400000
namespace DL
open PySem L2
variable [HW]
theorem lcL_list {α : Type} {k : TM} {f : EM} {ρ : Env} {h : Hh} (em : α → D) (g : α → D) : ∀ {xs : List α}, (∀ x ∈ xs, ∃ ρ1, k (.dat (em x)) ρ h = some ρ1 ∧ f ρ1 h = some (.dat (g x), h)) → lcL k bYes f ρ (xs.map em) h = some (xs.map g, h)
  | [], _ => rfl
  | x :: xs, H => by
    obtain ⟨ρ1, e1, e2⟩ := H x List.mem_cons_self
    rw [List.map_cons, List.map_cons, lcL]
    simp only [e1, bYes, obnd, if_true, e2]
    rw [lcL_list em g fun y hy => H y (List.mem_cons_of_mem _ hy)]
end DL
set_option maxRecDepth 100000
set_option maxHeartbeats 400000
namespace DL
open PySem L2
variable [HW]
local macro_rules | `(tactic| walk_at "dl") => `(tactic| simp (config := { dsimp := false }) only [↓fnM_e, ↓sSeq_e, seqK_nx, seqK_rt, seqK_bk, seqK_ct, retK_rt, retK_nx, ↓sFrz_e, frK_some, ↓sAsg, ↓sRet, ↓sRetN, ↓sIf, ↓sExpr, ↓sSkip, ↓sNever, ↓sPar, ↓sFor, ↓sSub, ↓fVar, ↓fC, ↓fNil, ↓fCons, ↓fA, ↓f1, ↓f2, ↓fB, ↓fIf, ↓fNeg, ↓fNot, ↓fAnd, ↓fOr, ↓bNot, ↓bAnd, ↓bOr, ↓bYes, ↓obnd_x, ob_some, ↓sbnd_x, sb_some, ↓ite_x, iteK_t, iteK_f, gN, gT, gC, gE, ↓rng1I, ↓rng2I, ↓seqI, ↓enumA, ↓zipI, ↓strI, ↓fLc, ↓fDc, ↓fM, ↓fSl, ↓oNone, ↓oSome, ↓fRev, wipeE, ↓kwM, permM, permL, List.foldr, List.length_cons, List.length_nil, List.map_cons, List.map_nil, List.cons_append, List.nil_append, List.replicate, List.replicate_succ, List.replicate_zero, List.getElem?_cons_zero, List.getElem?_cons_succ, List.set_cons_zero, List.set_cons_succ, if_true, if_false, reduceIte, Nat.reduceAdd, Nat.reduceSub, Nat.reduceEqDiff, Nat.reduceLT, Nat.reduceLeDiff, Int.reduceLT, Int.reduceLE, Int.reduceNeg, Int.reduceMul, Int.reduceAdd, Int.reduceSub, Int.reduceToNat, Int.reducePow, Int.reduceEq, ok, bok, deref, mkL, lstW, tupW, dats, Option.map_some, appendW, insertW, setL, isL, listW, tupleW, lenW, absW, intC, maxW, minW, idxW, addW, subW_e, modW_e, divW_e, powW_e, mulW, intW, lt_e, gt_e, le_e, ge_e, ltW, allW_e, anyW_e, sumW_e, lW, setW, lstAt, cutW, backW, isW, isiW, iLT_none, iLT_bool, iLT_int, iLT_str, iLT_list, iLT_tup, iL_none, iL_bool, iL_int, iL_str, iL_list, iL_tup, iT_none, iT_bool, iT_int, iT_str, iT_list, iT_tup, iS_none, iS_bool, iS_int, iS_str, iS_list, iS_tup, iI_none, iI_bool, iI_int, iI_str, iI_list, iI_tup, iB_none, iB_bool, iB_int, iB_str, iB_list, iB_tup, Bool.false_eq_true, reduceCtorEq, Bool.not_true, Bool.not_false, decide_true, decide_false, List.zip_cons_cons, List.zip_nil_left, List.foldl_cons, List.foldl_nil, and_self, and_true, true_and, Bool.and_true, Bool.true_and, Bool.or_true, Bool.true_or, *])
def OkA (h : Hh) : Prop := h.all okM = true
theorem OkA.nil : OkA [] := rfl
theorem OkA.app {h : Hh} {o : Option MO} (x : OkA h) (y : okM o = true) : OkA (h ++ [o]) := by
  unfold OkA at *
  rw [List.all_append, x]
  simp [y]
theorem okM_ints (a b c : Int) : okM (some (.lst [.int a, .int b, .int c])) = true := by simp [okM, noLs, noL]
theorem OkA.only {h h' : Hh} {b c : Nat} (x : OkA h) (o : Only b h h') (bx : BoxAt h' b c) : OkA h' := by
  unfold OkA at *
  rw [List.all_eq_true] at *
  intro z hz
  obtain ⟨i, hi, e⟩ := List.getElem_of_mem hz
  have e' : h'[i]? = some z := by rw [List.getElem?_eq_getElem hi, e]
  by_cases hb : i = b
  · subst hb
    obtain ⟨d, s, k, q, _⟩ := bx
    rw [q] at e'
    cases e'
    exact okM_ints _ _ _
  · rw [o.off i hb] at e'
    exact x z (List.mem_of_getElem? e')
theorem OkA.take {h : Hh} (n : Nat) (x : OkA h) : OkA (h.take n) := by
  unfold OkA at *
  rw [List.all_eq_true] at *
  exact fun z hz => x z (List.mem_of_mem_take hz)
end DL
set_option maxRecDepth 100000
set_option maxHeartbeats 400000
namespace DL
open PySem L2
variable [HW]
def Srt (r : List Str) (key : Str → Nat) (m : List Str) : Prop := m.Perm r ∧ m.Pairwise fun a b => key a < key b ∨ (key a = key b ∧ r.idxOf a < r.idxOf b)
theorem Srt.eq {r m m' : List Str} {key : Str → Nat} (h : Srt r key m) (h' : Srt r key m') : m = m' := by
  refine List.Perm.eq_of_pairwise (fun a b ha hb h1 h2 => ?_) h.2 h'.2 (h.1.trans h'.1.symm)
  omega
theorem Srt.congr {r m : List Str} {key key' : Str → Nat} (h : Srt r key m) (e : ∀ s ∈ r, key s = key' s) : Srt r key' m := by
  refine ⟨h.1, List.Pairwise.imp_of_mem ?_ h.2⟩
  intro a b ha hb q
  rw [← e a (h.1.mem_iff.mp ha), ← e b (h.1.mem_iff.mp hb)]
  exact q
theorem pw_idxS {r : List Str} (nd : r.Nodup) : r.Pairwise fun a b => r.idxOf a < r.idxOf b := by
  rw [List.pairwise_iff_getElem]
  intro i j hi hj hij
  rw [idx_of nd hi, idx_of nd hj]
  exact hij
theorem Srt.start {r : List Str} (nd : r.Nodup) : Srt r (fun _ => 0) r := ⟨.refl _, (pw_idxS nd).imp fun h => .inr ⟨rfl, h⟩⟩
def strN (r m : List Str) (i : Nat) : Nat := cnt (fun k => r.idxOf (m.getD k "")) i
theorem getD_at {m : List Str} {k : Nat} (h : k < m.length) : m.getD k "" = m[k] := by
  rw [List.getD_eq_getElem?_getD, List.getElem?_eq_getElem h]; rfl
theorem strN_top (r m : List Str) : strN r m (m.length - 1) = fallsN r m := (falls_cnt r m).symm
theorem strN_ix (r m : List Str) : ∀ i : Nat, strN r m i ≤ i
  | 0 => Nat.le_refl _
  | i + 1 => by
    have := strN_ix r m i
    unfold strN at *
    rw [cnt]
    split <;> omega
end DL
set_option maxRecDepth 100000
set_option maxHeartbeats 400000
namespace DL
open PySem L2
variable [HW]
local macro_rules | `(tactic| walk_at "dl") => `(tactic| simp (config := { dsimp := false }) only [↓fnM_e, ↓sSeq_e, seqK_nx, seqK_rt, seqK_bk, seqK_ct, retK_rt, retK_nx, ↓sFrz_e, frK_some, ↓sAsg, ↓sRet, ↓sRetN, ↓sIf, ↓sExpr, ↓sSkip, ↓sNever, ↓sPar, ↓sFor, ↓sSub, ↓fVar, ↓fC, ↓fNil, ↓fCons, ↓fA, ↓f1, ↓f2, ↓fB, ↓fIf, ↓fNeg, ↓fNot, ↓fAnd, ↓fOr, ↓bNot, ↓bAnd, ↓bOr, ↓bYes, ↓obnd_x, ob_some, ↓sbnd_x, sb_some, ↓ite_x, iteK_t, iteK_f, gN, gT, gC, gE, ↓rng1I, ↓rng2I, ↓seqI, ↓enumA, ↓zipI, ↓strI, ↓fLc, ↓fDc, ↓fM, ↓fSl, ↓oNone, ↓oSome, ↓fRev, wipeE, ↓kwM, permM, permL, List.foldr, List.length_cons, List.length_nil, List.map_cons, List.map_nil, List.cons_append, List.nil_append, List.replicate, List.replicate_succ, List.replicate_zero, List.getElem?_cons_zero, List.getElem?_cons_succ, List.set_cons_zero, List.set_cons_succ, if_true, if_false, reduceIte, Nat.reduceAdd, Nat.reduceSub, Nat.reduceEqDiff, Nat.reduceLT, Nat.reduceLeDiff, Int.reduceLT, Int.reduceLE, Int.reduceNeg, Int.reduceMul, Int.reduceAdd, Int.reduceSub, Int.reduceToNat, Int.reducePow, Int.reduceEq, ok, bok, deref, mkL, lstW, tupW, dats, Option.map_some, appendW, insertW, setL, isL, listW, tupleW, lenW, absW, intC, maxW, minW, idxW, addW, subW_e, modW_e, divW_e, powW_e, mulW, intW, lt_e, gt_e, le_e, ge_e, ltW, allW_e, anyW_e, sumW_e, lW, setW, lstAt, cutW, backW, isW, isiW, iLT_none, iLT_bool, iLT_int, iLT_str, iLT_list, iLT_tup, iL_none, iL_bool, iL_int, iL_str, iL_list, iL_tup, iT_none, iT_bool, iT_int, iT_str, iT_list, iT_tup, iS_none, iS_bool, iS_int, iS_str, iS_list, iS_tup, iI_none, iI_bool, iI_int, iI_str, iI_list, iI_tup, iB_none, iB_bool, iB_int, iB_str, iB_list, iB_tup, Bool.false_eq_true, reduceCtorEq, Bool.not_true, Bool.not_false, decide_true, decide_false, List.zip_cons_cons, List.zip_nil_left, List.foldl_cons, List.foldl_nil, and_self, and_true, true_and, Bool.and_true, Bool.true_and, Bool.or_true, Bool.true_or, *])
end DL
set_option maxRecDepth 100000
set_option maxHeartbeats 400000
namespace DL
open PySem L2
variable [HW]
local macro_rules | `(tactic| walk_at "dl") => `(tactic| simp (config := { dsimp := false }) only [↓fnM_e, ↓sSeq_e, seqK_nx, seqK_rt, seqK_bk, seqK_ct, retK_rt, retK_nx, ↓sFrz_e, frK_some, ↓sAsg, ↓sRet, ↓sRetN, ↓sIf, ↓sExpr, ↓sSkip, ↓sNever, ↓sPar, ↓sFor, ↓sSub, ↓fVar, ↓fC, ↓fNil, ↓fCons, ↓fA, ↓f1, ↓f2, ↓fB, ↓fIf, ↓fNeg, ↓fNot, ↓fAnd, ↓fOr, ↓bNot, ↓bAnd, ↓bOr, ↓bYes, ↓obnd_x, ob_some, ↓sbnd_x, sb_some, ↓ite_x, iteK_t, iteK_f, gN, gT, gC, gE, ↓rng1I, ↓rng2I, ↓seqI, ↓enumA, ↓zipI, ↓strI, ↓fLc, ↓fDc, ↓fM, ↓fSl, ↓oNone, ↓oSome, ↓fRev, wipeE, ↓kwM, permM, permL, List.foldr, List.length_cons, List.length_nil, List.map_cons, List.map_nil, List.cons_append, List.nil_append, List.replicate, List.replicate_succ, List.replicate_zero, List.getElem?_cons_zero, List.getElem?_cons_succ, List.set_cons_zero, List.set_cons_succ, if_true, if_false, reduceIte, Nat.reduceAdd, Nat.reduceSub, Nat.reduceEqDiff, Nat.reduceLT, Nat.reduceLeDiff, Int.reduceLT, Int.reduceLE, Int.reduceNeg, Int.reduceMul, Int.reduceAdd, Int.reduceSub, Int.reduceToNat, Int.reducePow, Int.reduceEq, ok, bok, deref, mkL, lstW, tupW, dats, Option.map_some, appendW, insertW, setL, isL, listW, tupleW, lenW, absW, intC, maxW, minW, idxW, addW, subW_e, modW_e, divW_e, powW_e, mulW, intW, lt_e, gt_e, le_e, ge_e, ltW, allW_e, anyW_e, sumW_e, lW, setW, lstAt, cutW, backW, isW, isiW, iLT_none, iLT_bool, iLT_int, iLT_str, iLT_list, iLT_tup, iL_none, iL_bool, iL_int, iL_str, iL_list, iL_tup, iT_none, iT_bool, iT_int, iT_str, iT_list, iT_tup, iS_none, iS_bool, iS_int, iS_str, iS_list, iS_tup, iI_none, iI_bool, iI_int, iI_str, iI_list, iI_tup, iB_none, iB_bool, iB_int, iB_str, iB_list, iB_tup, Bool.false_eq_true, reduceCtorEq, Bool.not_true, Bool.not_false, decide_true, decide_false, List.zip_cons_cons, List.zip_nil_left, List.foldl_cons, List.foldl_nil, and_self, and_true, true_and, Bool.and_true, Bool.true_and, Bool.or_true, Bool.true_or, *])
end DL
set_option maxRecDepth 100000
set_option maxHeartbeats 400000
namespace DL
open PySem L2
variable [HW]
local macro_rules | `(tactic| walk_at "dl") => `(tactic| simp (config := { dsimp := false }) only [↓fnM_e, ↓sSeq_e, seqK_nx, seqK_rt, seqK_bk, seqK_ct, retK_rt, retK_nx, ↓sFrz_e, frK_some, ↓sAsg, ↓sRet, ↓sRetN, ↓sIf, ↓sExpr, ↓sSkip, ↓sNever, ↓sPar, ↓sFor, ↓sSub, ↓fVar, ↓fC, ↓fNil, ↓fCons, ↓fA, ↓f1, ↓f2, ↓fB, ↓fIf, ↓fNeg, ↓fNot, ↓fAnd, ↓fOr, ↓bNot, ↓bAnd, ↓bOr, ↓bYes, ↓obnd_x, ob_some, ↓sbnd_x, sb_some, ↓ite_x, iteK_t, iteK_f, gN, gT, gC, gE, ↓rng1I, ↓rng2I, ↓seqI, ↓enumA, ↓zipI, ↓strI, ↓fLc, ↓fDc, ↓fM, ↓fSl, ↓oNone, ↓oSome, ↓fRev, wipeE, ↓kwM, permM, permL, List.foldr, List.length_cons, List.length_nil, List.map_cons, List.map_nil, List.cons_append, List.nil_append, List.replicate, List.replicate_succ, List.replicate_zero, List.getElem?_cons_zero, List.getElem?_cons_succ, List.set_cons_zero, List.set_cons_succ, if_true, if_false, reduceIte, Nat.reduceAdd, Nat.reduceSub, Nat.reduceEqDiff, Nat.reduceLT, Nat.reduceLeDiff, Int.reduceLT, Int.reduceLE, Int.reduceNeg, Int.reduceMul, Int.reduceAdd, Int.reduceSub, Int.reduceToNat, Int.reducePow, Int.reduceEq, ok, bok, deref, mkL, lstW, tupW, dats, Option.map_some, appendW, insertW, setL, isL, listW, tupleW, lenW, absW, intC, maxW, minW, idxW, addW, subW_e, modW_e, divW_e, powW_e, mulW, intW, lt_e, gt_e, le_e, ge_e, ltW, allW_e, anyW_e, sumW_e, lW, setW, lstAt, cutW, backW, isW, isiW, iLT_none, iLT_bool, iLT_int, iLT_str, iLT_list, iLT_tup, iL_none, iL_bool, iL_int, iL_str, iL_list, iL_tup, iT_none, iT_bool, iT_int, iT_str, iT_list, iT_tup, iS_none, iS_bool, iS_int, iS_str, iS_list, iS_tup, iI_none, iI_bool, iI_int, iI_str, iI_list, iI_tup, iB_none, iB_bool, iB_int, iB_str, iB_list, iB_tup, Bool.false_eq_true, reduceCtorEq, Bool.not_true, Bool.not_false, decide_true, decide_false, List.zip_cons_cons, List.zip_nil_left, List.foldl_cons, List.foldl_nil, and_self, and_true, true_and, Bool.and_true, Bool.true_and, Bool.or_true, Bool.true_or, *])
theorem nodup_len : ∀ {l l' : List Str}, l.Nodup → (∀ x ∈ l, x ∈ l') → l.length ≤ l'.length
  | [], _, _, _ => Nat.zero_le _
  | a :: l, l', nd, h => by
    have ha := h a List.mem_cons_self
    rw [List.nodup_cons] at nd
    have ih := nodup_len (l := l) (l' := l'.erase a) nd.2 fun x hx => (List.mem_erase_of_ne (show x ≠ a from fun z => nd.1 (z ▸ hx))).mpr (h x (List.mem_cons_of_mem _ hx))
    rw [List.length_erase_of_mem ha] at ih
    have := List.length_pos_of_mem ha
    rw [List.length_cons]
    omega
theorem all_noDM_app {h : Hh} {o : Option MO} (hk : h.all noDM = true) (ho : noDM o = true) : (h ++ [o]).all noDM = true := by
  rw [List.all_append, hk]
  simp [ho]
end DL
set_option maxRecDepth 100000
set_option maxHeartbeats 400000
namespace DL
open PySem L2
variable [HW]
local macro_rules | `(tactic| walk_at "dl") => `(tactic| simp (config := { dsimp := false }) only [↓fnM_e, ↓sSeq_e, seqK_nx, seqK_rt, seqK_bk, seqK_ct, retK_rt, retK_nx, ↓sFrz_e, frK_some, ↓sAsg, ↓sRet, ↓sRetN, ↓sIf, ↓sExpr, ↓sSkip, ↓sNever, ↓sPar, ↓sFor, ↓sSub, ↓fVar, ↓fC, ↓fNil, ↓fCons, ↓fA, ↓f1, ↓f2, ↓fB, ↓fIf, ↓fNeg, ↓fNot, ↓fAnd, ↓fOr, ↓bNot, ↓bAnd, ↓bOr, ↓bYes, ↓obnd_x, ob_some, ↓sbnd_x, sb_some, ↓ite_x, iteK_t, iteK_f, gN, gT, gC, gE, ↓rng1I, ↓rng2I, ↓seqI, ↓enumA, ↓zipI, ↓strI, ↓fLc, ↓fDc, ↓fM, ↓fSl, ↓oNone, ↓oSome, ↓fRev, wipeE, ↓kwM, permM, permL, List.foldr, List.length_cons, List.length_nil, List.map_cons, List.map_nil, List.cons_append, List.nil_append, List.replicate, List.replicate_succ, List.replicate_zero, List.getElem?_cons_zero, List.getElem?_cons_succ, List.set_cons_zero, List.set_cons_succ, if_true, if_false, reduceIte, Nat.reduceAdd, Nat.reduceSub, Nat.reduceEqDiff, Nat.reduceLT, Nat.reduceLeDiff, Int.reduceLT, Int.reduceLE, Int.reduceNeg, Int.reduceMul, Int.reduceAdd, Int.reduceSub, Int.reduceToNat, Int.reducePow, Int.reduceEq, ok, bok, deref, mkL, lstW, tupW, dats, Option.map_some, appendW, insertW, setL, isL, listW, tupleW, lenW, absW, intC, maxW, minW, idxW, addW, subW_e, modW_e, divW_e, powW_e, mulW, intW, lt_e, gt_e, le_e, ge_e, ltW, allW_e, anyW_e, sumW_e, lW, setW, lstAt, cutW, backW, isW, isiW, iLT_none, iLT_bool, iLT_int, iLT_str, iLT_list, iLT_tup, iL_none, iL_bool, iL_int, iL_str, iL_list, iL_tup, iT_none, iT_bool, iT_int, iT_str, iT_list, iT_tup, iS_none, iS_bool, iS_int, iS_str, iS_list, iS_tup, iI_none, iI_bool, iI_int, iI_str, iI_list, iI_tup, iB_none, iB_bool, iB_int, iB_str, iB_list, iB_tup, Bool.false_eq_true, reduceCtorEq, Bool.not_true, Bool.not_false, decide_true, decide_false, List.zip_cons_cons, List.zip_nil_left, List.foldl_cons, List.foldl_nil, and_self, and_true, true_and, Bool.and_true, Bool.true_and, Bool.or_true, Bool.true_or, *])
end DL
set_option maxRecDepth 100000
set_option maxHeartbeats 400000
namespace DL
open PySem L2
variable [HW]
local macro_rules | `(tactic| walk_at "dl") => `(tactic| simp (config := { dsimp := false }) only [↓fnM_e, ↓sSeq_e, seqK_nx, seqK_rt, seqK_bk, seqK_ct, retK_rt, retK_nx, ↓sFrz_e, frK_some, ↓sAsg, ↓sRet, ↓sRetN, ↓sIf, ↓sExpr, ↓sSkip, ↓sNever, ↓sPar, ↓sFor, ↓sSub, ↓fVar, ↓fC, ↓fNil, ↓fCons, ↓fA, ↓f1, ↓f2, ↓fB, ↓fIf, ↓fNeg, ↓fNot, ↓fAnd, ↓fOr, ↓bNot, ↓bAnd, ↓bOr, ↓bYes, ↓obnd_x, ob_some, ↓sbnd_x, sb_some, ↓ite_x, iteK_t, iteK_f, gN, gT, gC, gE, ↓rng1I, ↓rng2I, ↓seqI, ↓enumA, ↓zipI, ↓strI, ↓fLc, ↓fDc, ↓fM, ↓fSl, ↓oNone, ↓oSome, ↓fRev, wipeE, ↓kwM, permM, permL, List.foldr, List.length_cons, List.length_nil, List.map_cons, List.map_nil, List.cons_append, List.nil_append, List.replicate, List.replicate_succ, List.replicate_zero, List.getElem?_cons_zero, List.getElem?_cons_succ, List.set_cons_zero, List.set_cons_succ, if_true, if_false, reduceIte, Nat.reduceAdd, Nat.reduceSub, Nat.reduceEqDiff, Nat.reduceLT, Nat.reduceLeDiff, Int.reduceLT, Int.reduceLE, Int.reduceNeg, Int.reduceMul, Int.reduceAdd, Int.reduceSub, Int.reduceToNat, Int.reducePow, Int.reduceEq, ok, bok, deref, mkL, lstW, tupW, dats, Option.map_some, appendW, insertW, setL, isL, listW, tupleW, lenW, absW, intC, maxW, minW, idxW, addW, subW_e, modW_e, divW_e, powW_e, mulW, intW, lt_e, gt_e, le_e, ge_e, ltW, allW_e, anyW_e, sumW_e, lW, setW, lstAt, cutW, backW, isW, isiW, iLT_none, iLT_bool, iLT_int, iLT_str, iLT_list, iLT_tup, iL_none, iL_bool, iL_int, iL_str, iL_list, iL_tup, iT_none, iT_bool, iT_int, iT_str, iT_list, iT_tup, iS_none, iS_bool, iS_int, iS_str, iS_list, iS_tup, iI_none, iI_bool, iI_int, iI_str, iI_list, iI_tup, iB_none, iB_bool, iB_int, iB_str, iB_list, iB_tup, Bool.false_eq_true, reduceCtorEq, Bool.not_true, Bool.not_false, decide_true, decide_false, List.zip_cons_cons, List.zip_nil_left, List.foldl_cons, List.foldl_nil, and_self, and_true, true_and, Bool.and_true, Bool.true_and, Bool.or_true, Bool.true_or, *])
structure JD (h0 h : Hh) : Prop where
  pre : Pre h0 h
  len : h0.length ≤ h.length
  nod : h.all noDM = true
theorem JD.app {h0 h : Hh} (j : JD h0 h) {o : Option MO} (ho : noDM o = true) : JD h0 (h ++ [o]) := ⟨j.pre.app j.len, by rw [List.length_append]; have := j.len; omega, all_noDM_app j.nod ho⟩
theorem noDM_ints (a b c : Int) : noDM (some (.lst [.int a, .int b, .int c])) = true := by simp [noDM, noDs, noD]
theorem nod_only {h h' : Hh} {b c : Nat} (hk : h.all noDM = true) (o : Only b h h') (bx : BoxAt h' b c) : h'.all noDM = true := by
  rw [List.all_eq_true] at *
  intro z hz
  obtain ⟨i, hi, e⟩ := List.getElem_of_mem hz
  have e' : h'[i]? = some z := by rw [List.getElem?_eq_getElem hi, e]
  by_cases hb : i = b
  · subst hb
    obtain ⟨d, s, k, q, _⟩ := bx
    rw [q] at e'
    cases e'
    exact noDM_ints _ _ _
  · rw [o.off i hb] at e'
    exact hk z (List.mem_of_getElem? e')
theorem JD.only {h0 h h' : Hh} {b c : Nat} (j : JD h0 h) (hb : h0.length ≤ b) (o : Only b h h') (bx : BoxAt h' b c) : JD h0 h' := ⟨j.pre.only hb o, by rw [o.len]; exact j.len, nod_only j.nod o bx⟩
noncomputable def lawG (right : FM) : FM := fnM false 1 3 (sSeq (sAsg (fA (m__law_folded) (fCons (fVar 0) (fCons (fC (.int 3)) (fNil)))) (gN 1))
    (sRet (fA allW (fCons (fLc false (rng1I (fCons (fA lenW (fCons (fVar 1) (fNil))) (fNil))) (gN 2) (bYes) (fA right (fCons (fA (m__law_box) (fCons (fVar 1) (fCons (fVar 2) (fNil)))) (fNil))) [2]) (fNil)))))
theorem law_okG {h0 : Hh} (hk0 : h0.all noDM = true) {right : FM} (hr : ∀ (h : Hh) (b : Nat), JD h0 h → h0.length ≤ b → BoxAt h b 0 → ∃ h' c, right [.ref b] h = some (.dat (.bool true), h') ∧ BoxAt h' b c ∧ Only b h h') (ns : List Int) (hn : ns.length ≤ 63) :
    ∃ h', lawG right [.scr ns] h0 = some (.dat (.bool true), h') := by
  obtain ⟨cs, ec, c0, c3⟩ := folded_ok (h := h0) hn
  obtain ⟨rs, h', e2, hl, hall, hp'⟩ := lcL_inv (k := gN 2) (f := fA right (fCons (fA (m__law_box) (fCons (fVar 1) (fCons (fVar 2) (fNil)))) (fNil))) (ρ := [some (.scr ns), some (.dat (.list (cs.map .int))), none])
    (fun n g => JD h0 g) (fun _ d => d = .bool true) (ds := rngD 0 cs.length) (n := 0) (h := h0) ⟨fun _ _ => rfl, Nat.le_refl _, hk0⟩ (by
      intro j d' ej g hp1
      obtain ⟨hj, rfl⟩ := rng_get ej
      obtain ⟨d, s, e, hd, hs, hs2⟩ := boxL_new (h := g) hj (by omega)
      have hb : BoxAt (g ++ [some (.lst [.int d, .int s, .int 0])]) g.length 0 := ⟨d, s, 0, by simp, hd, hs, hs2, by omega, by omega⟩
      have hp2 := hp1.app (o := some (.lst [.int d, .int s, .int 0])) (noDM_ints _ _ _)
      obtain ⟨g', c, e3, b3, o3⟩ := hr _ g.length hp2 hp1.len hb
      refine ⟨[some (.scr ns), some (.dat (.list (cs.map .int))), some (.dat (.int (j : Int)))], .bool true, g', rfl, ?_, rfl, hp2.only hp1.len o3 b3⟩
      clear hp1 hp2 ec hb hd hs hs2 b3 o3 hr ej hj
      walk_at "dl")
  have er : rs = List.replicate rs.length (.bool true) := bools_all fun r hr => by
    obtain ⟨j, hj, rfl⟩ := List.getElem_of_mem hr
    exact hall j _ (List.getElem?_eq_getElem hj)
  have hl' : rs.length = cs.length := by rw [hl, rng_len]
  rw [hl'] at er
  subst er
  have e4 := bools_true cs.length
  have e5 := all_true cs.length
  have e6 : (List.replicate cs.length (PyData.bool true)).length ≤ sizeLine := by rw [List.length_replicate, show sizeLine = 16777216 from rfl]; omega
  refine ⟨h0, ?_⟩
  obtain ⟨n, hn'⟩ : ∃ n : Int, ((cs.map PyData.int).length : Int) = n := ⟨_, rfl⟩
  have b0 : -1000000000 ≤ n := by omega
  have b1 : n ≤ 1000000000 := by rw [← hn', List.length_map]; omega
  have b2 : n.toNat = cs.length := by rw [← hn', List.length_map]; simp
  have lv : leave false h0 (.dat (.bool true)) h' = some (.dat (.bool true), h0) := by
    have e := hp'.pre.take hp'.len
    rw [leave_dat (by rw [e]), e]
  unfold lawG
  clear hr hp' c0 c3 hk0 hall hl hl'
  walk_at "dl"
end DL
set_option maxRecDepth 100000
set_option maxHeartbeats 400000
namespace DL
open PySem L2
variable [HW]
local macro_rules | `(tactic| walk_at "dl") => `(tactic| simp (config := { dsimp := false }) only [↓fnM_e, ↓sSeq_e, seqK_nx, seqK_rt, seqK_bk, seqK_ct, retK_rt, retK_nx, ↓sFrz_e, frK_some, ↓sAsg, ↓sRet, ↓sRetN, ↓sIf, ↓sExpr, ↓sSkip, ↓sNever, ↓sPar, ↓sFor, ↓sSub, ↓fVar, ↓fC, ↓fNil, ↓fCons, ↓fA, ↓f1, ↓f2, ↓fB, ↓fIf, ↓fNeg, ↓fNot, ↓fAnd, ↓fOr, ↓bNot, ↓bAnd, ↓bOr, ↓bYes, ↓obnd_x, ob_some, ↓sbnd_x, sb_some, ↓ite_x, iteK_t, iteK_f, gN, gT, gC, gE, ↓rng1I, ↓rng2I, ↓seqI, ↓enumA, ↓zipI, ↓strI, ↓fLc, ↓fDc, ↓fM, ↓fSl, ↓oNone, ↓oSome, ↓fRev, wipeE, ↓kwM, permM, permL, List.foldr, List.length_cons, List.length_nil, List.map_cons, List.map_nil, List.cons_append, List.nil_append, List.replicate, List.replicate_succ, List.replicate_zero, List.getElem?_cons_zero, List.getElem?_cons_succ, List.set_cons_zero, List.set_cons_succ, if_true, if_false, reduceIte, Nat.reduceAdd, Nat.reduceSub, Nat.reduceEqDiff, Nat.reduceLT, Nat.reduceLeDiff, Int.reduceLT, Int.reduceLE, Int.reduceNeg, Int.reduceMul, Int.reduceAdd, Int.reduceSub, Int.reduceToNat, Int.reducePow, Int.reduceEq, ok, bok, deref, mkL, lstW, tupW, dats, Option.map_some, appendW, insertW, setL, isL, listW, tupleW, lenW, absW, intC, maxW, minW, idxW, addW, subW_e, modW_e, divW_e, powW_e, mulW, intW, lt_e, gt_e, le_e, ge_e, ltW, allW_e, anyW_e, sumW_e, lW, setW, lstAt, cutW, backW, isW, isiW, iLT_none, iLT_bool, iLT_int, iLT_str, iLT_list, iLT_tup, iL_none, iL_bool, iL_int, iL_str, iL_list, iL_tup, iT_none, iT_bool, iT_int, iT_str, iT_list, iT_tup, iS_none, iS_bool, iS_int, iS_str, iS_list, iS_tup, iI_none, iI_bool, iI_int, iI_str, iI_list, iI_tup, iB_none, iB_bool, iB_int, iB_str, iB_list, iB_tup, Bool.false_eq_true, reduceCtorEq, Bool.not_true, Bool.not_false, decide_true, decide_false, List.zip_cons_cons, List.zip_nil_left, List.foldl_cons, List.foldl_nil, and_self, and_true, true_and, Bool.and_true, Bool.true_and, Bool.or_true, Bool.true_or, *])
end DL
set_option maxRecDepth 100000
set_option maxHeartbeats 400000
namespace DL
open PySem L2
variable [HW]
local macro_rules | `(tactic| walk_at "dl") => `(tactic| simp (config := { dsimp := false }) only [↓fnM_e, ↓sSeq_e, seqK_nx, seqK_rt, seqK_bk, seqK_ct, retK_rt, retK_nx, ↓sFrz_e, frK_some, ↓sAsg, ↓sRet, ↓sRetN, ↓sIf, ↓sExpr, ↓sSkip, ↓sNever, ↓sPar, ↓sFor, ↓sSub, ↓fVar, ↓fC, ↓fNil, ↓fCons, ↓fA, ↓f1, ↓f2, ↓fB, ↓fIf, ↓fNeg, ↓fNot, ↓fAnd, ↓fOr, ↓bNot, ↓bAnd, ↓bOr, ↓bYes, ↓obnd_x, ob_some, ↓sbnd_x, sb_some, ↓ite_x, iteK_t, iteK_f, gN, gT, gC, gE, ↓rng1I, ↓rng2I, ↓seqI, ↓enumA, ↓zipI, ↓strI, ↓fLc, ↓fDc, ↓fM, ↓fSl, ↓oNone, ↓oSome, ↓fRev, wipeE, ↓kwM, permM, permL, List.foldr, List.length_cons, List.length_nil, List.map_cons, List.map_nil, List.cons_append, List.nil_append, List.replicate, List.replicate_succ, List.replicate_zero, List.getElem?_cons_zero, List.getElem?_cons_succ, List.set_cons_zero, List.set_cons_succ, if_true, if_false, reduceIte, Nat.reduceAdd, Nat.reduceSub, Nat.reduceEqDiff, Nat.reduceLT, Nat.reduceLeDiff, Int.reduceLT, Int.reduceLE, Int.reduceNeg, Int.reduceMul, Int.reduceAdd, Int.reduceSub, Int.reduceToNat, Int.reducePow, Int.reduceEq, ok, bok, deref, mkL, lstW, tupW, dats, Option.map_some, appendW, insertW, setL, isL, listW, tupleW, lenW, absW, intC, maxW, minW, idxW, addW, subW_e, modW_e, divW_e, powW_e, mulW, intW, lt_e, gt_e, le_e, ge_e, ltW, allW_e, anyW_e, sumW_e, lW, setW, lstAt, cutW, backW, isW, isiW, iLT_none, iLT_bool, iLT_int, iLT_str, iLT_list, iLT_tup, iL_none, iL_bool, iL_int, iL_str, iL_list, iL_tup, iT_none, iT_bool, iT_int, iT_str, iT_list, iT_tup, iS_none, iS_bool, iS_int, iS_str, iS_list, iS_tup, iI_none, iI_bool, iI_int, iI_str, iI_list, iI_tup, iB_none, iB_bool, iB_int, iB_str, iB_list, iB_tup, Bool.false_eq_true, reduceCtorEq, Bool.not_true, Bool.not_false, decide_true, decide_false, List.zip_cons_cons, List.zip_nil_left, List.foldl_cons, List.foldl_nil, and_self, and_true, true_and, Bool.and_true, Bool.true_and, Bool.or_true, Bool.true_or, *])
def itn {α : Type} (f : α → α) : Nat → α → α
  | 0, a => a
  | n + 1, a => itn f n (f a)
end DL
set_option maxRecDepth 100000
set_option maxHeartbeats 400000
namespace DL
open PySem L2
variable [HW]
local macro_rules | `(tactic| walk_at "dl") => `(tactic| simp (config := { dsimp := false }) only [↓fnM_e, ↓sSeq_e, seqK_nx, seqK_rt, seqK_bk, seqK_ct, retK_rt, retK_nx, ↓sFrz_e, frK_some, ↓sAsg, ↓sRet, ↓sRetN, ↓sIf, ↓sExpr, ↓sSkip, ↓sNever, ↓sPar, ↓sFor, ↓sSub, ↓fVar, ↓fC, ↓fNil, ↓fCons, ↓fA, ↓f1, ↓f2, ↓fB, ↓fIf, ↓fNeg, ↓fNot, ↓fAnd, ↓fOr, ↓bNot, ↓bAnd, ↓bOr, ↓bYes, ↓obnd_x, ob_some, ↓sbnd_x, sb_some, ↓ite_x, iteK_t, iteK_f, gN, gT, gC, gE, ↓rng1I, ↓rng2I, ↓seqI, ↓enumA, ↓zipI, ↓strI, ↓fLc, ↓fDc, ↓fM, ↓fSl, ↓oNone, ↓oSome, ↓fRev, wipeE, ↓kwM, permM, permL, List.foldr, List.length_cons, List.length_nil, List.map_cons, List.map_nil, List.cons_append, List.nil_append, List.replicate, List.replicate_succ, List.replicate_zero, List.getElem?_cons_zero, List.getElem?_cons_succ, List.set_cons_zero, List.set_cons_succ, if_true, if_false, reduceIte, Nat.reduceAdd, Nat.reduceSub, Nat.reduceEqDiff, Nat.reduceLT, Nat.reduceLeDiff, Int.reduceLT, Int.reduceLE, Int.reduceNeg, Int.reduceMul, Int.reduceAdd, Int.reduceSub, Int.reduceToNat, Int.reducePow, Int.reduceEq, ok, bok, deref, mkL, lstW, tupW, dats, Option.map_some, appendW, insertW, setL, isL, listW, tupleW, lenW, absW, intC, maxW, minW, idxW, addW, subW_e, modW_e, divW_e, powW_e, mulW, intW, lt_e, gt_e, le_e, ge_e, ltW, allW_e, anyW_e, sumW_e, lW, setW, lstAt, cutW, backW, isW, isiW, iLT_none, iLT_bool, iLT_int, iLT_str, iLT_list, iLT_tup, iL_none, iL_bool, iL_int, iL_str, iL_list, iL_tup, iT_none, iT_bool, iT_int, iT_str, iT_list, iT_tup, iS_none, iS_bool, iS_int, iS_str, iS_list, iS_tup, iI_none, iI_bool, iI_int, iI_str, iI_list, iI_tup, iB_none, iB_bool, iB_int, iB_str, iB_list, iB_tup, Bool.false_eq_true, reduceCtorEq, Bool.not_true, Bool.not_false, decide_true, decide_false, List.zip_cons_cons, List.zip_nil_left, List.foldl_cons, List.foldl_nil, and_self, and_true, true_and, Bool.and_true, Bool.true_and, Bool.or_true, Bool.true_or, *])
end DL
set_option maxRecDepth 100000
set_option maxHeartbeats 400000
namespace DL
open PySem L2
variable [HW]
local macro_rules | `(tactic| walk_at "dl") => `(tactic| simp (config := { dsimp := false }) only [↓fnM_e, ↓sSeq_e, seqK_nx, seqK_rt, seqK_bk, seqK_ct, retK_rt, retK_nx, ↓sFrz_e, frK_some, ↓sAsg, ↓sRet, ↓sRetN, ↓sIf, ↓sExpr, ↓sSkip, ↓sNever, ↓sPar, ↓sFor, ↓sSub, ↓fVar, ↓fC, ↓fNil, ↓fCons, ↓fA, ↓f1, ↓f2, ↓fB, ↓fIf, ↓fNeg, ↓fNot, ↓fAnd, ↓fOr, ↓bNot, ↓bAnd, ↓bOr, ↓bYes, ↓obnd_x, ob_some, ↓sbnd_x, sb_some, ↓ite_x, iteK_t, iteK_f, gN, gT, gC, gE, ↓rng1I, ↓rng2I, ↓seqI, ↓enumA, ↓zipI, ↓strI, ↓fLc, ↓fDc, ↓fM, ↓fSl, ↓oNone, ↓oSome, ↓fRev, wipeE, ↓kwM, permM, permL, List.foldr, List.length_cons, List.length_nil, List.map_cons, List.map_nil, List.cons_append, List.nil_append, List.replicate, List.replicate_succ, List.replicate_zero, List.getElem?_cons_zero, List.getElem?_cons_succ, List.set_cons_zero, List.set_cons_succ, if_true, if_false, reduceIte, Nat.reduceAdd, Nat.reduceSub, Nat.reduceEqDiff, Nat.reduceLT, Nat.reduceLeDiff, Int.reduceLT, Int.reduceLE, Int.reduceNeg, Int.reduceMul, Int.reduceAdd, Int.reduceSub, Int.reduceToNat, Int.reducePow, Int.reduceEq, ok, bok, deref, mkL, lstW, tupW, dats, Option.map_some, appendW, insertW, setL, isL, listW, tupleW, lenW, absW, intC, maxW, minW, idxW, addW, subW_e, modW_e, divW_e, powW_e, mulW, intW, lt_e, gt_e, le_e, ge_e, ltW, allW_e, anyW_e, sumW_e, lW, setW, lstAt, cutW, backW, isW, isiW, iLT_none, iLT_bool, iLT_int, iLT_str, iLT_list, iLT_tup, iL_none, iL_bool, iL_int, iL_str, iL_list, iL_tup, iT_none, iT_bool, iT_int, iT_str, iT_list, iT_tup, iS_none, iS_bool, iS_int, iS_str, iS_list, iS_tup, iI_none, iI_bool, iI_int, iI_str, iI_list, iI_tup, iB_none, iB_bool, iB_int, iB_str, iB_list, iB_tup, Bool.false_eq_true, reduceCtorEq, Bool.not_true, Bool.not_false, decide_true, decide_false, List.zip_cons_cons, List.zip_nil_left, List.foldl_cons, List.foldl_nil, and_self, and_true, true_and, Bool.and_true, Bool.true_and, Bool.or_true, Bool.true_or, *])
def fldK (C : Addr) (f : Str) (w : W) (h1 : Hh) : Option (W × Hh) := match insD C w h1 with
  | some fs => match fs.lookup f with
    | some d => some (.dat d, h1)
    | none => none
  | none => none
theorem fFld_e (C : Addr) (f : Str) (g : EM) (ρ : DL.Env) (h : Hh) : fFld C f g ρ h = ob (fldK C f) () (g ρ h) := rfl
def metK (C : Addr) (m : Str) (mm : FM) (ga : AM) (ρ : DL.Env) (w : W) (h1 : Hh) : Option (W × Hh) := match insF C w h1 with
  | some fs => match fs.lookup m with
    | some _ => none
    | none => ob (fun ws h2 => mm (w :: ws) h2) () (ga ρ h1)
  | none => none
theorem fMeth_e (C : Addr) (m : Str) (mm : FM) (go : EM) (ga : AM) (ρ : DL.Env) (h : Hh) : fMeth C m mm go ga ρ h = ob (metK C m mm ga ρ) () (go ρ h) := rfl
def mkT (C : Addr) (mi : FM) (ws : List W) (h1 : Hh) : Option (W × Hh) := match mi (.ref h1.length :: ws) (h1 ++ [some (.ins C [])]) with
  | some (.dat .none, h2) => match h2[h1.length]? with
    | some (some (.ins C' fs)) => if C' = C then some (.ins C fs, h2.set h1.length none) else none
    | _ => none
  | _ => none
theorem fMk_e (C : Addr) (mi : FM) (ga : AM) (ρ : DL.Env) (h : Hh) : fMk C mi ga ρ h = ob (mkT C mi) () (ga ρ h) := rfl
theorem fld_n {C : Addr} {a b : D} {h : Hh} : fldK C "own_names" (.ins C [("own_names", a), ("own_pairs", b)]) h = some (.dat a, h) := by
  simp only [fldK, insD, if_true]; rfl
theorem fld_p {C : Addr} {a b : D} {h : Hh} : fldK C "own_pairs" (.ins C [("own_names", a), ("own_pairs", b)]) h = some (.dat b, h) := by
  simp only [fldK, insD, if_true]; rfl
theorem met_t {C : Addr} {m : Str} {mm : FM} {ga : AM} {ρ : DL.Env} {a b : D} {h : Hh} (hm : List.lookup m [(("own_names" : Str), a), ("own_pairs", b)] = none) : metK C m mm ga ρ (.ins C [("own_names", a), ("own_pairs", b)]) h = ob (fun ws h2 => mm (.ins C [("own_names", a), ("own_pairs", b)] :: ws) h2) () (ga ρ h) := by
  simp only [metK, insF, if_true, hm]
theorem met_leads {C : Addr} {mm : FM} {ga : AM} {ρ : DL.Env} {a b : D} {h : Hh} : metK C "leads" mm ga ρ (.ins C [("own_names", a), ("own_pairs", b)]) h = ob (fun ws h2 => mm (.ins C [("own_names", a), ("own_pairs", b)] :: ws) h2) () (ga ρ h) := met_t rfl
theorem met_then {C : Addr} {mm : FM} {ga : AM} {ρ : DL.Env} {a b : D} {h : Hh} : metK C "then" mm ga ρ (.ins C [("own_names", a), ("own_pairs", b)]) h = ob (fun ws h2 => mm (.ins C [("own_names", a), ("own_pairs", b)] :: ws) h2) () (ga ρ h) := met_t rfl
theorem met_times {C : Addr} {mm : FM} {ga : AM} {ρ : DL.Env} {a b : D} {h : Hh} : metK C "times" mm ga ρ (.ins C [("own_names", a), ("own_pairs", b)]) h = ob (fun ws h2 => mm (.ins C [("own_names", a), ("own_pairs", b)] :: ws) h2) () (ga ρ h) := met_t rfl
theorem met_made {C : Addr} {mm : FM} {ga : AM} {ρ : DL.Env} {a b : D} {h : Hh} : metK C "made" mm ga ρ (.ins C [("own_names", a), ("own_pairs", b)]) h = ob (fun ws h2 => mm (.ins C [("own_names", a), ("own_pairs", b)] :: ws) h2) () (ga ρ h) := met_t rfl
theorem met_tells {C : Addr} {mm : FM} {ga : AM} {ρ : DL.Env} {a b : D} {h : Hh} : metK C "tells" mm ga ρ (.ins C [("own_names", a), ("own_pairs", b)]) h = ob (fun ws h2 => mm (.ins C [("own_names", a), ("own_pairs", b)] :: ws) h2) () (ga ρ h) := met_t rfl
theorem met_names {C : Addr} {mm : FM} {ga : AM} {ρ : DL.Env} {a b : D} {h : Hh} : metK C "names" mm ga ρ (.ins C [("own_names", a), ("own_pairs", b)]) h = ob (fun ws h2 => mm (.ins C [("own_names", a), ("own_pairs", b)] :: ws) h2) () (ga ρ h) := met_t rfl
end DL
set_option maxRecDepth 100000
set_option maxHeartbeats 400000
namespace DL
open PySem L2
variable [HW]
local macro_rules | `(tactic| walk_at "dl") => `(tactic| simp (config := { dsimp := false }) only [↓fnM_e, ↓sSeq_e, seqK_nx, seqK_rt, seqK_bk, seqK_ct, retK_rt, retK_nx, ↓sFrz_e, frK_some, ↓sAsg, ↓sRet, ↓sRetN, ↓sIf, ↓sExpr, ↓sSkip, ↓sNever, ↓sPar, ↓sFor, ↓sSub, ↓fVar, ↓fC, ↓fNil, ↓fCons, ↓fA, ↓f1, ↓f2, ↓fB, ↓fIf, ↓fNeg, ↓fNot, ↓fAnd, ↓fOr, ↓bNot, ↓bAnd, ↓bOr, ↓bYes, ↓obnd_x, ob_some, ↓sbnd_x, sb_some, ↓ite_x, iteK_t, iteK_f, gN, gT, gC, gE, ↓rng1I, ↓rng2I, ↓seqI, ↓enumA, ↓zipI, ↓strI, ↓fLc, ↓fDc, ↓fM, ↓fSl, ↓oNone, ↓oSome, ↓fRev, wipeE, ↓kwM, permM, permL, List.foldr, List.length_cons, List.length_nil, List.map_cons, List.map_nil, List.cons_append, List.nil_append, List.replicate, List.replicate_succ, List.replicate_zero, List.getElem?_cons_zero, List.getElem?_cons_succ, List.set_cons_zero, List.set_cons_succ, if_true, if_false, reduceIte, Nat.reduceAdd, Nat.reduceSub, Nat.reduceEqDiff, Nat.reduceLT, Nat.reduceLeDiff, Int.reduceLT, Int.reduceLE, Int.reduceNeg, Int.reduceMul, Int.reduceAdd, Int.reduceSub, Int.reduceToNat, Int.reducePow, Int.reduceEq, ok, bok, deref, mkL, lstW, tupW, dats, Option.map_some, appendW, insertW, setL, isL, listW, tupleW, lenW, absW, intC, maxW, minW, idxW, addW, subW_e, modW_e, divW_e, powW_e, mulW, intW, lt_e, gt_e, le_e, ge_e, ltW, allW_e, anyW_e, sumW_e, lW, setW, lstAt, cutW, backW, isW, isiW, iLT_none, iLT_bool, iLT_int, iLT_str, iLT_list, iLT_tup, iL_none, iL_bool, iL_int, iL_str, iL_list, iL_tup, iT_none, iT_bool, iT_int, iT_str, iT_list, iT_tup, iS_none, iS_bool, iS_int, iS_str, iS_list, iS_tup, iI_none, iI_bool, iI_int, iI_str, iI_list, iI_tup, iB_none, iB_bool, iB_int, iB_str, iB_list, iB_tup, Bool.false_eq_true, reduceCtorEq, Bool.not_true, Bool.not_false, decide_true, decide_false, List.zip_cons_cons, List.zip_nil_left, List.foldl_cons, List.foldl_nil, and_self, and_true, true_and, Bool.and_true, Bool.true_and, Bool.or_true, Bool.true_or, *])
theorem nd_inj {S : List Str} (nd : S.Nodup) {i j : Nat} (hi : i < S.length) (hj : j < S.length) (e : S[i] = S[j]) : i = j := by
  rcases Nat.lt_trichotomy i j with h | h | h
  · exact absurd e (List.pairwise_iff_getElem.mp nd i j hi hj h)
  · exact h
  · exact absurd e.symm (List.pairwise_iff_getElem.mp nd j i hj hi h)
theorem eqv_txts : ∀ a b : List Str, PyData.eqvAll (a.map .str) (b.map .str) = decide (a = b)
  | [], [] => by simp [PyData.eqvAll]
  | [], b :: l => by simp [PyData.eqvAll]
  | a :: k, [] => by simp [PyData.eqvAll]
  | a :: k, b :: l => by
    rw [List.map_cons, List.map_cons, PyData.eqvAll, eqv_txts k l]
    by_cases h : a = b
    · subst h; simp [PyData.eqv]
    · simp [PyData.eqv, h]
theorem eqW_rows {neg : Bool} {a b : List Str} {h : Hh} (ha : Txts a) (hb : Txts b) : eqW neg (.dat (.tuple (a.map .str))) (.dat (.tuple (b.map .str))) h = some (.dat (.bool (if neg = true then !decide (a = b) else decide (a = b))), h) := by
  have sh : ∀ {l : List Str}, Txts l → shp (.tuple (l.map .str)) = true := fun {l} ht => by
    unfold shp
    rw [PyData.canLay0, canLay_strs ht, PyData.depth, depth_strs]
    rfl
  have e : PyData.eqv (.tuple (a.map .str)) (.tuple (b.map .str)) = decide (a = b) := by
    rw [PyData.eqv, eqv_txts]
  unfold eqW
  simp only [deref, eqS, sh ha, sh hb, e, Bool.and_self, if_true]
  rfl
structure Nam (l : List Str) (ms : List (Str × Str)) : Prop where
  key : ms.map (·.1) = l
  nd : l.Nodup
  inj : (ms.map (·.2)).Nodup
  txt : Txts (ms.map (·.2))
section
variable {l : List Str} {ms : List (Str × Str)} (N : Nam l ms)
include N
theorem Nam.nk : (ms.map (·.1)).Nodup := by rw [N.key]; exact N.nd
theorem Nam.look {s : Str} (hs : s ∈ l) : ∃ p ∈ ms, p.1 = s ∧ goal ms s = p.2 ∧ ms.lookup s = some p.2 := by
  rw [← N.key] at hs
  obtain ⟨p, hp, rfl⟩ := List.mem_map.mp hs
  refine ⟨p, hp, rfl, goal_of N.nk p hp, ?_⟩
  have : ∀ {ms : List (Str × Str)}, (ms.map (·.1)).Nodup → p ∈ ms → ms.lookup p.1 = some p.2 := fun {ms} => by
    induction ms with
    | nil => intro _ h; cases h
    | cons q ms ih =>
      intro nd h
      rw [List.map_cons, List.nodup_cons] at nd
      rcases List.mem_cons.mp h with rfl | h
      · rw [List.lookup_cons]; simp
      · rw [List.lookup_cons]
        have : p.1 ≠ q.1 := fun z => nd.1 (z ▸ List.mem_map.mpr ⟨p, h, rfl⟩)
        rw [beq_eq_false_iff_ne.mpr this]
        exact ih nd.2 h
  exact this N.nk hp
theorem Nam.get {s : Str} (hs : s ∈ l) : getD (sdic (tld ms)) (.str s) = some (some (.str (goal ms s))) := by
  obtain ⟨p, _, _, e1, e2⟩ := N.look hs
  rw [getD_sdic, look_tld, e2, e1]; rfl
theorem Nam.map : l.map (goal ms) = ms.map (·.2) := by
  rw [← N.key, List.map_map]
  apply List.map_congr_left
  intro p hp
  exact goal_of N.nk p hp
theorem Nam.one {a b : Str} (ha : a ∈ l) (hb : b ∈ l) : goal ms a = goal ms b ↔ a = b := by
  constructor
  · intro e
    obtain ⟨i, hi, rfl⟩ := List.getElem_of_mem ha
    obtain ⟨j, hj, rfl⟩ := List.getElem_of_mem hb
    have nd := N.inj
    rw [← N.map] at nd
    have q : (l.map (DL.goal ms))[i]'(by rw [List.length_map]; exact hi) = (l.map (DL.goal ms))[j]'(by rw [List.length_map]; exact hj) := by rw [List.getElem_map, List.getElem_map]; exact e
    have := nd_inj nd (by rw [List.length_map]; exact hi) (by rw [List.length_map]; exact hj) q
    subst this; rfl
  · rintro rfl; rfl
end
noncomputable def leP (a b : Str × Str) : Bool := PySem.W.dataLe false (fun d : D => d) (prT a) (prT b)
section
variable {r : List Str} {ms ps : List (Str × Str)} (N : Nam r ms) (c : CallOf r ps)
include N c
end
end DL
set_option maxRecDepth 100000
set_option maxHeartbeats 400000
namespace DL
open PySem L2
variable [HW]
local macro_rules | `(tactic| walk_at "dl") => `(tactic| simp (config := { dsimp := false }) only [↓fnM_e, ↓sSeq_e, seqK_nx, seqK_rt, seqK_bk, seqK_ct, retK_rt, retK_nx, ↓sFrz_e, frK_some, ↓sAsg, ↓sRet, ↓sRetN, ↓sIf, ↓sExpr, ↓sSkip, ↓sNever, ↓sPar, ↓sFor, ↓sSub, ↓fVar, ↓fC, ↓fNil, ↓fCons, ↓fA, ↓f1, ↓f2, ↓fB, ↓fIf, ↓fNeg, ↓fNot, ↓fAnd, ↓fOr, ↓bNot, ↓bAnd, ↓bOr, ↓bYes, ↓obnd_x, ob_some, ↓sbnd_x, sb_some, ↓ite_x, iteK_t, iteK_f, gN, gT, gC, gE, ↓rng1I, ↓rng2I, ↓seqI, ↓enumA, ↓zipI, ↓strI, ↓fLc, ↓fDc, ↓fM, ↓fSl, ↓oNone, ↓oSome, ↓fRev, wipeE, ↓kwM, permM, permL, List.foldr, List.length_cons, List.length_nil, List.map_cons, List.map_nil, List.cons_append, List.nil_append, List.replicate, List.replicate_succ, List.replicate_zero, List.getElem?_cons_zero, List.getElem?_cons_succ, List.set_cons_zero, List.set_cons_succ, if_true, if_false, reduceIte, Nat.reduceAdd, Nat.reduceSub, Nat.reduceEqDiff, Nat.reduceLT, Nat.reduceLeDiff, Int.reduceLT, Int.reduceLE, Int.reduceNeg, Int.reduceMul, Int.reduceAdd, Int.reduceSub, Int.reduceToNat, Int.reducePow, Int.reduceEq, ok, bok, deref, mkL, lstW, tupW, dats, Option.map_some, appendW, insertW, setL, isL, listW, tupleW, lenW, absW, intC, maxW, minW, idxW, addW, subW_e, modW_e, divW_e, powW_e, mulW, intW, lt_e, gt_e, le_e, ge_e, ltW, allW_e, anyW_e, sumW_e, lW, setW, lstAt, cutW, backW, isW, isiW, iLT_none, iLT_bool, iLT_int, iLT_str, iLT_list, iLT_tup, iL_none, iL_bool, iL_int, iL_str, iL_list, iL_tup, iT_none, iT_bool, iT_int, iT_str, iT_list, iT_tup, iS_none, iS_bool, iS_int, iS_str, iS_list, iS_tup, iI_none, iI_bool, iI_int, iI_str, iI_list, iI_tup, iB_none, iB_bool, iB_int, iB_str, iB_list, iB_tup, Bool.false_eq_true, reduceCtorEq, Bool.not_true, Bool.not_false, decide_true, decide_false, List.zip_cons_cons, List.zip_nil_left, List.foldl_cons, List.foldl_nil, and_self, and_true, true_and, Bool.and_true, Bool.true_and, Bool.or_true, Bool.true_or, *])
local macro_rules | `(tactic| walk_at "tb") => `(tactic| simp (config := { dsimp := false }) only [↓fFld_e, ↓fMeth_e, ↓fMk_e, fld_n, fld_p, met_leads, met_then, met_times, met_made, met_tells, met_names, ↓fnM_e, ↓sSeq_e, seqK_nx, seqK_rt, seqK_bk, seqK_ct, retK_rt, retK_nx, ↓sFrz_e, frK_some, ↓sAsg, ↓sRet, ↓sRetN, ↓sIf, ↓sExpr, ↓sSkip, ↓sNever, ↓sPar, ↓sFor, ↓sSub, ↓fVar, ↓fC, ↓fNil, ↓fCons, ↓fA, ↓f1, ↓f2, ↓fB, ↓fIf, ↓fNeg, ↓fNot, ↓fAnd, ↓fOr, ↓bNot, ↓bAnd, ↓bOr, ↓bYes, ↓obnd_x, ob_some, ↓sbnd_x, sb_some, ↓ite_x, iteK_t, iteK_f, gN, gT, gC, gE, ↓rng1I, ↓rng2I, ↓seqI, ↓enumA, ↓zipI, ↓strI, ↓fLc, ↓fDc, ↓fM, ↓fSl, ↓oNone, ↓oSome, ↓fRev, wipeE, ↓kwM, permM, permL, List.foldr, List.length_cons, List.length_nil, List.map_cons, List.map_nil, List.cons_append, List.nil_append, List.replicate, List.replicate_succ, List.replicate_zero, List.getElem?_cons_zero, List.getElem?_cons_succ, List.set_cons_zero, List.set_cons_succ, if_true, if_false, reduceIte, Nat.reduceAdd, Nat.reduceSub, Nat.reduceEqDiff, Nat.reduceLT, Nat.reduceLeDiff, Int.reduceLT, Int.reduceLE, Int.reduceNeg, Int.reduceMul, Int.reduceAdd, Int.reduceSub, Int.reduceToNat, Int.reducePow, Int.reduceEq, ok, bok, deref, mkL, lstW, tupW, dats, Option.map_some, appendW, insertW, setL, isL, listW, tupleW, lenW, absW, intC, maxW, minW, idxW, addW, subW_e, modW_e, divW_e, powW_e, mulW, intW, lt_e, gt_e, le_e, ge_e, ltW, allW_e, anyW_e, sumW_e, lW, setW, lstAt, cutW, backW, isW, isiW, iLT_none, iLT_bool, iLT_int, iLT_str, iLT_list, iLT_tup, iL_none, iL_bool, iL_int, iL_str, iL_list, iL_tup, iT_none, iT_bool, iT_int, iT_str, iT_list, iT_tup, iS_none, iS_bool, iS_int, iS_str, iS_list, iS_tup, iI_none, iI_bool, iI_int, iI_str, iI_list, iI_tup, iB_none, iB_bool, iB_int, iB_str, iB_list, iB_tup, Bool.false_eq_true, reduceCtorEq, Bool.not_true, Bool.not_false, decide_true, decide_false, List.zip_cons_cons, List.zip_nil_left, List.foldl_cons, List.foldl_nil, and_self, and_true, true_and, Bool.and_true, Bool.true_and, Bool.or_true, Bool.true_or, *])
end DL
set_option maxRecDepth 100000
set_option maxHeartbeats 400000
namespace DL
open PySem L2
variable [HW]
local macro_rules | `(tactic| walk_at "tb") => `(tactic| simp (config := { dsimp := false }) only [↓fFld_e, ↓fMeth_e, ↓fMk_e, fld_n, fld_p, met_leads, met_then, met_times, met_made, met_tells, met_names, ↓fnM_e, ↓sSeq_e, seqK_nx, seqK_rt, seqK_bk, seqK_ct, retK_rt, retK_nx, ↓sFrz_e, frK_some, ↓sAsg, ↓sRet, ↓sRetN, ↓sIf, ↓sExpr, ↓sSkip, ↓sNever, ↓sPar, ↓sFor, ↓sSub, ↓fVar, ↓fC, ↓fNil, ↓fCons, ↓fA, ↓f1, ↓f2, ↓fB, ↓fIf, ↓fNeg, ↓fNot, ↓fAnd, ↓fOr, ↓bNot, ↓bAnd, ↓bOr, ↓bYes, ↓obnd_x, ob_some, ↓sbnd_x, sb_some, ↓ite_x, iteK_t, iteK_f, gN, gT, gC, gE, ↓rng1I, ↓rng2I, ↓seqI, ↓enumA, ↓zipI, ↓strI, ↓fLc, ↓fDc, ↓fM, ↓fSl, ↓oNone, ↓oSome, ↓fRev, wipeE, ↓kwM, permM, permL, List.foldr, List.length_cons, List.length_nil, List.map_cons, List.map_nil, List.cons_append, List.nil_append, List.replicate, List.replicate_succ, List.replicate_zero, List.getElem?_cons_zero, List.getElem?_cons_succ, List.set_cons_zero, List.set_cons_succ, if_true, if_false, reduceIte, Nat.reduceAdd, Nat.reduceSub, Nat.reduceEqDiff, Nat.reduceLT, Nat.reduceLeDiff, Int.reduceLT, Int.reduceLE, Int.reduceNeg, Int.reduceMul, Int.reduceAdd, Int.reduceSub, Int.reduceToNat, Int.reducePow, Int.reduceEq, ok, bok, deref, mkL, lstW, tupW, dats, Option.map_some, appendW, insertW, setL, isL, listW, tupleW, lenW, absW, intC, maxW, minW, idxW, addW, subW_e, modW_e, divW_e, powW_e, mulW, intW, lt_e, gt_e, le_e, ge_e, ltW, allW_e, anyW_e, sumW_e, lW, setW, lstAt, cutW, backW, isW, isiW, iLT_none, iLT_bool, iLT_int, iLT_str, iLT_list, iLT_tup, iL_none, iL_bool, iL_int, iL_str, iL_list, iL_tup, iT_none, iT_bool, iT_int, iT_str, iT_list, iT_tup, iS_none, iS_bool, iS_int, iS_str, iS_list, iS_tup, iI_none, iI_bool, iI_int, iI_str, iI_list, iI_tup, iB_none, iB_bool, iB_int, iB_str, iB_list, iB_tup, Bool.false_eq_true, reduceCtorEq, Bool.not_true, Bool.not_false, decide_true, decide_false, List.zip_cons_cons, List.zip_nil_left, List.foldl_cons, List.foldl_nil, and_self, and_true, true_and, Bool.and_true, Bool.true_and, Bool.or_true, Bool.true_or, *])
end DL
set_option maxRecDepth 100000
set_option maxHeartbeats 400000
namespace DL
open PySem L2
variable [HW]
local macro_rules | `(tactic| walk_at "dl") => `(tactic| simp (config := { dsimp := false }) only [↓fnM_e, ↓sSeq_e, seqK_nx, seqK_rt, seqK_bk, seqK_ct, retK_rt, retK_nx, ↓sFrz_e, frK_some, ↓sAsg, ↓sRet, ↓sRetN, ↓sIf, ↓sExpr, ↓sSkip, ↓sNever, ↓sPar, ↓sFor, ↓sSub, ↓fVar, ↓fC, ↓fNil, ↓fCons, ↓fA, ↓f1, ↓f2, ↓fB, ↓fIf, ↓fNeg, ↓fNot, ↓fAnd, ↓fOr, ↓bNot, ↓bAnd, ↓bOr, ↓bYes, ↓obnd_x, ob_some, ↓sbnd_x, sb_some, ↓ite_x, iteK_t, iteK_f, gN, gT, gC, gE, ↓rng1I, ↓rng2I, ↓seqI, ↓enumA, ↓zipI, ↓strI, ↓fLc, ↓fDc, ↓fM, ↓fSl, ↓oNone, ↓oSome, ↓fRev, wipeE, ↓kwM, permM, permL, List.foldr, List.length_cons, List.length_nil, List.map_cons, List.map_nil, List.cons_append, List.nil_append, List.replicate, List.replicate_succ, List.replicate_zero, List.getElem?_cons_zero, List.getElem?_cons_succ, List.set_cons_zero, List.set_cons_succ, if_true, if_false, reduceIte, Nat.reduceAdd, Nat.reduceSub, Nat.reduceEqDiff, Nat.reduceLT, Nat.reduceLeDiff, Int.reduceLT, Int.reduceLE, Int.reduceNeg, Int.reduceMul, Int.reduceAdd, Int.reduceSub, Int.reduceToNat, Int.reducePow, Int.reduceEq, ok, bok, deref, mkL, lstW, tupW, dats, Option.map_some, appendW, insertW, setL, isL, listW, tupleW, lenW, absW, intC, maxW, minW, idxW, addW, subW_e, modW_e, divW_e, powW_e, mulW, intW, lt_e, gt_e, le_e, ge_e, ltW, allW_e, anyW_e, sumW_e, lW, setW, lstAt, cutW, backW, isW, isiW, iLT_none, iLT_bool, iLT_int, iLT_str, iLT_list, iLT_tup, iL_none, iL_bool, iL_int, iL_str, iL_list, iL_tup, iT_none, iT_bool, iT_int, iT_str, iT_list, iT_tup, iS_none, iS_bool, iS_int, iS_str, iS_list, iS_tup, iI_none, iI_bool, iI_int, iI_str, iI_list, iI_tup, iB_none, iB_bool, iB_int, iB_str, iB_list, iB_tup, Bool.false_eq_true, reduceCtorEq, Bool.not_true, Bool.not_false, decide_true, decide_false, List.zip_cons_cons, List.zip_nil_left, List.foldl_cons, List.foldl_nil, and_self, and_true, true_and, Bool.and_true, Bool.true_and, Bool.or_true, Bool.true_or, *])
structure GoodC (ps : List (Str × Str)) : Prop where
  pos : 0 < ps.length
  few : ps.length ≤ 30
  nam : ∀ p ∈ ps, NameOk p.1 ∧ NameOk p.2
  nd : (ps.map (·.1)).Nodup
  pw : (ps.map (·.1)).Pairwise fun a b => leS a b = true
  tgt : ∀ p ∈ ps, p.2 ∈ ps.map (·.1)
theorem GoodC.txts {ps : List (Str × Str)} (g : GoodC ps) : Txts (ps.map (·.1)) := fun s hs => by
  obtain ⟨p, hp, rfl⟩ := List.mem_map.mp hs
  exact (g.nam p hp).1.txt
end DL
set_option maxRecDepth 100000
set_option maxHeartbeats 400000
namespace DL
open PySem L2
variable [HW]
local macro_rules | `(tactic| walk_at "dl") => `(tactic| simp (config := { dsimp := false }) only [↓fnM_e, ↓sSeq_e, seqK_nx, seqK_rt, seqK_bk, seqK_ct, retK_rt, retK_nx, ↓sFrz_e, frK_some, ↓sAsg, ↓sRet, ↓sRetN, ↓sIf, ↓sExpr, ↓sSkip, ↓sNever, ↓sPar, ↓sFor, ↓sSub, ↓fVar, ↓fC, ↓fNil, ↓fCons, ↓fA, ↓f1, ↓f2, ↓fB, ↓fIf, ↓fNeg, ↓fNot, ↓fAnd, ↓fOr, ↓bNot, ↓bAnd, ↓bOr, ↓bYes, ↓obnd_x, ob_some, ↓sbnd_x, sb_some, ↓ite_x, iteK_t, iteK_f, gN, gT, gC, gE, ↓rng1I, ↓rng2I, ↓seqI, ↓enumA, ↓zipI, ↓strI, ↓fLc, ↓fDc, ↓fM, ↓fSl, ↓oNone, ↓oSome, ↓fRev, wipeE, ↓kwM, permM, permL, List.foldr, List.length_cons, List.length_nil, List.map_cons, List.map_nil, List.cons_append, List.nil_append, List.replicate, List.replicate_succ, List.replicate_zero, List.getElem?_cons_zero, List.getElem?_cons_succ, List.set_cons_zero, List.set_cons_succ, if_true, if_false, reduceIte, Nat.reduceAdd, Nat.reduceSub, Nat.reduceEqDiff, Nat.reduceLT, Nat.reduceLeDiff, Int.reduceLT, Int.reduceLE, Int.reduceNeg, Int.reduceMul, Int.reduceAdd, Int.reduceSub, Int.reduceToNat, Int.reducePow, Int.reduceEq, ok, bok, deref, mkL, lstW, tupW, dats, Option.map_some, appendW, insertW, setL, isL, listW, tupleW, lenW, absW, intC, maxW, minW, idxW, addW, subW_e, modW_e, divW_e, powW_e, mulW, intW, lt_e, gt_e, le_e, ge_e, ltW, allW_e, anyW_e, sumW_e, lW, setW, lstAt, cutW, backW, isW, isiW, iLT_none, iLT_bool, iLT_int, iLT_str, iLT_list, iLT_tup, iL_none, iL_bool, iL_int, iL_str, iL_list, iL_tup, iT_none, iT_bool, iT_int, iT_str, iT_list, iT_tup, iS_none, iS_bool, iS_int, iS_str, iS_list, iS_tup, iI_none, iI_bool, iI_int, iI_str, iI_list, iI_tup, iB_none, iB_bool, iB_int, iB_str, iB_list, iB_tup, Bool.false_eq_true, reduceCtorEq, Bool.not_true, Bool.not_false, decide_true, decide_false, List.zip_cons_cons, List.zip_nil_left, List.foldl_cons, List.foldl_nil, and_self, and_true, true_and, Bool.and_true, Bool.true_and, Bool.or_true, Bool.true_or, *])
local macro_rules | `(tactic| walk_at "tb") => `(tactic| simp (config := { dsimp := false }) only [↓fFld_e, ↓fMeth_e, ↓fMk_e, fld_n, fld_p, met_leads, met_then, met_times, met_made, met_tells, met_names, ↓fnM_e, ↓sSeq_e, seqK_nx, seqK_rt, seqK_bk, seqK_ct, retK_rt, retK_nx, ↓sFrz_e, frK_some, ↓sAsg, ↓sRet, ↓sRetN, ↓sIf, ↓sExpr, ↓sSkip, ↓sNever, ↓sPar, ↓sFor, ↓sSub, ↓fVar, ↓fC, ↓fNil, ↓fCons, ↓fA, ↓f1, ↓f2, ↓fB, ↓fIf, ↓fNeg, ↓fNot, ↓fAnd, ↓fOr, ↓bNot, ↓bAnd, ↓bOr, ↓bYes, ↓obnd_x, ob_some, ↓sbnd_x, sb_some, ↓ite_x, iteK_t, iteK_f, gN, gT, gC, gE, ↓rng1I, ↓rng2I, ↓seqI, ↓enumA, ↓zipI, ↓strI, ↓fLc, ↓fDc, ↓fM, ↓fSl, ↓oNone, ↓oSome, ↓fRev, wipeE, ↓kwM, permM, permL, List.foldr, List.length_cons, List.length_nil, List.map_cons, List.map_nil, List.cons_append, List.nil_append, List.replicate, List.replicate_succ, List.replicate_zero, List.getElem?_cons_zero, List.getElem?_cons_succ, List.set_cons_zero, List.set_cons_succ, if_true, if_false, reduceIte, Nat.reduceAdd, Nat.reduceSub, Nat.reduceEqDiff, Nat.reduceLT, Nat.reduceLeDiff, Int.reduceLT, Int.reduceLE, Int.reduceNeg, Int.reduceMul, Int.reduceAdd, Int.reduceSub, Int.reduceToNat, Int.reducePow, Int.reduceEq, ok, bok, deref, mkL, lstW, tupW, dats, Option.map_some, appendW, insertW, setL, isL, listW, tupleW, lenW, absW, intC, maxW, minW, idxW, addW, subW_e, modW_e, divW_e, powW_e, mulW, intW, lt_e, gt_e, le_e, ge_e, ltW, allW_e, anyW_e, sumW_e, lW, setW, lstAt, cutW, backW, isW, isiW, iLT_none, iLT_bool, iLT_int, iLT_str, iLT_list, iLT_tup, iL_none, iL_bool, iL_int, iL_str, iL_list, iL_tup, iT_none, iT_bool, iT_int, iT_str, iT_list, iT_tup, iS_none, iS_bool, iS_int, iS_str, iS_list, iS_tup, iI_none, iI_bool, iI_int, iI_str, iI_list, iI_tup, iB_none, iB_bool, iB_int, iB_str, iB_list, iB_tup, Bool.false_eq_true, reduceCtorEq, Bool.not_true, Bool.not_false, decide_true, decide_false, List.zip_cons_cons, List.zip_nil_left, List.foldl_cons, List.foldl_nil, and_self, and_true, true_and, Bool.and_true, Bool.true_and, Bool.or_true, Bool.true_or, *])
end DL
set_option maxRecDepth 100000
set_option maxHeartbeats 400000
namespace DL
open PySem L2
variable [HW]
section
variable {ρ ρ1 ρ2 : DL.Env} {h h1 h2 : Hh}
theorem xN : fNil ρ h = some ([], h) := rfl
theorem xC {E : EM} {g : AM} {w : W} {ws : List W} (he : E ρ h = some (w, h1)) (hg : g ρ h1 = some (ws, h2)) : fCons E g ρ h = some (w :: ws, h2) := by simp only [fCons, obnd, he, hg]
theorem xA {m : FM} {g : AM} {ws : List W} {r : Option (W × Hh)} (hg : g ρ h = some (ws, h1)) (hm : m ws h1 = r) : fA m g ρ h = r := by simp only [fA, obnd, hg, hm]
theorem x2 {f : W → W → Hh → Option (W × Hh)} {A B : EM} {x y : W} {r : Option (W × Hh)} (ha : A ρ h = some (x, h1)) (hb : B ρ h1 = some (y, h2)) (hf : f x y h2 = r) : f2 f A B ρ h = r := by simp only [f2, obnd, ha, hb, hf]
theorem xL {IT : IM} {k : TM} {f : EM} {vs : List Nat} {ds rs : List D} (hi : IT ρ h = some (ds, h1)) (e : lcL k bYes f (wipeE ρ vs) ds h1 = some (rs, h2)) (hl : rs.length ≤ sizeLine) : fLc false IT k bYes f vs ρ h = some (.dat (.list rs), h2) := by
  unfold fLc
  simp only [hi, obnd, e]
  rw [if_pos hl]
  rfl
theorem xS {E : EM} {x : D} {ds : List D} (he : E ρ h = some (.dat x, h1)) (hx : IsSeq x ds) : seqI E ρ h = some (ds, h1) := by
  unfold seqI
  simp only [he, obnd]
  rcases hx with rfl | rfl <;> rfl
theorem xList {x : D} {ds : List D} (hx : IsSeq x ds) : listW false [.dat x] h = some (.dat (.list ds), h) := by rcases hx with rfl | rfl <;> rfl
theorem xLst {ws : List W} {ds : List D} (e : dats ws = some ds) (hl : ds.length ≤ sizeLine) : lstW false ws h = some (.dat (.list ds), h) := by
  unfold lstW
  simp only [e, hl, if_true]
  rfl
theorem xTp {ws : List W} {ds : List D} (e : dats ws = some ds) (hl : ds.length ≤ sizeLine) : tupW ws h = some (.dat (.tuple ds), h) := by
  unfold tupW
  simp only [e, hl, if_true]
  rfl
theorem xK {n : Nat} {is : List Nat} {m : FM} {ws l : List W} {r : Option (W × Hh)} (hn : ws.length = n) (hp : permL is ws = some l) (hm : m l h = r) : kwM n is m ws h = r := by
  unfold kwM permM
  rw [if_pos hn, hp]
  exact hm
theorem zA {E : EM} {k : TM} {rest : SM} {w : W} (he : E ρ h = some (w, h1)) (hk : k w ρ h1 = some ρ1) : sSeq (sAsg E k) rest ρ h = rest ρ1 h1 := by
  unfold sSeq sAsg
  simp only [he, sbnd, hk]
theorem zI {t : BM} {a rest : SM} (ht : t ρ h = some (false, h1)) : sSeq (sIf t a sSkip) rest ρ h = rest ρ h1 := by
  unfold sSeq sIf
  simp only [ht, sbnd, Bool.false_eq_true, if_false, sSkip]
theorem zF {IT : IM} {k : TM} {body rest : SM} {ds : List D} (hi : IT ρ h = some (ds, h1)) (e : forL k body ds ρ h1 = some (.nx ρ2, h2)) : sSeq (sFor IT k body) rest ρ h = rest ρ2 h2 := by
  unfold sSeq sFor
  simp only [hi, sbnd, e]
theorem zP {g : AM} {is : List Nat} {rest : SM} {ws : List W} (hg : g ρ h = some (ws, h1)) (hl : ws.length = is.length) (hr : (is.zip ws).foldl (fun ρ p => ρ.set p.1 (some p.2)) ρ = ρ1) : sSeq (sPar g is) rest ρ h = rest ρ1 h1 := by
  unfold sSeq sPar
  simp only [hg, sbnd, hl, if_true, hr]
theorem zR {E : EM} {w : W} (he : E ρ h = some (w, h1)) : sRet E ρ h = some (.rt w, h1) := by
  unfold sRet
  simp only [he, sbnd]
theorem zZ {i : Nat} {f : SM} (e : frz i ρ h = some (ρ1, h1)) : sFrz i f ρ h = f ρ1 h1 := by
  unfold sFrz
  rw [e]
end
end DL
set_option maxRecDepth 100000
set_option maxHeartbeats 400000
namespace DL
open PySem L2
variable [HW]
local macro_rules | `(tactic| walk_at "dl") => `(tactic| simp (config := { dsimp := false }) only [↓fnM_e, ↓sSeq_e, seqK_nx, seqK_rt, seqK_bk, seqK_ct, retK_rt, retK_nx, ↓sFrz_e, frK_some, ↓sAsg, ↓sRet, ↓sRetN, ↓sIf, ↓sExpr, ↓sSkip, ↓sNever, ↓sPar, ↓sFor, ↓sSub, ↓fVar, ↓fC, ↓fNil, ↓fCons, ↓fA, ↓f1, ↓f2, ↓fB, ↓fIf, ↓fNeg, ↓fNot, ↓fAnd, ↓fOr, ↓bNot, ↓bAnd, ↓bOr, ↓bYes, ↓obnd_x, ob_some, ↓sbnd_x, sb_some, ↓ite_x, iteK_t, iteK_f, gN, gT, gC, gE, ↓rng1I, ↓rng2I, ↓seqI, ↓enumA, ↓zipI, ↓strI, ↓fLc, ↓fDc, ↓fM, ↓fSl, ↓oNone, ↓oSome, ↓fRev, wipeE, ↓kwM, permM, permL, List.foldr, List.length_cons, List.length_nil, List.map_cons, List.map_nil, List.cons_append, List.nil_append, List.replicate, List.replicate_succ, List.replicate_zero, List.getElem?_cons_zero, List.getElem?_cons_succ, List.set_cons_zero, List.set_cons_succ, if_true, if_false, reduceIte, Nat.reduceAdd, Nat.reduceSub, Nat.reduceEqDiff, Nat.reduceLT, Nat.reduceLeDiff, Int.reduceLT, Int.reduceLE, Int.reduceNeg, Int.reduceMul, Int.reduceAdd, Int.reduceSub, Int.reduceToNat, Int.reducePow, Int.reduceEq, ok, bok, deref, mkL, lstW, tupW, dats, Option.map_some, appendW, insertW, setL, isL, listW, tupleW, lenW, absW, intC, maxW, minW, idxW, addW, subW_e, modW_e, divW_e, powW_e, mulW, intW, lt_e, gt_e, le_e, ge_e, ltW, allW_e, anyW_e, sumW_e, lW, setW, lstAt, cutW, backW, isW, isiW, iLT_none, iLT_bool, iLT_int, iLT_str, iLT_list, iLT_tup, iL_none, iL_bool, iL_int, iL_str, iL_list, iL_tup, iT_none, iT_bool, iT_int, iT_str, iT_list, iT_tup, iS_none, iS_bool, iS_int, iS_str, iS_list, iS_tup, iI_none, iI_bool, iI_int, iI_str, iI_list, iI_tup, iB_none, iB_bool, iB_int, iB_str, iB_list, iB_tup, Bool.false_eq_true, reduceCtorEq, Bool.not_true, Bool.not_false, decide_true, decide_false, List.zip_cons_cons, List.zip_nil_left, List.foldl_cons, List.foldl_nil, and_self, and_true, true_and, Bool.and_true, Bool.true_and, Bool.or_true, Bool.true_or, *])
end DL
set_option maxRecDepth 100000
set_option maxHeartbeats 400000
namespace DL
open PySem L2
variable [HW]
local macro_rules | `(tactic| walk_at "dl") => `(tactic| simp (config := { dsimp := false }) only [↓fnM_e, ↓sSeq_e, seqK_nx, seqK_rt, seqK_bk, seqK_ct, retK_rt, retK_nx, ↓sFrz_e, frK_some, ↓sAsg, ↓sRet, ↓sRetN, ↓sIf, ↓sExpr, ↓sSkip, ↓sNever, ↓sPar, ↓sFor, ↓sSub, ↓fVar, ↓fC, ↓fNil, ↓fCons, ↓fA, ↓f1, ↓f2, ↓fB, ↓fIf, ↓fNeg, ↓fNot, ↓fAnd, ↓fOr, ↓bNot, ↓bAnd, ↓bOr, ↓bYes, ↓obnd_x, ob_some, ↓sbnd_x, sb_some, ↓ite_x, iteK_t, iteK_f, gN, gT, gC, gE, ↓rng1I, ↓rng2I, ↓seqI, ↓enumA, ↓zipI, ↓strI, ↓fLc, ↓fDc, ↓fM, ↓fSl, ↓oNone, ↓oSome, ↓fRev, wipeE, ↓kwM, permM, permL, List.foldr, List.length_cons, List.length_nil, List.map_cons, List.map_nil, List.cons_append, List.nil_append, List.replicate, List.replicate_succ, List.replicate_zero, List.getElem?_cons_zero, List.getElem?_cons_succ, List.set_cons_zero, List.set_cons_succ, if_true, if_false, reduceIte, Nat.reduceAdd, Nat.reduceSub, Nat.reduceEqDiff, Nat.reduceLT, Nat.reduceLeDiff, Int.reduceLT, Int.reduceLE, Int.reduceNeg, Int.reduceMul, Int.reduceAdd, Int.reduceSub, Int.reduceToNat, Int.reducePow, Int.reduceEq, ok, bok, deref, mkL, lstW, tupW, dats, Option.map_some, appendW, insertW, setL, isL, listW, tupleW, lenW, absW, intC, maxW, minW, idxW, addW, subW_e, modW_e, divW_e, powW_e, mulW, intW, lt_e, gt_e, le_e, ge_e, ltW, allW_e, anyW_e, sumW_e, lW, setW, lstAt, cutW, backW, isW, isiW, iLT_none, iLT_bool, iLT_int, iLT_str, iLT_list, iLT_tup, iL_none, iL_bool, iL_int, iL_str, iL_list, iL_tup, iT_none, iT_bool, iT_int, iT_str, iT_list, iT_tup, iS_none, iS_bool, iS_int, iS_str, iS_list, iS_tup, iI_none, iI_bool, iI_int, iI_str, iI_list, iI_tup, iB_none, iB_bool, iB_int, iB_str, iB_list, iB_tup, Bool.false_eq_true, reduceCtorEq, Bool.not_true, Bool.not_false, decide_true, decide_false, List.zip_cons_cons, List.zip_nil_left, List.foldl_cons, List.foldl_nil, and_self, and_true, true_and, Bool.and_true, Bool.true_and, Bool.or_true, Bool.true_or, *])
local macro_rules | `(tactic| walk_at "tg") => `(tactic| simp (config := { dsimp := false }) only [divBW_e, ↓fFld_e, ↓fMeth_e, ↓fMk_e, fld_n, fld_p, met_leads, met_then, met_times, met_made, met_tells, met_names, ↓fnM_e, ↓sSeq_e, seqK_nx, seqK_rt, seqK_bk, seqK_ct, retK_rt, retK_nx, ↓sFrz_e, frK_some, ↓sAsg, ↓sRet, ↓sRetN, ↓sIf, ↓sExpr, ↓sSkip, ↓sNever, ↓sPar, ↓sFor, ↓sSub, ↓fVar, ↓fC, ↓fNil, ↓fCons, ↓fA, ↓f1, ↓f2, ↓fB, ↓fIf, ↓fNeg, ↓fNot, ↓fAnd, ↓fOr, ↓bNot, ↓bAnd, ↓bOr, ↓bYes, ↓obnd_x, ob_some, ↓sbnd_x, sb_some, ↓ite_x, iteK_t, iteK_f, gN, gT, gC, gE, ↓rng1I, ↓rng2I, ↓seqI, ↓enumA, ↓zipI, ↓strI, ↓fLc, ↓fDc, ↓fM, ↓fSl, ↓oNone, ↓oSome, ↓fRev, wipeE, ↓kwM, permM, permL, List.foldr, List.length_cons, List.length_nil, List.map_cons, List.map_nil, List.cons_append, List.nil_append, List.replicate, List.replicate_succ, List.replicate_zero, List.getElem?_cons_zero, List.getElem?_cons_succ, List.set_cons_zero, List.set_cons_succ, if_true, if_false, reduceIte, Nat.reduceAdd, Nat.reduceSub, Nat.reduceEqDiff, Nat.reduceLT, Nat.reduceLeDiff, Int.reduceLT, Int.reduceLE, Int.reduceNeg, Int.reduceMul, Int.reduceAdd, Int.reduceSub, Int.reduceToNat, Int.reducePow, Int.reduceEq, ok, bok, deref, mkL, lstW, tupW, dats, Option.map_some, appendW, insertW, setL, isL, listW, tupleW, lenW, absW, intC, maxW, minW, idxW, addW, subW_e, modW_e, divW_e, powW_e, mulW, intW, lt_e, gt_e, le_e, ge_e, ltW, allW_e, anyW_e, sumW_e, lW, setW, lstAt, cutW, backW, isW, isiW, iLT_none, iLT_bool, iLT_int, iLT_str, iLT_list, iLT_tup, iL_none, iL_bool, iL_int, iL_str, iL_list, iL_tup, iT_none, iT_bool, iT_int, iT_str, iT_list, iT_tup, iS_none, iS_bool, iS_int, iS_str, iS_list, iS_tup, iI_none, iI_bool, iI_int, iI_str, iI_list, iI_tup, iB_none, iB_bool, iB_int, iB_str, iB_list, iB_tup, Bool.false_eq_true, reduceCtorEq, Bool.not_true, Bool.not_false, decide_true, decide_false, List.zip_cons_cons, List.zip_nil_left, List.foldl_cons, List.foldl_nil, and_self, and_true, true_and, Bool.and_true, Bool.true_and, Bool.or_true, Bool.true_or, *])
end DL
set_option maxRecDepth 100000
set_option maxHeartbeats 400000
namespace DL
open PySem L2
variable [HW]
local macro_rules | `(tactic| walk_at "dl") => `(tactic| simp (config := { dsimp := false }) only [↓fnM_e, ↓sSeq_e, seqK_nx, seqK_rt, seqK_bk, seqK_ct, retK_rt, retK_nx, ↓sFrz_e, frK_some, ↓sAsg, ↓sRet, ↓sRetN, ↓sIf, ↓sExpr, ↓sSkip, ↓sNever, ↓sPar, ↓sFor, ↓sSub, ↓fVar, ↓fC, ↓fNil, ↓fCons, ↓fA, ↓f1, ↓f2, ↓fB, ↓fIf, ↓fNeg, ↓fNot, ↓fAnd, ↓fOr, ↓bNot, ↓bAnd, ↓bOr, ↓bYes, ↓obnd_x, ob_some, ↓sbnd_x, sb_some, ↓ite_x, iteK_t, iteK_f, gN, gT, gC, gE, ↓rng1I, ↓rng2I, ↓seqI, ↓enumA, ↓zipI, ↓strI, ↓fLc, ↓fDc, ↓fM, ↓fSl, ↓oNone, ↓oSome, ↓fRev, wipeE, ↓kwM, permM, permL, List.foldr, List.length_cons, List.length_nil, List.map_cons, List.map_nil, List.cons_append, List.nil_append, List.replicate, List.replicate_succ, List.replicate_zero, List.getElem?_cons_zero, List.getElem?_cons_succ, List.set_cons_zero, List.set_cons_succ, if_true, if_false, reduceIte, Nat.reduceAdd, Nat.reduceSub, Nat.reduceEqDiff, Nat.reduceLT, Nat.reduceLeDiff, Int.reduceLT, Int.reduceLE, Int.reduceNeg, Int.reduceMul, Int.reduceAdd, Int.reduceSub, Int.reduceToNat, Int.reducePow, Int.reduceEq, ok, bok, deref, mkL, lstW, tupW, dats, Option.map_some, appendW, insertW, setL, isL, listW, tupleW, lenW, absW, intC, maxW, minW, idxW, addW, subW_e, modW_e, divW_e, powW_e, mulW, intW, lt_e, gt_e, le_e, ge_e, ltW, allW_e, anyW_e, sumW_e, lW, setW, lstAt, cutW, backW, isW, isiW, iLT_none, iLT_bool, iLT_int, iLT_str, iLT_list, iLT_tup, iL_none, iL_bool, iL_int, iL_str, iL_list, iL_tup, iT_none, iT_bool, iT_int, iT_str, iT_list, iT_tup, iS_none, iS_bool, iS_int, iS_str, iS_list, iS_tup, iI_none, iI_bool, iI_int, iI_str, iI_list, iI_tup, iB_none, iB_bool, iB_int, iB_str, iB_list, iB_tup, Bool.false_eq_true, reduceCtorEq, Bool.not_true, Bool.not_false, decide_true, decide_false, List.zip_cons_cons, List.zip_nil_left, List.foldl_cons, List.foldl_nil, and_self, and_true, true_and, Bool.and_true, Bool.true_and, Bool.or_true, Bool.true_or, *])
end DL
set_option maxRecDepth 100000
set_option maxHeartbeats 400000
namespace DL
open PySem L2
variable [HW]
local macro_rules | `(tactic| walk_at "dl") => `(tactic| simp (config := { dsimp := false }) only [↓fnM_e, ↓sSeq_e, seqK_nx, seqK_rt, seqK_bk, seqK_ct, retK_rt, retK_nx, ↓sFrz_e, frK_some, ↓sAsg, ↓sRet, ↓sRetN, ↓sIf, ↓sExpr, ↓sSkip, ↓sNever, ↓sPar, ↓sFor, ↓sSub, ↓fVar, ↓fC, ↓fNil, ↓fCons, ↓fA, ↓f1, ↓f2, ↓fB, ↓fIf, ↓fNeg, ↓fNot, ↓fAnd, ↓fOr, ↓bNot, ↓bAnd, ↓bOr, ↓bYes, ↓obnd_x, ob_some, ↓sbnd_x, sb_some, ↓ite_x, iteK_t, iteK_f, gN, gT, gC, gE, ↓rng1I, ↓rng2I, ↓seqI, ↓enumA, ↓zipI, ↓strI, ↓fLc, ↓fDc, ↓fM, ↓fSl, ↓oNone, ↓oSome, ↓fRev, wipeE, ↓kwM, permM, permL, List.foldr, List.length_cons, List.length_nil, List.map_cons, List.map_nil, List.cons_append, List.nil_append, List.replicate, List.replicate_succ, List.replicate_zero, List.getElem?_cons_zero, List.getElem?_cons_succ, List.set_cons_zero, List.set_cons_succ, if_true, if_false, reduceIte, Nat.reduceAdd, Nat.reduceSub, Nat.reduceEqDiff, Nat.reduceLT, Nat.reduceLeDiff, Int.reduceLT, Int.reduceLE, Int.reduceNeg, Int.reduceMul, Int.reduceAdd, Int.reduceSub, Int.reduceToNat, Int.reducePow, Int.reduceEq, ok, bok, deref, mkL, lstW, tupW, dats, Option.map_some, appendW, insertW, setL, isL, listW, tupleW, lenW, absW, intC, maxW, minW, idxW, addW, subW_e, modW_e, divW_e, powW_e, mulW, intW, lt_e, gt_e, le_e, ge_e, ltW, allW_e, anyW_e, sumW_e, lW, setW, lstAt, cutW, backW, isW, isiW, iLT_none, iLT_bool, iLT_int, iLT_str, iLT_list, iLT_tup, iL_none, iL_bool, iL_int, iL_str, iL_list, iL_tup, iT_none, iT_bool, iT_int, iT_str, iT_list, iT_tup, iS_none, iS_bool, iS_int, iS_str, iS_list, iS_tup, iI_none, iI_bool, iI_int, iI_str, iI_list, iI_tup, iB_none, iB_bool, iB_int, iB_str, iB_list, iB_tup, Bool.false_eq_true, reduceCtorEq, Bool.not_true, Bool.not_false, decide_true, decide_false, List.zip_cons_cons, List.zip_nil_left, List.foldl_cons, List.foldl_nil, and_self, and_true, true_and, Bool.and_true, Bool.true_and, Bool.or_true, Bool.true_or, *])
def EvP (t : Nat → Bool) (a k : Nat) : Prop := ∀ n, a ≤ n → t (n + k) = t n
theorem EvP.mono {t : Nat → Bool} {a b k : Nat} (h : EvP t a k) (q : a ≤ b) : EvP t b k := fun n hn => h n (by omega)
end DL
set_option maxRecDepth 100000
set_option maxHeartbeats 400000
namespace DL
open PySem L2
variable [HW]
local macro_rules | `(tactic| walk_at "dl") => `(tactic| simp (config := { dsimp := false }) only [↓fnM_e, ↓sSeq_e, seqK_nx, seqK_rt, seqK_bk, seqK_ct, retK_rt, retK_nx, ↓sFrz_e, frK_some, ↓sAsg, ↓sRet, ↓sRetN, ↓sIf, ↓sExpr, ↓sSkip, ↓sNever, ↓sPar, ↓sFor, ↓sSub, ↓fVar, ↓fC, ↓fNil, ↓fCons, ↓fA, ↓f1, ↓f2, ↓fB, ↓fIf, ↓fNeg, ↓fNot, ↓fAnd, ↓fOr, ↓bNot, ↓bAnd, ↓bOr, ↓bYes, ↓obnd_x, ob_some, ↓sbnd_x, sb_some, ↓ite_x, iteK_t, iteK_f, gN, gT, gC, gE, ↓rng1I, ↓rng2I, ↓seqI, ↓enumA, ↓zipI, ↓strI, ↓fLc, ↓fDc, ↓fM, ↓fSl, ↓oNone, ↓oSome, ↓fRev, wipeE, ↓kwM, permM, permL, List.foldr, List.length_cons, List.length_nil, List.map_cons, List.map_nil, List.cons_append, List.nil_append, List.replicate, List.replicate_succ, List.replicate_zero, List.getElem?_cons_zero, List.getElem?_cons_succ, List.set_cons_zero, List.set_cons_succ, if_true, if_false, reduceIte, Nat.reduceAdd, Nat.reduceSub, Nat.reduceEqDiff, Nat.reduceLT, Nat.reduceLeDiff, Int.reduceLT, Int.reduceLE, Int.reduceNeg, Int.reduceMul, Int.reduceAdd, Int.reduceSub, Int.reduceToNat, Int.reducePow, Int.reduceEq, ok, bok, deref, mkL, lstW, tupW, dats, Option.map_some, appendW, insertW, setL, isL, listW, tupleW, lenW, absW, intC, maxW, minW, idxW, addW, subW_e, modW_e, divW_e, powW_e, mulW, intW, lt_e, gt_e, le_e, ge_e, ltW, allW_e, anyW_e, sumW_e, lW, setW, lstAt, cutW, backW, isW, isiW, iLT_none, iLT_bool, iLT_int, iLT_str, iLT_list, iLT_tup, iL_none, iL_bool, iL_int, iL_str, iL_list, iL_tup, iT_none, iT_bool, iT_int, iT_str, iT_list, iT_tup, iS_none, iS_bool, iS_int, iS_str, iS_list, iS_tup, iI_none, iI_bool, iI_int, iI_str, iI_list, iI_tup, iB_none, iB_bool, iB_int, iB_str, iB_list, iB_tup, Bool.false_eq_true, reduceCtorEq, Bool.not_true, Bool.not_false, decide_true, decide_false, List.zip_cons_cons, List.zip_nil_left, List.foldl_cons, List.foldl_nil, and_self, and_true, true_and, Bool.and_true, Bool.true_and, Bool.or_true, Bool.true_or, *])
end DL
set_option maxRecDepth 100000
set_option maxHeartbeats 400000
namespace DL
open PySem L2
variable [HW]
local macro_rules | `(tactic| walk_at "dl") => `(tactic| simp (config := { dsimp := false }) only [↓fnM_e, ↓sSeq_e, seqK_nx, seqK_rt, seqK_bk, seqK_ct, retK_rt, retK_nx, ↓sFrz_e, frK_some, ↓sAsg, ↓sRet, ↓sRetN, ↓sIf, ↓sExpr, ↓sSkip, ↓sNever, ↓sPar, ↓sFor, ↓sSub, ↓fVar, ↓fC, ↓fNil, ↓fCons, ↓fA, ↓f1, ↓f2, ↓fB, ↓fIf, ↓fNeg, ↓fNot, ↓fAnd, ↓fOr, ↓bNot, ↓bAnd, ↓bOr, ↓bYes, ↓obnd_x, ob_some, ↓sbnd_x, sb_some, ↓ite_x, iteK_t, iteK_f, gN, gT, gC, gE, ↓rng1I, ↓rng2I, ↓seqI, ↓enumA, ↓zipI, ↓strI, ↓fLc, ↓fDc, ↓fM, ↓fSl, ↓oNone, ↓oSome, ↓fRev, wipeE, ↓kwM, permM, permL, List.foldr, List.length_cons, List.length_nil, List.map_cons, List.map_nil, List.cons_append, List.nil_append, List.replicate, List.replicate_succ, List.replicate_zero, List.getElem?_cons_zero, List.getElem?_cons_succ, List.set_cons_zero, List.set_cons_succ, if_true, if_false, reduceIte, Nat.reduceAdd, Nat.reduceSub, Nat.reduceEqDiff, Nat.reduceLT, Nat.reduceLeDiff, Int.reduceLT, Int.reduceLE, Int.reduceNeg, Int.reduceMul, Int.reduceAdd, Int.reduceSub, Int.reduceToNat, Int.reducePow, Int.reduceEq, ok, bok, deref, mkL, lstW, tupW, dats, Option.map_some, appendW, insertW, setL, isL, listW, tupleW, lenW, absW, intC, maxW, minW, idxW, addW, subW_e, modW_e, divW_e, powW_e, mulW, intW, lt_e, gt_e, le_e, ge_e, ltW, allW_e, anyW_e, sumW_e, lW, setW, lstAt, cutW, backW, isW, isiW, iLT_none, iLT_bool, iLT_int, iLT_str, iLT_list, iLT_tup, iL_none, iL_bool, iL_int, iL_str, iL_list, iL_tup, iT_none, iT_bool, iT_int, iT_str, iT_list, iT_tup, iS_none, iS_bool, iS_int, iS_str, iS_list, iS_tup, iI_none, iI_bool, iI_int, iI_str, iI_list, iI_tup, iB_none, iB_bool, iB_int, iB_str, iB_list, iB_tup, Bool.false_eq_true, reduceCtorEq, Bool.not_true, Bool.not_false, decide_true, decide_false, List.zip_cons_cons, List.zip_nil_left, List.foldl_cons, List.foldl_nil, and_self, and_true, true_and, Bool.and_true, Bool.true_and, Bool.or_true, Bool.true_or, *])
end DL
set_option maxRecDepth 100000
set_option maxHeartbeats 400000
namespace DL
open PySem L2
variable [HW]
local macro_rules | `(tactic| walk_at "dl") => `(tactic| simp (config := { dsimp := false }) only [↓fnM_e, ↓sSeq_e, seqK_nx, seqK_rt, seqK_bk, seqK_ct, retK_rt, retK_nx, ↓sFrz_e, frK_some, ↓sAsg, ↓sRet, ↓sRetN, ↓sIf, ↓sExpr, ↓sSkip, ↓sNever, ↓sPar, ↓sFor, ↓sSub, ↓fVar, ↓fC, ↓fNil, ↓fCons, ↓fA, ↓f1, ↓f2, ↓fB, ↓fIf, ↓fNeg, ↓fNot, ↓fAnd, ↓fOr, ↓bNot, ↓bAnd, ↓bOr, ↓bYes, ↓obnd_x, ob_some, ↓sbnd_x, sb_some, ↓ite_x, iteK_t, iteK_f, gN, gT, gC, gE, ↓rng1I, ↓rng2I, ↓seqI, ↓enumA, ↓zipI, ↓strI, ↓fLc, ↓fDc, ↓fM, ↓fSl, ↓oNone, ↓oSome, ↓fRev, wipeE, ↓kwM, permM, permL, List.foldr, List.length_cons, List.length_nil, List.map_cons, List.map_nil, List.cons_append, List.nil_append, List.replicate, List.replicate_succ, List.replicate_zero, List.getElem?_cons_zero, List.getElem?_cons_succ, List.set_cons_zero, List.set_cons_succ, if_true, if_false, reduceIte, Nat.reduceAdd, Nat.reduceSub, Nat.reduceEqDiff, Nat.reduceLT, Nat.reduceLeDiff, Int.reduceLT, Int.reduceLE, Int.reduceNeg, Int.reduceMul, Int.reduceAdd, Int.reduceSub, Int.reduceToNat, Int.reducePow, Int.reduceEq, ok, bok, deref, mkL, lstW, tupW, dats, Option.map_some, appendW, insertW, setL, isL, listW, tupleW, lenW, absW, intC, maxW, minW, idxW, addW, subW_e, modW_e, divW_e, powW_e, mulW, intW, lt_e, gt_e, le_e, ge_e, ltW, allW_e, anyW_e, sumW_e, lW, setW, lstAt, cutW, backW, isW, isiW, iLT_none, iLT_bool, iLT_int, iLT_str, iLT_list, iLT_tup, iL_none, iL_bool, iL_int, iL_str, iL_list, iL_tup, iT_none, iT_bool, iT_int, iT_str, iT_list, iT_tup, iS_none, iS_bool, iS_int, iS_str, iS_list, iS_tup, iI_none, iI_bool, iI_int, iI_str, iI_list, iI_tup, iB_none, iB_bool, iB_int, iB_str, iB_list, iB_tup, Bool.false_eq_true, reduceCtorEq, Bool.not_true, Bool.not_false, decide_true, decide_false, List.zip_cons_cons, List.zip_nil_left, List.foldl_cons, List.foldl_nil, and_self, and_true, true_and, Bool.and_true, Bool.true_and, Bool.or_true, Bool.true_or, *])
def tl (t : Nat → Bool) (a n : Nat) : List Bool := (List.range n).map fun s => t (a + s)
end DL
set_option maxRecDepth 100000
set_option maxHeartbeats 400000
namespace DL
open PySem L2
variable [HW]
def trB (r : List Str) (f : Str × Str → Str × Str) (p : Str × Str) (n : Nat) : Bool := decide (r.idxOf (itn f n p).1 < r.idxOf (itn f n p).2)
end DL
set_option maxRecDepth 100000
set_option maxHeartbeats 400000
namespace DL
open PySem L2
variable [HW]
local macro_rules | `(tactic| walk_at "dl") => `(tactic| simp (config := { dsimp := false }) only [↓fnM_e, ↓sSeq_e, seqK_nx, seqK_rt, seqK_bk, seqK_ct, retK_rt, retK_nx, ↓sFrz_e, frK_some, ↓sAsg, ↓sRet, ↓sRetN, ↓sIf, ↓sExpr, ↓sSkip, ↓sNever, ↓sPar, ↓sFor, ↓sSub, ↓fVar, ↓fC, ↓fNil, ↓fCons, ↓fA, ↓f1, ↓f2, ↓fB, ↓fIf, ↓fNeg, ↓fNot, ↓fAnd, ↓fOr, ↓bNot, ↓bAnd, ↓bOr, ↓bYes, ↓obnd_x, ob_some, ↓sbnd_x, sb_some, ↓ite_x, iteK_t, iteK_f, gN, gT, gC, gE, ↓rng1I, ↓rng2I, ↓seqI, ↓enumA, ↓zipI, ↓strI, ↓fLc, ↓fDc, ↓fM, ↓fSl, ↓oNone, ↓oSome, ↓fRev, wipeE, ↓kwM, permM, permL, List.foldr, List.length_cons, List.length_nil, List.map_cons, List.map_nil, List.cons_append, List.nil_append, List.replicate, List.replicate_succ, List.replicate_zero, List.getElem?_cons_zero, List.getElem?_cons_succ, List.set_cons_zero, List.set_cons_succ, if_true, if_false, reduceIte, Nat.reduceAdd, Nat.reduceSub, Nat.reduceEqDiff, Nat.reduceLT, Nat.reduceLeDiff, Int.reduceLT, Int.reduceLE, Int.reduceNeg, Int.reduceMul, Int.reduceAdd, Int.reduceSub, Int.reduceToNat, Int.reducePow, Int.reduceEq, ok, bok, deref, mkL, lstW, tupW, dats, Option.map_some, appendW, insertW, setL, isL, listW, tupleW, lenW, absW, intC, maxW, minW, idxW, addW, subW_e, modW_e, divW_e, powW_e, mulW, intW, lt_e, gt_e, le_e, ge_e, ltW, allW_e, anyW_e, sumW_e, lW, setW, lstAt, cutW, backW, isW, isiW, iLT_none, iLT_bool, iLT_int, iLT_str, iLT_list, iLT_tup, iL_none, iL_bool, iL_int, iL_str, iL_list, iL_tup, iT_none, iT_bool, iT_int, iT_str, iT_list, iT_tup, iS_none, iS_bool, iS_int, iS_str, iS_list, iS_tup, iI_none, iI_bool, iI_int, iI_str, iI_list, iI_tup, iB_none, iB_bool, iB_int, iB_str, iB_list, iB_tup, Bool.false_eq_true, reduceCtorEq, Bool.not_true, Bool.not_false, decide_true, decide_false, List.zip_cons_cons, List.zip_nil_left, List.foldl_cons, List.foldl_nil, and_self, and_true, true_and, Bool.and_true, Bool.true_and, Bool.or_true, Bool.true_or, *])
local macro_rules | `(tactic| walk_at "tb") => `(tactic| simp (config := { dsimp := false }) only [↓fFld_e, ↓fMeth_e, ↓fMk_e, fld_n, fld_p, met_leads, met_then, met_times, met_made, met_tells, met_names, ↓fnM_e, ↓sSeq_e, seqK_nx, seqK_rt, seqK_bk, seqK_ct, retK_rt, retK_nx, ↓sFrz_e, frK_some, ↓sAsg, ↓sRet, ↓sRetN, ↓sIf, ↓sExpr, ↓sSkip, ↓sNever, ↓sPar, ↓sFor, ↓sSub, ↓fVar, ↓fC, ↓fNil, ↓fCons, ↓fA, ↓f1, ↓f2, ↓fB, ↓fIf, ↓fNeg, ↓fNot, ↓fAnd, ↓fOr, ↓bNot, ↓bAnd, ↓bOr, ↓bYes, ↓obnd_x, ob_some, ↓sbnd_x, sb_some, ↓ite_x, iteK_t, iteK_f, gN, gT, gC, gE, ↓rng1I, ↓rng2I, ↓seqI, ↓enumA, ↓zipI, ↓strI, ↓fLc, ↓fDc, ↓fM, ↓fSl, ↓oNone, ↓oSome, ↓fRev, wipeE, ↓kwM, permM, permL, List.foldr, List.length_cons, List.length_nil, List.map_cons, List.map_nil, List.cons_append, List.nil_append, List.replicate, List.replicate_succ, List.replicate_zero, List.getElem?_cons_zero, List.getElem?_cons_succ, List.set_cons_zero, List.set_cons_succ, if_true, if_false, reduceIte, Nat.reduceAdd, Nat.reduceSub, Nat.reduceEqDiff, Nat.reduceLT, Nat.reduceLeDiff, Int.reduceLT, Int.reduceLE, Int.reduceNeg, Int.reduceMul, Int.reduceAdd, Int.reduceSub, Int.reduceToNat, Int.reducePow, Int.reduceEq, ok, bok, deref, mkL, lstW, tupW, dats, Option.map_some, appendW, insertW, setL, isL, listW, tupleW, lenW, absW, intC, maxW, minW, idxW, addW, subW_e, modW_e, divW_e, powW_e, mulW, intW, lt_e, gt_e, le_e, ge_e, ltW, allW_e, anyW_e, sumW_e, lW, setW, lstAt, cutW, backW, isW, isiW, iLT_none, iLT_bool, iLT_int, iLT_str, iLT_list, iLT_tup, iL_none, iL_bool, iL_int, iL_str, iL_list, iL_tup, iT_none, iT_bool, iT_int, iT_str, iT_list, iT_tup, iS_none, iS_bool, iS_int, iS_str, iS_list, iS_tup, iI_none, iI_bool, iI_int, iI_str, iI_list, iI_tup, iB_none, iB_bool, iB_int, iB_str, iB_list, iB_tup, Bool.false_eq_true, reduceCtorEq, Bool.not_true, Bool.not_false, decide_true, decide_false, List.zip_cons_cons, List.zip_nil_left, List.foldl_cons, List.foldl_nil, and_self, and_true, true_and, Bool.and_true, Bool.true_and, Bool.or_true, Bool.true_or, *])
end DL
set_option maxRecDepth 100000
set_option maxHeartbeats 400000
namespace DL
open PySem L2
variable [HW]
local macro_rules | `(tactic| walk_at "tb") => `(tactic| simp (config := { dsimp := false }) only [↓fFld_e, ↓fMeth_e, ↓fMk_e, fld_n, fld_p, met_leads, met_then, met_times, met_made, met_tells, met_names, ↓fnM_e, ↓sSeq_e, seqK_nx, seqK_rt, seqK_bk, seqK_ct, retK_rt, retK_nx, ↓sFrz_e, frK_some, ↓sAsg, ↓sRet, ↓sRetN, ↓sIf, ↓sExpr, ↓sSkip, ↓sNever, ↓sPar, ↓sFor, ↓sSub, ↓fVar, ↓fC, ↓fNil, ↓fCons, ↓fA, ↓f1, ↓f2, ↓fB, ↓fIf, ↓fNeg, ↓fNot, ↓fAnd, ↓fOr, ↓bNot, ↓bAnd, ↓bOr, ↓bYes, ↓obnd_x, ob_some, ↓sbnd_x, sb_some, ↓ite_x, iteK_t, iteK_f, gN, gT, gC, gE, ↓rng1I, ↓rng2I, ↓seqI, ↓enumA, ↓zipI, ↓strI, ↓fLc, ↓fDc, ↓fM, ↓fSl, ↓oNone, ↓oSome, ↓fRev, wipeE, ↓kwM, permM, permL, List.foldr, List.length_cons, List.length_nil, List.map_cons, List.map_nil, List.cons_append, List.nil_append, List.replicate, List.replicate_succ, List.replicate_zero, List.getElem?_cons_zero, List.getElem?_cons_succ, List.set_cons_zero, List.set_cons_succ, if_true, if_false, reduceIte, Nat.reduceAdd, Nat.reduceSub, Nat.reduceEqDiff, Nat.reduceLT, Nat.reduceLeDiff, Int.reduceLT, Int.reduceLE, Int.reduceNeg, Int.reduceMul, Int.reduceAdd, Int.reduceSub, Int.reduceToNat, Int.reducePow, Int.reduceEq, ok, bok, deref, mkL, lstW, tupW, dats, Option.map_some, appendW, insertW, setL, isL, listW, tupleW, lenW, absW, intC, maxW, minW, idxW, addW, subW_e, modW_e, divW_e, powW_e, mulW, intW, lt_e, gt_e, le_e, ge_e, ltW, allW_e, anyW_e, sumW_e, lW, setW, lstAt, cutW, backW, isW, isiW, iLT_none, iLT_bool, iLT_int, iLT_str, iLT_list, iLT_tup, iL_none, iL_bool, iL_int, iL_str, iL_list, iL_tup, iT_none, iT_bool, iT_int, iT_str, iT_list, iT_tup, iS_none, iS_bool, iS_int, iS_str, iS_list, iS_tup, iI_none, iI_bool, iI_int, iI_str, iI_list, iI_tup, iB_none, iB_bool, iB_int, iB_str, iB_list, iB_tup, Bool.false_eq_true, reduceCtorEq, Bool.not_true, Bool.not_false, decide_true, decide_false, List.zip_cons_cons, List.zip_nil_left, List.foldl_cons, List.foldl_nil, and_self, and_true, true_and, Bool.and_true, Bool.true_and, Bool.or_true, Bool.true_or, *])
end DL
set_option maxRecDepth 100000
set_option maxHeartbeats 400000
namespace DL
open PySem L2
variable [HW]
local macro_rules | `(tactic| walk_at "dl") => `(tactic| simp (config := { dsimp := false }) only [↓fnM_e, ↓sSeq_e, seqK_nx, seqK_rt, seqK_bk, seqK_ct, retK_rt, retK_nx, ↓sFrz_e, frK_some, ↓sAsg, ↓sRet, ↓sRetN, ↓sIf, ↓sExpr, ↓sSkip, ↓sNever, ↓sPar, ↓sFor, ↓sSub, ↓fVar, ↓fC, ↓fNil, ↓fCons, ↓fA, ↓f1, ↓f2, ↓fB, ↓fIf, ↓fNeg, ↓fNot, ↓fAnd, ↓fOr, ↓bNot, ↓bAnd, ↓bOr, ↓bYes, ↓obnd_x, ob_some, ↓sbnd_x, sb_some, ↓ite_x, iteK_t, iteK_f, gN, gT, gC, gE, ↓rng1I, ↓rng2I, ↓seqI, ↓enumA, ↓zipI, ↓strI, ↓fLc, ↓fDc, ↓fM, ↓fSl, ↓oNone, ↓oSome, ↓fRev, wipeE, ↓kwM, permM, permL, List.foldr, List.length_cons, List.length_nil, List.map_cons, List.map_nil, List.cons_append, List.nil_append, List.replicate, List.replicate_succ, List.replicate_zero, List.getElem?_cons_zero, List.getElem?_cons_succ, List.set_cons_zero, List.set_cons_succ, if_true, if_false, reduceIte, Nat.reduceAdd, Nat.reduceSub, Nat.reduceEqDiff, Nat.reduceLT, Nat.reduceLeDiff, Int.reduceLT, Int.reduceLE, Int.reduceNeg, Int.reduceMul, Int.reduceAdd, Int.reduceSub, Int.reduceToNat, Int.reducePow, Int.reduceEq, ok, bok, deref, mkL, lstW, tupW, dats, Option.map_some, appendW, insertW, setL, isL, listW, tupleW, lenW, absW, intC, maxW, minW, idxW, addW, subW_e, modW_e, divW_e, powW_e, mulW, intW, lt_e, gt_e, le_e, ge_e, ltW, allW_e, anyW_e, sumW_e, lW, setW, lstAt, cutW, backW, isW, isiW, iLT_none, iLT_bool, iLT_int, iLT_str, iLT_list, iLT_tup, iL_none, iL_bool, iL_int, iL_str, iL_list, iL_tup, iT_none, iT_bool, iT_int, iT_str, iT_list, iT_tup, iS_none, iS_bool, iS_int, iS_str, iS_list, iS_tup, iI_none, iI_bool, iI_int, iI_str, iI_list, iI_tup, iB_none, iB_bool, iB_int, iB_str, iB_list, iB_tup, Bool.false_eq_true, reduceCtorEq, Bool.not_true, Bool.not_false, decide_true, decide_false, List.zip_cons_cons, List.zip_nil_left, List.foldl_cons, List.foldl_nil, and_self, and_true, true_and, Bool.and_true, Bool.true_and, Bool.or_true, Bool.true_or, *])
theorem fnM_rt {rm : Bool} {np nl : Nat} {body : SM} {ws : List W} {h h' : Hh} {w : W} {r : Option (W × Hh)} (hb : body (ws.map some ++ List.replicate (nl - np) none) h = some (.rt w, h')) (e : ws.length = np) (lv : leave rm h w h' = r) : fnM rm np nl body ws h = r := by
  rw [fnM_e _ _ _ _ _ _ e, hb, retK_rt, lv]
section
variable {h : Hh}
theorem add_i {i j : Int} : addW false (.dat (.int i)) (.dat (.int j)) h = some (.dat (.int (i + j)), h) := rfl
theorem mul_i {i j : Int} (h1 : -18446744073709551616 < i) (h2 : i < 18446744073709551616) : mulW false (.dat (.int i)) (.dat (.int j)) h = some (.dat (.int (i * j)), h) := by
  have c1 := decide_eq_true h1
  have c2 := decide_eq_true h2
  unfold mulW
  simp only [deref, c1, c2, Bool.and_self, Bool.true_or, if_true]
  rfl
theorem ne_i {i j : Int} {b : Bool} (hb : decide (i = j) = b) : eqW true (.dat (.int i)) (.dat (.int j)) h = some (.dat (.bool (!b)), h) := by
  rw [eqW_ints, if_pos rfl, hb]; rfl
end
abbrev zz : Str := "zz"
end DL
set_option maxRecDepth 100000
set_option maxHeartbeats 400000
namespace DL
open PySem L2
variable [HW]
structure Grow (b : Nat) (h h' : Hh) : Prop where
  le : h.length ≤ h'.length
  off : ∀ i : Nat, i < h.length → i ≠ b → h'[i]? = h[i]?
theorem Grow.only {b : Nat} {h h' : Hh} (o : Only b h h') : Grow b h h' := ⟨by rw [o.len]; exact Nat.le_refl _, fun i _ n => o.off i n⟩
theorem Grow.app {b : Nat} {h l : Hh} : Grow b h (h ++ l) := ⟨by rw [List.length_append]; omega, fun i hi _ => List.getElem?_append_left hi⟩
theorem Grow.trans {b : Nat} {h h1 h2 : Hh} (x : Grow b h h1) (y : Grow b h1 h2) : Grow b h h2 := ⟨Nat.le_trans x.le y.le, fun i hi n => (y.off i (Nat.lt_of_lt_of_le hi x.le) n).trans (x.off i hi n)⟩
theorem Grow.fin {b c c' : Nat} {h h' : Hh} (x : Grow b h h') (hb : BoxAt h b c) (y : BoxAt h' b c') : (∀ d : D, leave false h (.dat d) h' = some (.dat d, h'.take h.length)) ∧ BoxAt (h'.take h.length) b c' ∧ Only b h (h'.take h.length) := by
  have hl : (h'.take h.length).length = h.length := by rw [List.length_take]; have := x.le; omega
  have o : Only b h (h'.take h.length) := ⟨hl, fun i n => by
    by_cases q : i < h.length
    · rw [List.getElem?_take_of_lt q]; exact x.off i q n
    · rw [List.getElem?_eq_none (by omega), List.getElem?_eq_none (by omega)]⟩
  have bx := box_take y hb.lt
  exact ⟨fun d => leave_dat (live_only hb bx o), bx, o⟩
theorem Pre.grow {h0 h h' : Hh} {b : Nat} (p : Pre h0 h) (hb : h0.length ≤ b) (hl : h0.length ≤ h.length) (x : Grow b h h') : Pre h0 h' := fun i hi => (x.off i (by omega) (by omega)).trans (p i hi)
end DL
set_option maxRecDepth 100000
set_option maxHeartbeats 400000
namespace DL
open PySem L2
variable [HW]
local macro_rules | `(tactic| walk_at "dl") => `(tactic| simp (config := { dsimp := false }) only [↓fnM_e, ↓sSeq_e, seqK_nx, seqK_rt, seqK_bk, seqK_ct, retK_rt, retK_nx, ↓sFrz_e, frK_some, ↓sAsg, ↓sRet, ↓sRetN, ↓sIf, ↓sExpr, ↓sSkip, ↓sNever, ↓sPar, ↓sFor, ↓sSub, ↓fVar, ↓fC, ↓fNil, ↓fCons, ↓fA, ↓f1, ↓f2, ↓fB, ↓fIf, ↓fNeg, ↓fNot, ↓fAnd, ↓fOr, ↓bNot, ↓bAnd, ↓bOr, ↓bYes, ↓obnd_x, ob_some, ↓sbnd_x, sb_some, ↓ite_x, iteK_t, iteK_f, gN, gT, gC, gE, ↓rng1I, ↓rng2I, ↓seqI, ↓enumA, ↓zipI, ↓strI, ↓fLc, ↓fDc, ↓fM, ↓fSl, ↓oNone, ↓oSome, ↓fRev, wipeE, ↓kwM, permM, permL, List.foldr, List.length_cons, List.length_nil, List.map_cons, List.map_nil, List.cons_append, List.nil_append, List.replicate, List.replicate_succ, List.replicate_zero, List.getElem?_cons_zero, List.getElem?_cons_succ, List.set_cons_zero, List.set_cons_succ, if_true, if_false, reduceIte, Nat.reduceAdd, Nat.reduceSub, Nat.reduceEqDiff, Nat.reduceLT, Nat.reduceLeDiff, Int.reduceLT, Int.reduceLE, Int.reduceNeg, Int.reduceMul, Int.reduceAdd, Int.reduceSub, Int.reduceToNat, Int.reducePow, Int.reduceEq, ok, bok, deref, mkL, lstW, tupW, dats, Option.map_some, appendW, insertW, setL, isL, listW, tupleW, lenW, absW, intC, maxW, minW, idxW, addW, subW_e, modW_e, divW_e, powW_e, mulW, intW, lt_e, gt_e, le_e, ge_e, ltW, allW_e, anyW_e, sumW_e, lW, setW, lstAt, cutW, backW, isW, isiW, iLT_none, iLT_bool, iLT_int, iLT_str, iLT_list, iLT_tup, iL_none, iL_bool, iL_int, iL_str, iL_list, iL_tup, iT_none, iT_bool, iT_int, iT_str, iT_list, iT_tup, iS_none, iS_bool, iS_int, iS_str, iS_list, iS_tup, iI_none, iI_bool, iI_int, iI_str, iI_list, iI_tup, iB_none, iB_bool, iB_int, iB_str, iB_list, iB_tup, Bool.false_eq_true, reduceCtorEq, Bool.not_true, Bool.not_false, decide_true, decide_false, List.zip_cons_cons, List.zip_nil_left, List.foldl_cons, List.foldl_nil, and_self, and_true, true_and, Bool.and_true, Bool.true_and, Bool.or_true, Bool.true_or, *])
local macro_rules | `(tactic| walk_at "tb") => `(tactic| simp (config := { dsimp := false }) only [↓fFld_e, ↓fMeth_e, ↓fMk_e, fld_n, fld_p, met_leads, met_then, met_times, met_made, met_tells, met_names, ↓fnM_e, ↓sSeq_e, seqK_nx, seqK_rt, seqK_bk, seqK_ct, retK_rt, retK_nx, ↓sFrz_e, frK_some, ↓sAsg, ↓sRet, ↓sRetN, ↓sIf, ↓sExpr, ↓sSkip, ↓sNever, ↓sPar, ↓sFor, ↓sSub, ↓fVar, ↓fC, ↓fNil, ↓fCons, ↓fA, ↓f1, ↓f2, ↓fB, ↓fIf, ↓fNeg, ↓fNot, ↓fAnd, ↓fOr, ↓bNot, ↓bAnd, ↓bOr, ↓bYes, ↓obnd_x, ob_some, ↓sbnd_x, sb_some, ↓ite_x, iteK_t, iteK_f, gN, gT, gC, gE, ↓rng1I, ↓rng2I, ↓seqI, ↓enumA, ↓zipI, ↓strI, ↓fLc, ↓fDc, ↓fM, ↓fSl, ↓oNone, ↓oSome, ↓fRev, wipeE, ↓kwM, permM, permL, List.foldr, List.length_cons, List.length_nil, List.map_cons, List.map_nil, List.cons_append, List.nil_append, List.replicate, List.replicate_succ, List.replicate_zero, List.getElem?_cons_zero, List.getElem?_cons_succ, List.set_cons_zero, List.set_cons_succ, if_true, if_false, reduceIte, Nat.reduceAdd, Nat.reduceSub, Nat.reduceEqDiff, Nat.reduceLT, Nat.reduceLeDiff, Int.reduceLT, Int.reduceLE, Int.reduceNeg, Int.reduceMul, Int.reduceAdd, Int.reduceSub, Int.reduceToNat, Int.reducePow, Int.reduceEq, ok, bok, deref, mkL, lstW, tupW, dats, Option.map_some, appendW, insertW, setL, isL, listW, tupleW, lenW, absW, intC, maxW, minW, idxW, addW, subW_e, modW_e, divW_e, powW_e, mulW, intW, lt_e, gt_e, le_e, ge_e, ltW, allW_e, anyW_e, sumW_e, lW, setW, lstAt, cutW, backW, isW, isiW, iLT_none, iLT_bool, iLT_int, iLT_str, iLT_list, iLT_tup, iL_none, iL_bool, iL_int, iL_str, iL_list, iL_tup, iT_none, iT_bool, iT_int, iT_str, iT_list, iT_tup, iS_none, iS_bool, iS_int, iS_str, iS_list, iS_tup, iI_none, iI_bool, iI_int, iI_str, iI_list, iI_tup, iB_none, iB_bool, iB_int, iB_str, iB_list, iB_tup, Bool.false_eq_true, reduceCtorEq, Bool.not_true, Bool.not_false, decide_true, decide_false, List.zip_cons_cons, List.zip_nil_left, List.foldl_cons, List.foldl_nil, and_self, and_true, true_and, Bool.and_true, Bool.true_and, Bool.or_true, Bool.true_or, *])
end DL
set_option maxRecDepth 100000
set_option maxHeartbeats 400000
namespace DL
open PySem L2
variable [HW]
end DL
set_option maxRecDepth 100000
set_option maxHeartbeats 400000
namespace DL
open PySem L2
variable [HW]
theorem xB' {E : EM} {ρ : DL.Env} {b : Bool} {h h1 : Hh} (e : E ρ h = some (.dat (.bool b), h1)) : fB E ρ h = some (b, h1) := by
  unfold fB
  simp only [e, obnd]
theorem xAddT {a b : List D} {h : Hh} (hl : a.length + b.length ≤ sizeLine) : addW false (.dat (.tuple a)) (.dat (.tuple b)) h = some (.dat (.tuple (a ++ b)), h) := by
  unfold addW
  simp only [deref, if_pos hl]
  rfl
end DL
set_option maxRecDepth 100000
set_option maxHeartbeats 400000
namespace DL
open PySem L2
variable [HW]
section
variable {α : Type} [DecidableEq α]
def dd1 (acc : List α) (p : α) : List α := if p ∈ acc then acc else acc ++ [p]
def dd (l : List α) : List α := l.foldl dd1 []
end
section
variable {r q : List Str} {us : List (List (Str × Str))} (c : Words r us) (nd : r.Nodup) (pq : q.Perm r)
include c nd pq
end
end DL
set_option maxRecDepth 100000
set_option maxHeartbeats 400000
namespace DL
open PySem L2
variable [HW]
def barL (L : List Str) (Wn : List (Str × Str)) (s : Str) : Bool := L.any fun o => decide ((o, s) ∈ Wn)
def fre (L : List Str) (Wn : List (Str × Str)) : Option Str := (sortS L).find? fun s => !barL L Wn s
def Gr (Wn : List (Str × Str)) (F L : List Str) : Prop := ∀ A s B, F = A ++ s :: B → fre (s :: B ++ L) Wn = some s
end DL
set_option maxRecDepth 100000
set_option maxHeartbeats 400000
namespace DL
open PySem L2
variable [HW]
section
variable {L : List Str} {Wn : List (Str × Str)} {h : Hh} (tL : Txts L) (tW : TxtP Wn) (hl : L.length ≤ 1000)
include tL tW hl
end
section
variable {x : D} {Wn : List (Str × Str)} {h : Hh} (hok : h.all okM = true) (tW : TxtP Wn)
include hok tW
end
end DL
set_option maxRecDepth 100000
set_option maxHeartbeats 400000
namespace DL
open PySem L2
variable [HW]
theorem putT_nx {f o i : EM} {w a b : W} {ρ : DL.Env} {h h1 h2 h3 h4 : Hh} (e1 : f ρ h = some (w, h1)) (e2 : o ρ h1 = some (a, h2)) (e3 : i ρ h2 = some (b, h3)) (e4 : putTW a b w h3 = some h4) : sPutT f o i ρ h = some (.nx ρ, h4) := by
  unfold sPutT
  simp only [e1, sbnd, e2, e3, e4]
end DL
set_option maxRecDepth 100000
set_option maxHeartbeats 400000
namespace DL
open PySem L2
variable [HW]
section
variable {T : Nat → Addr} {x y : D} {lb : Bool} {r : List Str} {us : List (List (Str × Str))} {h : Hh} (hx : IsSeq x (r.map .str)) (hy : IsSeq y (us.map (cD lb))) (c : Words r us) (nd : r.Nodup) (hl : r.length ≤ 100) (ht : Txts r) (hu : us.length ≤ 1000)
include hx hy c nd hl ht hu
end
noncomputable def rgT : BM := (fB (f2 (inW true) (fVar 3) (fVar 2)))
section
variable {L : List Str} {Wn : List (Str × Str)} {h : Hh} (nl : L.Nodup) (tL : Txts L) (hl : L.length ≤ 1000) (tW : TxtP Wn) (bar : ∀ s ∈ L, ∃ o ∈ L, (o, s) ∈ Wn)
include nl tL hl tW bar
end
end DL
set_option maxRecDepth 100000
set_option maxHeartbeats 400000
namespace DL
open PySem L2
variable [HW]
section
variable {T : Nat → Addr} {x y : D} {lb : Bool} {r : List Str} {us : List (List (Str × Str))} {h : Hh} (hx : IsSeq x (r.map .str)) (hy : IsSeq y (us.map (cD lb))) (c : Words r us) (nd : r.Nodup) (hl : r.length ≤ 100) (ht : Txts r) (hu : us.length ≤ 1000)
include hx hy c nd hl ht hu
end
end DL
set_option maxRecDepth 100000
set_option maxHeartbeats 400000
namespace DL
open PySem L2
variable [HW]
local macro_rules | `(tactic| walk_at "dl") => `(tactic| simp (config := { dsimp := false }) only [↓fnM_e, ↓sSeq_e, seqK_nx, seqK_rt, seqK_bk, seqK_ct, retK_rt, retK_nx, ↓sFrz_e, frK_some, ↓sAsg, ↓sRet, ↓sRetN, ↓sIf, ↓sExpr, ↓sSkip, ↓sNever, ↓sPar, ↓sFor, ↓sSub, ↓fVar, ↓fC, ↓fNil, ↓fCons, ↓fA, ↓f1, ↓f2, ↓fB, ↓fIf, ↓fNeg, ↓fNot, ↓fAnd, ↓fOr, ↓bNot, ↓bAnd, ↓bOr, ↓bYes, ↓obnd_x, ob_some, ↓sbnd_x, sb_some, ↓ite_x, iteK_t, iteK_f, gN, gT, gC, gE, ↓rng1I, ↓rng2I, ↓seqI, ↓enumA, ↓zipI, ↓strI, ↓fLc, ↓fDc, ↓fM, ↓fSl, ↓oNone, ↓oSome, ↓fRev, wipeE, ↓kwM, permM, permL, List.foldr, List.length_cons, List.length_nil, List.map_cons, List.map_nil, List.cons_append, List.nil_append, List.replicate, List.replicate_succ, List.replicate_zero, List.getElem?_cons_zero, List.getElem?_cons_succ, List.set_cons_zero, List.set_cons_succ, if_true, if_false, reduceIte, Nat.reduceAdd, Nat.reduceSub, Nat.reduceEqDiff, Nat.reduceLT, Nat.reduceLeDiff, Int.reduceLT, Int.reduceLE, Int.reduceNeg, Int.reduceMul, Int.reduceAdd, Int.reduceSub, Int.reduceToNat, Int.reducePow, Int.reduceEq, ok, bok, deref, mkL, lstW, tupW, dats, Option.map_some, appendW, insertW, setL, isL, listW, tupleW, lenW, absW, intC, maxW, minW, idxW, addW, subW_e, modW_e, divW_e, powW_e, mulW, intW, lt_e, gt_e, le_e, ge_e, ltW, allW_e, anyW_e, sumW_e, lW, setW, lstAt, cutW, backW, isW, isiW, iLT_none, iLT_bool, iLT_int, iLT_str, iLT_list, iLT_tup, iL_none, iL_bool, iL_int, iL_str, iL_list, iL_tup, iT_none, iT_bool, iT_int, iT_str, iT_list, iT_tup, iS_none, iS_bool, iS_int, iS_str, iS_list, iS_tup, iI_none, iI_bool, iI_int, iI_str, iI_list, iI_tup, iB_none, iB_bool, iB_int, iB_str, iB_list, iB_tup, Bool.false_eq_true, reduceCtorEq, Bool.not_true, Bool.not_false, decide_true, decide_false, List.zip_cons_cons, List.zip_nil_left, List.foldl_cons, List.foldl_nil, and_self, and_true, true_and, Bool.and_true, Bool.true_and, Bool.or_true, Bool.true_or, *])
abbrev rK (r : List Str) : List Key := r.map Sum.inr
theorem dKeys_row : ∀ r : List Str, dKeys (r.map PyData.str) = some (rK r)
  | [] => rfl
  | s :: r => by simp only [List.map_cons, dKeys, dKey_str, dKeys_row r]
theorem tKey_row (r : List Str) : tKey (rowT r) = some (rK r) := dKeys_row r
theorem rK_inj {r q : List Str} (e : rK r = rK q) : r = q := by
  induction r generalizing q with
  | nil => cases q with
    | nil => rfl
    | cons b q => cases e
  | cons a r ih => cases q with
    | nil => cases e
    | cons b q =>
      have e1 : (Sum.inr a : Key) = .inr b := (List.cons.inj e).1
      cases e1
      rw [ih (List.cons.inj e).2]
theorem pairD_row (r : List Str) : pairD (r.map PyData.str) = false := by cases r <;> rfl
def tblR (l : List (List Str × D)) : List (D × D) := l.map fun e => (rowT e.1, e.2)
theorem getT_tblR (p : List Str) : ∀ l : List (List Str × D), getT (tblR l) (rK p) = l.lookup p
  | [] => rfl
  | (q, d) :: l => by
    show ((List.find? _ ((rowT q, d) :: tblR l)).map _) = _
    rw [List.find?_cons, List.lookup_cons]
    by_cases z : p = q
    · subst z; simp [tKey_row]
    · have z' : decide (tKey (rowT q) = some (rK p)) = false := by
        rw [tKey_row]
        simp only [Option.some.injEq, decide_eq_false_iff_not]
        exact fun w => z (rK_inj w).symm
      have z2 : (p == q) = false := beq_eq_false_iff_ne.mpr z
      rw [z', z2]
      exact getT_tblR p l
theorem getD_tblR {l : List (List Str × D)} {p : List Str} : getD ((.none, .none) :: tblR l) (rowT p) = some (l.lookup p) := by
  have hb : bareK (rowT p) = false := pairD_row p
  unfold getD
  rw [if_pos (show isT ((PyData.none, PyData.none) :: tblR l) = true from rfl), hb, if_neg (by simp), tKey_row, Option.map_some]
  show some (getT (tblR l) (rK p)) = _
  rw [getT_tblR]
theorem putT_tblR {l : List (List Str × D)} {p : List Str} {d : D} (h : l.lookup p = none) : putT (tblR l) (rK p) d = tblR (l ++ [(p, d)]) := by
  have e : (PyData.tuple ((rK p).map kP)) = rowT p := by
    unfold rK rowT
    rw [List.map_map]; rfl
  unfold putT
  rw [getT_tblR, h]
  simp only [Option.isSome_none, Bool.false_eq_true, if_false]
  unfold tblR
  rw [List.map_append, e]; rfl
def updR (l : List (List Str × D)) (k : List Str) (v : D) : List (List Str × D) := if (l.lookup k).isSome = true then l.map (fun e => if e.1 = k then (e.1, v) else e) else l ++ [(k, v)]
theorem putT_upd (l : List (List Str × D)) (k : List Str) (v : D) : putT (tblR l) (rK k) v = tblR (updR l k v) := by
  unfold updR
  cases z : l.lookup k with
  | none =>
    rw [putT_tblR z]
    rfl
  | some d =>
    unfold putT
    rw [getT_tblR, z]
    simp only [Option.isSome_some, if_true]
    unfold tblR
    rw [List.map_map, List.map_map]
    refine List.map_congr_left fun e _ => ?_
    show (if tKey (rowT e.1) = some (rK k) then (rowT e.1, v) else (rowT e.1, e.2)) = (fun e : List Str × D => (rowT e.1, e.2)) (if e.1 = k then (e.1, v) else e)
    rw [tKey_row]
    by_cases w : e.1 = k
    · rw [if_pos (by rw [w]), if_pos w]
    · rw [if_neg (fun q => w (rK_inj (Option.some.inj q))), if_neg w]
theorem updR_look (l : List (List Str × D)) (k : List Str) (v : D) (q : List Str) : (updR l k v).lookup q = if q = k then some v else l.lookup q := by
  unfold updR
  cases z : l.lookup k with
  | none =>
    simp only [Option.isSome_none, Bool.false_eq_true, if_false]
    rw [List.lookup_append]
    by_cases w : q = k
    · subst w; rw [z, if_pos rfl]; simp
    · rw [if_neg w, List.lookup_cons, show (q == k) = false from beq_eq_false_iff_ne.mpr w]; simp
  | some d =>
    simp only [Option.isSome_some, if_true]
    have key : ∀ m : List (List Str × D), (m.map fun e => if e.1 = k then (e.1, v) else e).lookup q = if q = k then (m.lookup k).map (fun _ => v) else m.lookup q := fun m => by
      induction m with
      | nil => simp
      | cons e m ih =>
        obtain ⟨a, b⟩ := e
        rw [List.map_cons]
        by_cases w : a = k
        · subst w
          rw [if_pos rfl, List.lookup_cons, List.lookup_cons, List.lookup_cons, ih]
          by_cases y : q = a
          · subst y; simp
          · rw [show (q == a) = false from beq_eq_false_iff_ne.mpr y]; simp [y]
        · rw [if_neg w, List.lookup_cons, List.lookup_cons, List.lookup_cons, ih]
          by_cases y : q = a
          · subst y
            rw [show (q == q) = true from beq_self_eq_true q, show (k == q) = false from beq_eq_false_iff_ne.mpr fun z => w z.symm]
            simp [w]
          · rw [show (q == a) = false from beq_eq_false_iff_ne.mpr y, show (k == a) = false from beq_eq_false_iff_ne.mpr fun z => w z.symm]
    rw [key l, z]
    rfl
theorem updR_keys {l : List (List Str × D)} {k : List Str} {v : D} {e : List Str × D} (h : e ∈ updR l k v) : (e.1 = k ∧ e.2 = v) ∨ e ∈ l := by
  unfold updR at h
  split at h
  · obtain ⟨x, hx, rfl⟩ := List.mem_map.mp h
    split
    · rename_i q; exact .inl ⟨q, rfl⟩
    · exact .inr hx
  · rcases List.mem_append.mp h with h | h
    · exact .inr h
    · rw [List.mem_singleton] at h; subst h; exact .inl ⟨rfl, rfl⟩
theorem updR_len (l : List (List Str × D)) (k : List Str) (v : D) : (updR l k v).length ≤ l.length + 1 := by
  unfold updR
  split
  · rw [List.length_map]; omega
  · rw [List.length_append]; exact Nat.le_refl _
theorem put_row {k : List Str} {v : D} {n : Nat} {l : List (List Str × D)} {g : Hh} (hn : g[n]? = some (some (.dit (tblR l)))) (hl : l.length < 1000000) : putTW (.ref n) (.dat (rowT k)) (.dat v) g = some (g.set n (some (.dit (tblR (updR l k v))))) := by
  have hz : sizeLine = 16777216 := rfl
  have e1 : ditAt g n = some (tblR l) := by unfold ditAt; rw [hn]
  have e2 := dKeys_row k
  have e4 : (tblR l).length < sizeLine := by unfold tblR; rw [List.length_map]; omega
  unfold putTW rowT
  simp only [e1, e2]
  rw [if_pos ⟨e4, pairD_row k⟩, putT_upd]
end DL
set_option maxRecDepth 100000
set_option maxHeartbeats 400000
namespace DL
open PySem L2
variable [HW]
def desL : List Nat → Nat
  | a :: b :: l => (bif Nat.blt b a then 1 else 0) + desL (b :: l)
  | _ => 0
def posL : List Nat → Nat → Nat
  | [], _ => 0
  | a :: l, x => bif Nat.beq a x then 0 else posL l x + 1
def notIn : List Nat → Nat → Bool
  | [], _ => true
  | a :: l, x => bif Nat.beq a x then false else notIn l x
def lvN (l : List Nat) : Nat → List (List Nat)
  | 0 => [[]]
  | k + 1 => (lvN l k).flatMap fun s => (l.filter fun x => notIn s x).map fun x => s ++ [x]
def allN (n : Nat) : List (List Nat) := lvN (List.range n) n
def relL (e q : List Nat) : List Nat := e.map (posL q)
def codL (n : Nat) (e : List Nat) : List Nat := (allN n).map fun q => 5 * desL q + desL (relL e q)
def hashL : List Nat → Nat
  | [] => 0
  | c :: l => 256 ^ c + hashL l
def repL (n d : Nat) : List Nat := (List.range (d + 1)).reverse ++ (List.range' (d + 1) (n - (d + 1)))
def lp (N : Nat) : Nat → Nat
  | 0 => 1
  | t + 1 => lp N t * (N - t) / (t + 1)
def tW (n a i : Nat) : Nat := lp (n ^ a + n - 1 - i) n
def sumL : List Nat → Nat
  | [] => 0
  | a :: l => a + sumL l
def chkH (n : Nat) : Bool := (allN n).all fun e => hashL (codL n e) == hashL (codL n (repL n (desL e)))
def chkS (n : Nat) : Bool := (List.range n).all fun d => (List.range 4).all fun a => (List.range 4).all fun b => sumL ((codL n (repL n d)).map fun c => tW n a (c / 5) * tW n b (c % 5)) == tW n (a + b) d
def chkC (n : Nat) : Bool := (sumL ((allN n).map fun q => tW n 1 (desL q)) == n ^ n) && (List.range 4).all fun a => sumL ((allN n).map fun q => tW n a (desL q)) == n ^ (n * a)
def chkR (n : Nat) : Bool := (allN n).all fun q => desL ((q.map fun i => n - 1 - i).reverse) == desL q
def chkL (n : Nat) : Bool := decide ((allN n).length ≤ 120) && (allN n).all fun q => Nat.blt (desL q) n && (List.range 4).all fun a => Nat.blt (tW n a (desL q)) 1000000000
def chkA (n : Nat) : Bool := chkH n && chkS n && chkC n && chkR n && chkL n
theorem chkA_1 : chkA 1 = true := by decide +kernel
theorem chkA_2 : chkA 2 = true := by decide +kernel
theorem chkA_3 : chkA 3 = true := by decide +kernel
theorem chkA_4 : chkA 4 = true := by decide +kernel
theorem chkA_5 : chkA 5 = true := by decide +kernel
theorem chkA_all {n : Nat} (h0 : 0 < n) (h5 : n ≤ 5) : chkA n = true := by
  have : n = 1 ∨ n = 2 ∨ n = 3 ∨ n = 4 ∨ n = 5 := by omega
  rcases this with rfl | rfl | rfl | rfl | rfl
  · exact chkA_1
  · exact chkA_2
  · exact chkA_3
  · exact chkA_4
  · exact chkA_5
theorem hash_split (c : Nat) : ∀ L : List Nat, ∃ lo hi, hashL L = lo + 256 ^ c * hi ∧ lo * 256 ≤ L.length * 256 ^ c ∧ hi % 256 = L.count c % 256
  | [] => ⟨0, 0, rfl, by simp, by simp⟩
  | x :: L => by
    obtain ⟨lo, hi, e1, e2, e3⟩ := hash_split c L
    rw [hashL, List.length_cons, List.count_cons]
    by_cases h : x < c
    · refine ⟨256 ^ x + lo, hi, by omega, ?_, ?_⟩
      · have : 256 ^ (x + 1) ≤ 256 ^ c := Nat.pow_le_pow_right (by omega) h
        rw [Nat.pow_succ] at this
        rw [Nat.add_mul, Nat.succ_mul]
        omega
      · rw [show (x == c) = false by simp; omega]
        simpa using e3
    · obtain ⟨d, rfl⟩ : ∃ d, x = c + d := ⟨x - c, by omega⟩
      refine ⟨lo, 256 ^ d + hi, by rw [e1, Nat.pow_add, Nat.mul_add]; omega, ?_, ?_⟩
      · rw [Nat.succ_mul]; exact Nat.le_trans e2 (Nat.le_add_right _ _)
      · cases d with
        | zero => simp; omega
        | succ d =>
          rw [show (c + (d + 1) == c) = false by simp, Nat.pow_succ]
          simp only [Bool.false_eq_true, if_false, Nat.add_zero]
          omega
theorem hash_count {L : List Nat} (hl : L.length < 256) (c : Nat) : L.count c = hashL L / 256 ^ c % 256 := by
  obtain ⟨lo, hi, e1, e2, e3⟩ := hash_split c L
  have pp : 0 < 256 ^ c := Nat.pow_pos (by omega)
  have lo1 : lo < 256 ^ c := by
    have : L.length * 256 ^ c ≤ 255 * 256 ^ c := Nat.mul_le_mul_right _ (by omega)
    omega
  have cl : L.count c ≤ L.length := List.count_le_length
  rw [e1, Nat.add_mul_div_left _ _ pp, Nat.div_eq_of_lt lo1, Nat.zero_add, e3]
  omega
theorem hash_perm {L K : List Nat} (h1 : L.length < 256) (h2 : K.length < 256) (e : hashL L = hashL K) : L.Perm K := by
  rw [List.perm_iff_count]
  intro c
  rw [hash_count h1, hash_count h2, e]
theorem sumL_perm {L K : List Nat} (p : L.Perm K) : sumL L = sumL K := by
  induction p with
  | nil => rfl
  | cons x _ ih => rw [sumL, sumL, ih]
  | swap x y l => rw [sumL, sumL, sumL, sumL]; omega
  | trans _ _ h1 h2 => rw [h1, h2]
section
variable {α : Type} [DecidableEq α]
def lvG (l : List α) : Nat → List (List α)
  | 0 => [[]]
  | k + 1 => (lvG l k).flatMap fun s => (l.filter fun x => decide (x ∉ s)).map fun x => s ++ [x]
theorem mem_lvG {l : List α} : ∀ {k : Nat} {m : List α}, m ∈ lvG l k ↔ m.Nodup ∧ m.length = k ∧ ∀ x ∈ m, x ∈ l
  | 0, m => by
    rw [lvG, List.mem_singleton]
    constructor
    · rintro rfl; exact ⟨List.nodup_nil, rfl, fun x hx => by cases hx⟩
    · rintro ⟨_, h, _⟩; exact List.length_eq_zero_iff.mp h
  | k + 1, m => by
    rw [lvG, List.mem_flatMap]
    constructor
    · rintro ⟨s, hs, hm⟩
      obtain ⟨x, hx, rfl⟩ := List.mem_map.mp hm
      obtain ⟨h1, h2⟩ := List.mem_filter.mp hx
      have h2 : x ∉ s := by simpa using h2
      obtain ⟨n1, l1, m1⟩ := mem_lvG.mp hs
      refine ⟨?_, by rw [List.length_append, l1]; rfl, fun y hy => ?_⟩
      · rw [List.nodup_append]
        refine ⟨n1, by simp, fun a ha b hb e => ?_⟩
        rw [List.mem_singleton] at hb
        subst hb e
        exact h2 ha
      · rcases List.mem_append.mp hy with hy | hy
        · exact m1 y hy
        · rw [List.mem_singleton] at hy; subst hy; exact h1
    · rintro ⟨n1, l1, m1⟩
      have ne : m ≠ [] := fun z => by rw [z] at l1; simp at l1
      have es := List.dropLast_concat_getLast ne
      rw [← es, List.nodup_append] at n1
      refine ⟨m.dropLast, mem_lvG.mpr ⟨n1.1, by rw [List.length_dropLast, l1]; rfl, fun x hx => m1 x (List.dropLast_subset m hx)⟩, List.mem_map.mpr ⟨m.getLast ne, List.mem_filter.mpr ⟨m1 _ (List.getLast_mem ne), ?_⟩, es⟩⟩
      simp only [decide_eq_true_eq]
      intro z
      exact n1.2.2 _ z _ (List.mem_singleton.mpr rfl) rfl
theorem nodup_lvG {l : List α} (nd : l.Nodup) : ∀ k : Nat, (lvG l k).Nodup
  | 0 => by rw [lvG]; simp
  | k + 1 => by
    rw [lvG]
    have ih := nodup_lvG nd k
    generalize lvG l k = L at *
    induction L with
    | nil => simp
    | cons s L ihL =>
      rw [List.nodup_cons] at ih
      rw [List.flatMap_cons, List.nodup_append]
      refine ⟨?_, ihL ih.2, fun a ha b hb e => ?_⟩
      · have nf : (l.filter fun x => decide (x ∉ s)).Nodup := nd.sublist List.filter_sublist
        rw [List.Nodup, List.pairwise_map]
        exact nf.imp fun h e => h (by simpa using e)
      · obtain ⟨x, _, rfl⟩ := List.mem_map.mp ha
        obtain ⟨t, ht, hb⟩ := List.mem_flatMap.mp hb
        obtain ⟨y, _, rfl⟩ := List.mem_map.mp hb
        have : s = t := (List.append_inj' e rfl).1
        subst this
        exact ih.1 ht
end
theorem notIn_eq : ∀ (s : List Nat) (x : Nat), notIn s x = decide (x ∉ s)
  | [], x => by simp [notIn]
  | a :: s, x => by
    rw [notIn, notIn_eq s x]
    by_cases h : a = x
    · subst h; simp
    · have : Nat.beq a x = false := by
        cases hb : Nat.beq a x with
        | false => rfl
        | true => exact absurd (Nat.eq_of_beq_eq_true hb) h
      rw [this]
      have h' : ¬ x = a := fun z => h z.symm
      simp [h']
theorem lvN_eq (l : List Nat) : ∀ k : Nat, lvN l k = lvG l k
  | 0 => rfl
  | k + 1 => by
    rw [lvN, lvG, lvN_eq l k]
    congr 1
    funext s
    congr 2
    funext x
    exact notIn_eq s x
theorem mem_allN {n : Nat} {q : List Nat} : q ∈ allN n ↔ q.Nodup ∧ q.length = n ∧ ∀ x ∈ q, x < n := by
  unfold allN
  rw [lvN_eq, mem_lvG]
  simp
theorem nodup_allN (n : Nat) : (allN n).Nodup := by unfold allN; rw [lvN_eq]; exact nodup_lvG List.nodup_range n
end DL
set_option maxHeartbeats 400000
namespace LW
open PySem L2 DL
variable [HW]
local macro_rules | `(tactic| walk_at "dl") => `(tactic| simp (config := { dsimp := false }) only [↓fnM_e, ↓sSeq_e, seqK_nx, seqK_rt, seqK_bk, seqK_ct, retK_rt, retK_nx, ↓sFrz_e, frK_some, ↓sAsg, ↓sRet, ↓sRetN, ↓sIf, ↓sExpr, ↓sSkip, ↓sNever, ↓sPar, ↓sFor, ↓sSub, ↓fVar, ↓fC, ↓fNil, ↓fCons, ↓fA, ↓f1, ↓f2, ↓fB, ↓fIf, ↓fNeg, ↓fNot, ↓fAnd, ↓fOr, ↓bNot, ↓bAnd, ↓bOr, ↓bYes, ↓obnd_x, ob_some, ↓sbnd_x, sb_some, ↓ite_x, iteK_t, iteK_f, gN, gT, gC, gE, ↓rng1I, ↓rng2I, ↓seqI, ↓enumA, ↓zipI, ↓strI, ↓fLc, ↓fDc, ↓fM, ↓fSl, ↓oNone, ↓oSome, ↓fRev, wipeE, ↓kwM, permM, permL, List.foldr, List.length_cons, List.length_nil, List.map_cons, List.map_nil, List.cons_append, List.nil_append, List.replicate, List.replicate_succ, List.replicate_zero, List.getElem?_cons_zero, List.getElem?_cons_succ, List.set_cons_zero, List.set_cons_succ, if_true, if_false, reduceIte, Nat.reduceAdd, Nat.reduceSub, Nat.reduceEqDiff, Nat.reduceLT, Nat.reduceLeDiff, Int.reduceLT, Int.reduceLE, Int.reduceNeg, Int.reduceMul, Int.reduceAdd, Int.reduceSub, Int.reduceToNat, Int.reducePow, Int.reduceEq, ok, bok, deref, mkL, lstW, tupW, dats, Option.map_some, appendW, insertW, setL, isL, listW, tupleW, lenW, absW, intC, maxW, minW, idxW, addW, subW_e, modW_e, divW_e, powW_e, mulW, intW, lt_e, gt_e, le_e, ge_e, ltW, allW_e, anyW_e, sumW_e, lW, setW, lstAt, cutW, backW, isW, isiW, iLT_none, iLT_bool, iLT_int, iLT_str, iLT_list, iLT_tup, iL_none, iL_bool, iL_int, iL_str, iL_list, iL_tup, iT_none, iT_bool, iT_int, iT_str, iT_list, iT_tup, iS_none, iS_bool, iS_int, iS_str, iS_list, iS_tup, iI_none, iI_bool, iI_int, iI_str, iI_list, iI_tup, iB_none, iB_bool, iB_int, iB_str, iB_list, iB_tup, Bool.false_eq_true, reduceCtorEq, Bool.not_true, Bool.not_false, decide_true, decide_false, List.zip_cons_cons, List.zip_nil_left, List.foldl_cons, List.foldl_nil, and_self, and_true, true_and, Bool.and_true, Bool.true_and, Bool.or_true, Bool.true_or, *])
noncomputable def m_choices : FM := fnM false 2 4 (sSeq (sIf (bNot (fB (fChain le_W le_W (fC (.int 0)) (fVar 1) (fVar 0)))) (sRet (fC (.int 0))) (sSkip))
    (sSeq (sAsg (fC (.int 1)) (gN 2))
    (sSeq (sFor (rng1I (fCons (fVar 1) (fNil))) (gN 3)
    (sAsg (f2 divW (f2 (mulW false) (fVar 2) (f2 subW (fVar 0) (fVar 3))) (f2 (addW false) (fVar 3) (fC (.int 1)))) (gN 2)))
    (sRet (fVar 2)))))
noncomputable def m__law_all_rows : FM := fnM false 1 6 (sSeq (sAsg (fA (lstW false) (fCons (fA tupW (fNil)) (fNil))) (gN 1))
    (sSeq (sFor (rng1I (fCons (fA lenW (fCons (fVar 0) (fNil))) (fNil))) (gN 2)
    (sSeq (sAsg (fA (lstW true) (fNil)) (gN 3))
    (sSeq (sFor (seqI (fVar 1)) (gN 4)
    (sExpr (fM isL extendW (fVar 3) (fCons (fLc false (seqI (fVar 0)) (gN 5) (fB (f2 (inW true) (fVar 5) (fVar 4))) (f2 (addW false) (fVar 4) (fA tupW (fCons (fVar 5) (fNil)))) [5]) (fNil)))))
    (sFrz 3 (sAsg (fVar 3) (gN 1))))))
    (sRet (fVar 1))))
noncomputable def m__law_all_calls : FM := fnM false 1 6 (sSeq (sAsg (fA (lstW false) (fCons (fA tupW (fNil)) (fNil))) (gN 1))
    (sSeq (sFor (seqI (fVar 0)) (gN 2)
    (sSeq (sAsg (fA (lstW true) (fNil)) (gN 3))
    (sSeq (sFor (seqI (fVar 1)) (gN 4)
    (sExpr (fM isL extendW (fVar 3) (fCons (fLc false (seqI (fVar 0)) (gN 5) (bYes) (f2 (addW false) (fVar 4) (fA tupW (fCons (fA tupW (fCons (fVar 2) (fCons (fVar 5) (fNil)))) (fNil)))) [5]) (fNil)))))
    (sFrz 3 (sAsg (fVar 3) (gN 1))))))
    (sRet (fVar 1))))
noncomputable def m__law_power : FM := fnM false 2 4 (sSeq (sAsg (fC (.int 1)) (gN 2))
    (sSeq (sFor (rng1I (fCons (fVar 1) (fNil))) (gN 3)
    (sAsg (f2 (mulW false) (fVar 2) (fVar 0)) (gN 2)))
    (sRet (fVar 2))))
noncomputable def m_words_many : FM := fnM false 3 7 (sSeq (sPar (fCons (fA lenW (fCons (fVar 0) (fNil))) (fCons (fC (.int 1)) (fNil))) [5, 6])
    (sSeq (sAsg (fA (m_falls) (fCons (fVar 0) (fCons (fVar 1) (fNil)))) (gN 3))
    (sSeq (sFor (rng1I (fCons (fVar 2) (fNil))) (gN 4)
    (sAug gMul 6 (fVar 5)))
    (sRet (fA (m_choices) (fCons (f2 subW (f2 subW (f2 (addW false) (fVar 6) (fVar 5)) (fC (.int 1))) (fVar 3)) (fCons (fVar 5) (fNil))))))))
noncomputable def m__law_right : FM := fnM false 1 12 (sSeq (sAsg (fA (m__law_names) (fCons (fVar 0) (fCons (fC (.int 4)) (fNil)))) (gN 1))
    (sSeq (sPar (fCons (fA (m__law_all_rows) (fCons (fVar 1) (fNil))) (fCons (fA (m__law_all_calls) (fCons (fVar 1) (fNil))) (fNil))) [8, 9])
    (sSeq (sAsg (fDictK (seqI (fVar 8)) (gN 3) (fA tupX (fCons (fVar 3) (fCons (fDnT) (fNil)))) [3]) (gN 2))
    (sSeq (sFor (seqI (fVar 8)) (gN 3)
    (sFor (seqI (fVar 9)) (gN 10)
    (sSeq (sAsg (fA (m__law_called) (fCons (fVar 3) (fCons (fVar 10) (fNil)))) (gN 7))
    (sPutT (f2 (addW false) (fGet (f2 idxK (fVar 2) (fVar 3)) (fVar 7) (fC (.int 0))) (fC (.int 1))) (f2 idxK (fVar 2) (fVar 3)) (fVar 7)))))
    (sFrzK 2 (sSeq (sAsg (fA (m__law_pick) (fCons (fVar 0) (fCons (fVar 8) (fNil)))) (gN 4))
    (sSeq (sAsg (fA dictTW (fCons (fLc false (seqI (fVar 8)) (gN 3) (bYes) (fA tupW (fCons (fVar 3) (fCons (fA intC (fCons (f2 (eqW false) (fVar 3) (fVar 4)) (fNil))) (fNil)))) [3]) (fNil))) (gN 5))
    (sSeq (sFor (rng1I (fCons (f2 (addW false) (fC (.int 2)) (fA (m__law_take) (fCons (fVar 0) (fCons (fC (.int 4)) (fNil))))) (fNil))) (gN 6)
    (sSeq (sIf (bNot (fB (fA (m__law_same 12) (fCons (fLc false (seqI (fVar 8)) (gN 3) (bYes) (fA (m_words_many) (fCons (fVar 4) (fCons (fVar 3) (fCons (fVar 6) (fNil))))) [3]) (fCons (fLc false (seqI (fVar 8)) (gN 3) (bYes) (f2 idxW (fVar 5) (fVar 3)) [3]) (fNil)))))) (sRet (fC (.bool false))) (sSkip))
    (sSeq (sIf (fB (f2 (eqW true) (fA sumW (fCons (fListVX false (fVar 5)) (fNil))) (fA (m__law_power) (fCons (fA lenW (fCons (fVar 9) (fNil))) (fCons (fVar 6) (fNil)))))) (sRet (fC (.bool false))) (sSkip))
    (sSeq (sAsg (fA dictTW (fCons (fLc false (seqI (fVar 8)) (gN 3) (bYes) (fA tupW (fCons (fVar 3) (fCons (fC (.int 0)) (fNil)))) [3]) (fNil))) (gN 11))
    (sSeq (sFor (seqI (fVar 8)) (gN 3)
    (sFor (keysTI (f2 idxK (fVar 2) (fVar 3))) (gN 7)
    (sPutT (f2 (addW false) (f2 idxW (fVar 11) (fVar 7)) (f2 (mulW false) (f2 idxW (fVar 5) (fVar 3)) (f2 idxW (f2 idxK (fVar 2) (fVar 3)) (fVar 7)))) (fVar 11) (fVar 7))))
    (sAsg (fVar 11) (gN 5)))))))
    (sSeq (sAsg (fA (m__law_pick) (fCons (fVar 0) (fCons (fVar 8) (fNil)))) (gN 7))
    (sRet (fA (m__law_same 12) (fCons (fA (kwM 3 [2, 1, 0] (m_words_many)) (fCons (fC (.int 1)) (fCons (fA (listW false) (fCons (fVar 7) (fNil))) (fCons (fA (listW false) (fCons (fVar 4) (fNil))) (fNil))))) (fCons (fGet (f2 idxK (fVar 2) (fVar 4)) (fVar 7) (fC (.int 0))) (fNil))))))))))))))
noncomputable def m_law : FM := fnM false 1 3 (sSeq (sAsg (fA (m__law_folded) (fCons (fVar 0) (fCons (fC (.int 3)) (fNil)))) (gN 1))
    (sRet (fA allW (fCons (fLc false (rng1I (fCons (fA lenW (fCons (fVar 1) (fNil))) (fNil))) (gN 2) (bYes) (fA (m__law_right) (fCons (fA (m__law_box) (fCons (fVar 1) (fCons (fVar 2) (fNil)))) (fNil))) [2]) (fNil)))))
def code (F m : List Str) : List Nat := m.map F.idxOf
theorem falls_step (r : List Str) (a b : Str) (m : List Str) : fallsN r (a :: b :: m) = (if r.idxOf b < r.idxOf a then 1 else 0) + fallsN r (b :: m) := by
  unfold fallsN
  show ((((a, b) :: (b :: m).zip m).filter fun p => decide (r.idxOf p.2 < r.idxOf p.1)).length) = _ + (((b :: m).zip m).filter fun p => decide (r.idxOf p.2 < r.idxOf p.1)).length
  rw [List.filter_cons]
  by_cases z : r.idxOf b < r.idxOf a
  · simp [z]; omega
  · simp [z]
theorem falls_des (F : List Str) : ∀ m : List Str, fallsN F m = desL (code F m)
  | [] => rfl
  | [a] => rfl
  | a :: b :: m => by
    rw [falls_step, falls_des F (b :: m)]
    show _ = (bif Nat.blt (F.idxOf b) (F.idxOf a) then 1 else 0) + desL (code F (b :: m))
    congr 1
    by_cases z : F.idxOf b < F.idxOf a
    · rw [if_pos z, show Nat.blt (F.idxOf b) (F.idxOf a) = true by simpa [Nat.blt_eq] using z]; rfl
    · rw [if_neg z]
      cases hb : Nat.blt (F.idxOf b) (F.idxOf a) with
      | false => rfl
      | true => exact absurd (by simpa [Nat.blt_eq] using hb) z
theorem pos_code {F : List Str} {x : Str} (hx : x ∈ F) : ∀ {m : List Str}, (∀ s ∈ m, s ∈ F) → posL (code F m) (F.idxOf x) = m.idxOf x
  | [], _ => rfl
  | a :: m, h => by
    have ih := pos_code hx (m := m) fun s hs => h s (List.mem_cons_of_mem _ hs)
    show (bif Nat.beq (F.idxOf a) (F.idxOf x) then 0 else posL (code F m) (F.idxOf x) + 1) = _
    rw [ih, List.idxOf_cons]
    by_cases z : a = x
    · subst z; simp
    · have : Nat.beq (F.idxOf a) (F.idxOf x) = false := by
        cases hb : Nat.beq (F.idxOf a) (F.idxOf x) with
        | false => rfl
        | true => exact absurd (idx_inj (h a List.mem_cons_self) hx (Nat.eq_of_beq_eq_true hb)) z
      rw [this, show (a == x) = false by simpa using z]
theorem rel_code {F m : List Str} (hm : ∀ s ∈ m, s ∈ F) {e : List Str} (he : ∀ s ∈ e, s ∈ F) : relL (code F e) (code F m) = code m e := by
  unfold relL
  show (e.map F.idxOf).map (posL (code F m)) = e.map m.idxOf
  rw [List.map_map]
  exact List.map_congr_left fun x hx => pos_code (he x hx) hm
theorem back_code {F m : List Str} (hm : ∀ s ∈ m, s ∈ F) : (code F m).map (fun i => F.getD i "") = m := by
  unfold code
  rw [List.map_map]
  have : m.map ((fun i => F.getD i "") ∘ F.idxOf) = m.map id := List.map_congr_left fun x hx => idx_back (hm x hx)
  rw [this, List.map_id]
theorem code_mem {F l m : List Str} {n : Nat} (pF : F.Perm l) (nF : F.Nodup) (hn : F.length = n) (h : m ∈ lvG l n) : code F m ∈ allN n := by
  obtain ⟨n1, l1, m1⟩ := mem_lvG.mp h
  refine mem_allN.mpr ⟨?_, by rw [code, List.length_map, l1], fun x hx => ?_⟩
  · unfold code
    rw [List.Nodup, List.pairwise_map]
    exact List.Pairwise.imp_of_mem (fun {a b} ha hb q z => q (idx_inj (pF.mem_iff.mpr (m1 a ha)) (pF.mem_iff.mpr (m1 b hb)) z)) n1
  · obtain ⟨s, hs, rfl⟩ := List.mem_map.mp hx
    rw [← hn]
    exact List.idxOf_lt_length_of_mem (pF.mem_iff.mpr (m1 s hs))
theorem codes_perm {F l : List Str} {n : Nat} (pF : F.Perm l) (nF : F.Nodup) (hn : F.length = n) : ((lvG l n).map (code F)).Perm (allN n) := by
  have nl : l.Nodup := pF.nodup_iff.mp nF
  have nd : ((lvG l n).map (code F)).Nodup := by
    rw [List.Nodup, List.pairwise_map]
    refine List.Pairwise.imp_of_mem (fun {a b} ha hb q z => q ?_) (nodup_lvG nl n)
    rw [← back_code (F := F) (m := a) fun s hs => pF.mem_iff.mpr ((mem_lvG.mp ha).2.2 s hs), ← back_code (F := F) (m := b) fun s hs => pF.mem_iff.mpr ((mem_lvG.mp hb).2.2 s hs), z]
  rw [List.perm_ext_iff_of_nodup nd (nodup_allN n)]
  intro q
  constructor
  · intro h
    obtain ⟨m, hm, rfl⟩ := List.mem_map.mp h
    exact code_mem pF nF hn hm
  · intro h
    obtain ⟨n1, l1, m1⟩ := mem_allN.mp h
    have e : code F (q.map fun i => F.getD i "") = q := by
      unfold code
      rw [List.map_map]
      have : q.map (F.idxOf ∘ fun i => F.getD i "") = q.map id := List.map_congr_left fun i hi => by
        have hi' : i < F.length := by rw [hn]; exact m1 i hi
        show F.idxOf (F.getD i "") = i
        rw [getD_at hi', idx_of nF hi']
      rw [this, List.map_id]
    refine List.mem_map.mpr ⟨q.map fun i => F.getD i "", mem_lvG.mpr ⟨?_, by rw [List.length_map, l1], fun x hx => ?_⟩, e⟩
    · rw [List.Nodup, List.pairwise_map]
      refine List.Pairwise.imp_of_mem (fun {a b} ha hb q' z => q' ?_) n1
      have ha' : a < F.length := by rw [hn]; exact m1 a ha
      have hb' : b < F.length := by rw [hn]; exact m1 b hb
      rw [← idx_of nF ha', ← idx_of nF hb', ← getD_at ha', ← getD_at hb', z]
    · obtain ⟨i, hi, rfl⟩ := List.mem_map.mp hx
      exact pF.mem_iff.mp (getD_in (by rw [hn]; exact m1 i hi))
theorem sum_codes {F l : List Str} {n : Nat} (pF : F.Perm l) (nF : F.Nodup) (hn : F.length = n) (g : List Nat → Nat) : sumL ((lvG l n).map fun m => g (code F m)) = sumL ((allN n).map g) := by
  have := sumL_perm ((codes_perm pF nF hn).map g)
  rwa [List.map_map] at this
theorem sum_ints : ∀ ns : List Nat, (ns.map fun n : Nat => (n : Int)).sum = (sumL ns : Int)
  | [] => rfl
  | n :: ns => by rw [List.map_cons, List.sum_cons, sum_ints ns]; rfl
theorem intsD_map : ∀ ns : List Int, intsD (ns.map .int) = some ns
  | [] => rfl
  | n :: ns => by
    rw [List.map_cons, intsD, intsD_map ns]
    rfl
theorem rows_ints {β : Type} (xs : List β) (g : β → Nat) : intsD (xs.map fun m => PyData.int (g m : Int)) = some (xs.map fun m => (g m : Int)) := by
  have e := intsD_map (xs.map fun m => (g m : Int))
  rw [List.map_map] at e
  exact e
theorem rows_sum {β : Type} (xs : List β) (g : β → Nat) : (xs.map fun m => (g m : Int)).sum = (sumL (xs.map g) : Int) := by
  have es := sum_ints (xs.map g)
  rw [List.map_map] at es
  exact es
section
variable {n : Nat} (h0 : 0 < n) (h5 : n ≤ 5)
include h0 h5
theorem chk_parts : chkH n = true ∧ chkS n = true ∧ chkC n = true ∧ chkR n = true ∧ chkL n = true := by
  have := chkA_all h0 h5
  unfold chkA at this
  simp only [Bool.and_eq_true] at this
  exact ⟨this.1.1.1.1, this.1.1.1.2, this.1.1.2, this.1.2, this.2⟩
theorem sum_few {a : Nat} (ha : a < 4) : sumL ((allN n).map fun q => tW n a (desL q)) = n ^ (n * a) := by
  have h := (chk_parts h0 h5).2.2.1
  unfold chkC at h
  simp only [Bool.and_eq_true, List.all_eq_true, beq_iff_eq] at h
  exact h.2 a (by simpa using ha)
theorem all_len : (allN n).length ≤ 120 := by
  have h := (chk_parts h0 h5).2.2.2.2
  unfold chkL at h
  simp only [Bool.and_eq_true, decide_eq_true_eq] at h
  exact h.1
theorem des_lt {q : List Nat} (hq : q ∈ allN n) : desL q < n ∧ ∀ a, a < 4 → tW n a (desL q) < 1000000000 := by
  have h := (chk_parts h0 h5).2.2.2.2
  unfold chkL at h
  simp only [Bool.and_eq_true, List.all_eq_true, Nat.blt_eq] at h
  exact ⟨(h.2 q hq).1, fun a ha => (h.2 q hq).2 a (by simpa using ha)⟩
theorem sum_mid {e : List Nat} (he : e ∈ allN n) (hr : ∀ q ∈ allN n, desL (relL e q) < 5) {a b : Nat} (ha : a < 4) (hb : b < 4) : sumL ((allN n).map fun q => tW n a (desL q) * tW n b (desL (relL e q))) = tW n (a + b) (desL e) := by
  have hH := (chk_parts h0 h5).1
  have hS := (chk_parts h0 h5).2.1
  unfold chkH at hH
  unfold chkS at hS
  simp only [List.all_eq_true, beq_iff_eq] at hH hS
  have ln := all_len h0 h5
  have pm := hash_perm (L := codL n e) (K := codL n (repL n (desL e))) (by unfold codL; rw [List.length_map]; omega) (by unfold codL; rw [List.length_map]; omega) (hH e he)
  have s := sumL_perm (pm.map fun c => tW n a (c / 5) * tW n b (c % 5))
  rw [hS (desL e) (by simpa using (des_lt h0 h5 he).1) a (by simpa using ha) b (by simpa using hb)] at s
  rw [← s]
  unfold codL
  rw [List.map_map]
  congr 1
  apply List.map_congr_left
  intro q hq
  have := hr q hq
  show _ = tW n a ((5 * desL q + desL (relL e q)) / 5) * tW n b ((5 * desL q + desL (relL e q)) % 5)
  rw [show (5 * desL q + desL (relL e q)) / 5 = desL q by omega, show (5 * desL q + desL (relL e q)) % 5 = desL (relL e q) by omega]
end
noncomputable def powB : SM := (sAsg (f2 (mulW false) (fVar 2) (fVar 0)) (gN 2))
theorem pow_turn {B r : Int} {v1 v3 : Option W} {h : Hh} (b0 : -18446744073709551616 < B) (b1 : B < 18446744073709551616) : powB [some (.dat (.int B)), v1, some (.dat (.int r)), v3] h = some (.nx [some (.dat (.int B)), v1, some (.dat (.int (r * B))), v3], h) := by
  have gm : (decide (-18446744073709551616 < r) && decide (r < 18446744073709551616) || decide (-18446744073709551616 < B) && decide (B < 18446744073709551616)) = true := by simp [b0, b1]
  unfold powB
  clear b0 b1
  walk_at "dl"
theorem loop_pow {body : SM} {k : TM} {n B : Nat} {h : Hh} {ds : List D} (E : Nat → Option W → DL.Env) (tn : ∀ (j : Nat) (d : D) (v : Option W), ∃ ρ1, k (.dat d) (E j v) h = some ρ1 ∧ ∃ v', body ρ1 h = some (.nx (E (j + 1) v'), h)) (v : Option W) (hn : ds.length = n) : ∃ v', forL k body ds (E 0 v) h = some (.nx (E n v'), h) := by
  obtain ⟨ρ', h', e, rfl, v', rfl⟩ := forL_end (k := k) (body := body) (fun j ρ g => g = h ∧ ∃ v, ρ = E j v) (ds := ds) (ρ := E 0 v) (h := h) ⟨rfl, v, rfl⟩ (by
    rintro j d ej ρ g ⟨rfl, v, rfl⟩
    obtain ⟨ρ1, e1, v', e2⟩ := tn j d v
    exact ⟨ρ1, _, g, e1, e2, rfl, v', rfl⟩)
  rw [hn] at e
  exact ⟨v', e⟩
theorem cast_pow (b j : Nat) : ((b ^ j : Nat) : Int) * (b : Int) = ((b ^ (j + 1) : Nat) : Int) := by rw [Nat.pow_succ, Int.natCast_mul]
theorem power_ok {B z : Nat} {h : Hh} (hB : B ≤ 1000) (hz : z ≤ 1000) : m__law_power [.dat (.int (B : Int)), .dat (.int (z : Int))] h = some (.dat (.int ((B ^ z : Nat) : Int)), h) := by
  obtain ⟨v', e⟩ := loop_pow (body := powB) (k := gN 3) (n := z) (B := B) (h := h) (ds := rngD 0 z) (fun j v => [some (.dat (.int (B : Int))), some (.dat (.int (z : Int))), some (.dat (.int ((B ^ j : Nat) : Int))), v]) (fun j d v => by
    have et := pow_turn (B := (B : Int)) (r := ((B ^ j : Nat) : Int)) (v1 := some (.dat (.int (z : Int)))) (v3 := some (.dat d)) (h := h) (by omega) (by omega)
    rw [cast_pow] at et
    exact ⟨_, rfl, some (.dat d), et⟩) none (rng_len z)
  have e' : forL (gN 3) powB (rngD 0 z) [some (.dat (.int (B : Int))), some (.dat (.int (z : Int))), some (.dat (.int 1)), none] h = some (.nx [some (.dat (.int (B : Int))), some (.dat (.int (z : Int))), some (.dat (.int ((B ^ z : Nat) : Int))), v'], h) := e
  have b0 : (-1000000000 : Int) ≤ (z : Int) := by omega
  have b1 : (z : Int) ≤ 1000000000 := by omega
  have b2 : (z : Int).toNat = z := rfl
  have lv := leave_same' (h := h) (d := .int ((B ^ z : Nat) : Int))
  unfold powB at e'
  unfold m__law_power
  generalize ((B ^ z : Nat) : Int) = P at *
  clear e hB hz
  walk_at "dl"
noncomputable def chB : SM := (sAsg (f2 divW (f2 (mulW false) (fVar 2) (f2 subW (fVar 0) (fVar 3))) (f2 (addW false) (fVar 3) (fC (.int 1)))) (gN 2))
theorem ch_turn {N r t a d q : Int} {v1 : Option W} {h : Hh} (ha : N - t = a) (hd : t + 1 = d) (a0 : -18446744073709551616 < a) (a1 : a < 18446744073709551616) (d0 : decide (0 < d ∧ d < 1073741824) = true) (hq : r * a / d = q) : chB [some (.dat (.int N)), v1, some (.dat (.int r)), some (.dat (.int t))] h = some (.nx [some (.dat (.int N)), v1, some (.dat (.int q)), some (.dat (.int t))], h) := by
  have gm : (decide (-18446744073709551616 < r) && decide (r < 18446744073709551616) || decide (-18446744073709551616 < a) && decide (a < 18446744073709551616)) = true := by simp [a0, a1]
  unfold chB
  clear a0 a1
  walk_at "dl"
theorem choices_run {N n q : Int} {m : Nat} {IT : List D} {v' : Option W} {h : Hh} (d1 : decide (0 ≤ n) = true) (d2 : decide (n ≤ N) = true) (b0 : -1000000000 ≤ n) (b1 : n ≤ 1000000000) (hm : n.toNat = m) (hi : rngD 0 m = IT) (e : forL (gN 3) chB IT [some (.dat (.int N)), some (.dat (.int n)), some (.dat (.int 1)), none] h = some (.nx [some (.dat (.int N)), some (.dat (.int n)), some (.dat (.int q)), v'], h)) : m_choices [.dat (.int N), .dat (.int n)] h = some (.dat (.int q), h) := by
  have lv := leave_same' (h := h) (d := .int q)
  unfold chB at e
  unfold m_choices fChain
  walk_at "dl"
noncomputable def wmB : SM := (sAug gMul 6 (fVar 5))
theorem wm_turn {r s : Int} {v0 v1 v2 v3 v4 : Option W} {h : Hh} (b0 : -18446744073709551616 < s) (b1 : s < 18446744073709551616) : wmB [v0, v1, v2, v3, v4, some (.dat (.int s)), some (.dat (.int r))] h = some (.nx [v0, v1, v2, v3, v4, some (.dat (.int s)), some (.dat (.int (r * s)))], h) := by
  have g : gMul r s = some (r * s) := by
    unfold gMul
    rw [if_pos]
    simp only [Bool.or_eq_true, Bool.and_eq_true, decide_eq_true_eq]
    exact .inr ⟨b0, b1⟩
  unfold wmB sAug
  clear b0 b1
  walk_at "dl"
theorem wm_run {X Y : D} {XL : List D} {z s f P A q : Int} {m : Nat} {v' : Option W} {IT : List D} {h : Hh} (hX : X = .tuple XL) (hs : (XL.length : Int) = s) (e1 : m_falls [.dat X, .dat Y] h = some (.dat (.int f), h)) (b0 : -1000000000 ≤ z) (b1 : z ≤ 1000000000) (hm : z.toNat = m) (hi : rngD 0 m = IT) (e2 : forL (gN 4) wmB IT [some (.dat X), some (.dat Y), some (.dat (.int z)), some (.dat (.int f)), none, some (.dat (.int s)), some (.dat (.int 1))] h = some (.nx [some (.dat X), some (.dat Y), some (.dat (.int z)), some (.dat (.int f)), v', some (.dat (.int s)), some (.dat (.int P))], h)) (hA : P + s - 1 - f = A) (e3 : m_choices [.dat (.int A), .dat (.int s)] h = some (.dat (.int q), h)) : m_words_many [.dat X, .dat Y, .dat (.int z)] h = some (.dat (.int q), h) := by
  have lv := leave_same' (h := h) (d := .int q)
  subst hX
  unfold wmB at e2
  unfold m_words_many
  walk_at "dl"
theorem ch_loopN {N n : Nat} {h : Hh} (hN : N ≤ 1000000) (hn : n ≤ N) : ∃ v', forL (gN 3) chB (rngD 0 n) [some (.dat (.int (N : Int))), some (.dat (.int (n : Int))), some (.dat (.int 1)), none] h = some (.nx [some (.dat (.int (N : Int))), some (.dat (.int (n : Int))), some (.dat (.int (lp N n : Int))), v'], h) := by
  obtain ⟨ρ', h', e, rfl, v', rfl⟩ := forL_end (k := gN 3) (body := chB) (fun j ρ g => g = h ∧ ∃ v : Option W, ρ = [some (.dat (.int (N : Int))), some (.dat (.int (n : Int))), some (.dat (.int (lp N j : Int))), v]) (ds := rngD 0 n) (ρ := [some (.dat (.int (N : Int))), some (.dat (.int (n : Int))), some (.dat (.int 1)), none]) (h := h) ⟨rfl, none, rfl⟩ (by
    rintro j d ej ρ g ⟨rfl, v, rfl⟩
    obtain ⟨hj, rfl⟩ := rng_get ej
    have hq : (lp N j : Int) * ((N - j : Nat) : Int) / ((j + 1 : Nat) : Int) = (lp N (j + 1) : Int) := by
      rw [lp, ← Int.natCast_mul]; rfl
    have et := ch_turn (N := (N : Int)) (r := (lp N j : Int)) (t := (j : Int)) (a := ((N - j : Nat) : Int)) (d := ((j + 1 : Nat) : Int)) (q := (lp N (j + 1) : Int)) (v1 := some (.dat (.int (n : Int)))) (h := g) (by omega) (by omega) (by omega) (by omega) (by simp; omega) hq
    exact ⟨_, _, g, rfl, et, rfl, _, rfl⟩)
  rw [rng_len] at e
  exact ⟨v', e⟩
theorem choices_none {N n : Int} {h : Hh} (d1 : decide (0 ≤ n) = true) (d2 : decide (n ≤ N) = false) : m_choices [.dat (.int N), .dat (.int n)] h = some (.dat (.int 0), h) := by
  have lv := leave_same' (h := h) (d := .int 0)
  unfold m_choices fChain
  walk_at "dl"
theorem lp_gt {N : Nat} : ∀ {n : Nat}, N < n → lp N n = 0
  | n + 1, h => by
    rw [lp]
    by_cases z : N = n
    · subst z; rw [Nat.sub_self, Nat.mul_zero, Nat.zero_div]
    · rw [lp_gt (show N < n by omega), Nat.zero_mul, Nat.zero_div]
theorem choicesN {N n : Nat} {h : Hh} (hN : N ≤ 1000000) (hn : n ≤ 1000000) : m_choices [.dat (.int (N : Int)), .dat (.int (n : Int))] h = some (.dat (.int (lp N n : Int)), h) := by
  by_cases z : n ≤ N
  · obtain ⟨v', e⟩ := ch_loopN (h := h) hN z
    exact choices_run (m := n) (by simp) (by simp; exact z) (by omega) (by omega) rfl rfl e
  · rw [lp_gt (by omega)]
    exact choices_none (by simp) (by simp; omega)
theorem falls_topN {r m : List Str} : fallsN r m ≤ m.length - 1 := by rw [← strN_top]; exact strN_ix r m _
theorem wordsN {F R : List Str} {z n : Nat} {h : Hh} (p : F.Perm R) (nF : F.Nodup) (tF : Txts F) (hn : F.length = n) (h0 : 0 < n) (hl : n ≤ 5) (hz : z ≤ 6) : m_words_many [.dat (rowT F), .dat (rowT R), .dat (.int (z : Int))] h = some (.dat (.int (tW n z (fallsN F R) : Int)), h) := by
  have e1 := falls_ok (h := h) (x := rowT F) (y := rowT R) (.inr rfl) (.inr rfl) p nF (by omega) tF
  have fb := falls_topN (r := F) (m := R)
  have lR := p.length_eq
  obtain ⟨v', e2⟩ := loop_pow (body := wmB) (k := gN 4) (n := z) (B := n) (h := h) (ds := rngD 0 z) (fun j v => [some (.dat (rowT F)), some (.dat (rowT R)), some (.dat (.int (z : Int))), some (.dat (.int (fallsN F R : Int))), v, some (.dat (.int (n : Int))), some (.dat (.int ((n ^ j : Nat) : Int)))]) (fun j d v => by
    have et := wm_turn (r := ((n ^ j : Nat) : Int)) (s := (n : Int)) (v0 := some (.dat (rowT F))) (v1 := some (.dat (rowT R))) (v2 := some (.dat (.int (z : Int)))) (v3 := some (.dat (.int (fallsN F R : Int)))) (v4 := some (.dat d)) (h := h) (by omega) (by omega)
    rw [cast_pow] at et
    exact ⟨_, rfl, some (.dat d), et⟩) none (rng_len z)
  have pl : n ^ z ≤ 5 ^ 6 := Nat.le_trans (Nat.pow_le_pow_left hl z) (Nat.pow_le_pow_right (by omega) hz)
  have pp : 0 < n ^ z := Nat.pow_pos h0
  have e3 := choicesN (h := h) (N := n ^ z + n - 1 - fallsN F R) (n := n) (by omega) (by omega)
  exact wm_run (X := rowT F) (Y := rowT R) (s := (n : Int)) (P := ((n ^ z : Nat) : Int)) (A := ((n ^ z + n - 1 - fallsN F R : Nat) : Int)) (m := z) rfl (by rw [List.length_map, hn]) e1 (by omega) (by omega) rfl rfl (by exact e2) (by omega) e3
noncomputable def inB : SM := (sExpr (fM isL extendW (fVar 3) (fCons (fLc false (seqI (fVar 0)) (gN 5) (fB (f2 (inW true) (fVar 5) (fVar 4))) (f2 (addW false) (fVar 4) (fA tupW (fCons (fVar 5) (fNil)))) [5]) (fNil))))
noncomputable def outB : SM := (sSeq (sAsg (fA (lstW true) (fNil)) (gN 3))
    (sSeq (sFor (seqI (fVar 1)) (gN 4)
    (sExpr (fM isL extendW (fVar 3) (fCons (fLc false (seqI (fVar 0)) (gN 5) (fB (f2 (inW true) (fVar 5) (fVar 4))) (f2 (addW false) (fVar 4) (fA tupW (fCons (fVar 5) (fNil)))) [5]) (fNil)))))
    (sFrz 3 (sAsg (fVar 3) (gN 1)))))
theorem in_turn {x : W} {l r : List Str} {acc : List D} {p : Nat} {v1 v2 : Option W} {g : Hh} (hx : x = .dat (.list (l.map .str))) (hg : g[p]? = some (some (.lst acc))) (hr : r.length ≤ 1000) (hl : acc.length + ((moreR l r).map rowT).length ≤ sizeLine) :
    inB [some x, v1, v2, some (.ref p), some (.dat (rowT r)), none] g = some (.nx [some x, v1, v2, some (.ref p), some (.dat (rowT r)), none], g.set p (some (.lst (acc ++ (moreR l r).map rowT)))) := by
  have e1 := more_lc (x := x) (cr := l) (r := r) (v1 := v1) (v2 := v2) (v3 := some (.ref p)) (h := g) hr
  have l1 : ((moreR l r).map rowT).length ≤ sizeLine := by omega
  have f1 : isL (.ref p) g = true := by unfold isL; simp only [deref, hg]
  have f2' : extendW (.ref p) [.dat (.list ((moreR l r).map rowT))] g = some (.dat .none, g.set p (some (.lst (acc ++ (moreR l r).map rowT)))) := by
    unfold extendW lstAt setL
    simp only [hg, hl, if_true]
  subst hx
  unfold inB
  clear hr hl
  generalize (moreR l r).map rowT = ML at *
  walk_at "dl"
theorem all_rowsN {l : List Str} {h : Hh} {n : Nat} (hn : l.length = n) (hl : n ≤ 5) (nd : l.Nodup) : m__law_all_rows [.dat (.list (l.map .str))] h = some (.dat (.list ((lvG l n).map rowT)), h) := by
  have sz : sizeLine = 16777216 := rfl
  have lev : ∀ k, k ≤ n → (lvG l k).length ≤ 5 ^ k := by
    intro k
    induction k with
    | zero => intro _; exact Nat.le_refl _
    | succ k ih =>
      intro hk
      have ih := ih (by omega)
      rw [lvG]
      have : ∀ L : List (List Str), (L.flatMap fun s => (l.filter fun x => decide (x ∉ s)).map fun x => s ++ [x]).length ≤ L.length * 5 := by
        intro L
        induction L with
        | nil => exact Nat.zero_le _
        | cons s L ihL =>
          rw [List.flatMap_cons, List.length_append, List.length_map, List.length_cons, Nat.succ_mul]
          have := List.length_filter_le (fun x => decide (x ∉ s)) l
          omega
      rw [Nat.pow_succ]
      exact Nat.le_trans (this _) (Nat.mul_le_mul_right _ ih)
  obtain ⟨ρ', g', e, rows, v2, v3, v4, rfl, rfl, i3, i4, er⟩ := forL_end (k := gN 2) (body := outB) (fun j ρ g => ∃ (g' : Hh) (v2 v3 v4 : Option W), ρ = [some (.dat (.list (l.map .str))), some (.dat (.list ((lvG l j).map rowT))), v2, v3, v4, none] ∧ g = h ++ g' ∧ (∀ n, isR n v3 = false) ∧ (∀ n, isR n v4 = false) ∧ ∀ o ∈ g', o = none)
    (ds := rngD 0 n) (ρ := [some (.dat (.list (l.map .str))), some (.dat (.list [.tuple []])), none, none, none, none]) (h := h) ⟨[], none, none, none, rfl, by simp, fun _ => rfl, fun _ => rfl, fun o ho => by cases ho⟩ (by
      rintro j d ej ρ g ⟨g', v2, v3, v4, rfl, rfl, i3, i4, en⟩
      obtain ⟨hj, rfl⟩ := rng_get ej
      have lj := lev j (by omega)
      have lj1 := lev (j + 1) (by omega)
      have p5 : 5 ^ (j + 1) ≤ 5 ^ 5 := Nat.pow_le_pow_right (by omega) (by omega)
      have fm : lvG l (j + 1) = (lvG l j).flatMap (moreR l) := rfl
      have pre : ∀ k, k ≤ (lvG l j).length → (((lvG l j).take k).flatMap (moreR l)).length ≤ 5 ^ 5 := fun k hk => by
        have : (((lvG l j).take k).flatMap (moreR l)).length ≤ ((lvG l j).flatMap (moreR l)).length := by
          have e := List.take_append_drop k (lvG l j)
          have e2 : (lvG l j).flatMap (moreR l) = ((lvG l j).take k).flatMap (moreR l) ++ ((lvG l j).drop k).flatMap (moreR l) := by rw [← List.flatMap_append, e]
          rw [e2, List.length_append]; omega
        rw [← fm] at this
        omega
      obtain ⟨ρ2, g2, e2, v4', i4', rfl, rfl⟩ := forL_end (k := gN 4) (body := inB) (fun k ρ g => ∃ v4 : Option W, (∀ n, isR n v4 = false) ∧ ρ = [some (.dat (.list (l.map .str))), some (.dat (.list ((lvG l j).map rowT))), some (.dat (.int (j : Int))), some (.ref (h ++ g').length), v4, none] ∧ g = (h ++ g') ++ [some (.lst ((((lvG l j).take k).flatMap (moreR l)).map rowT))])
        (ds := (lvG l j).map rowT) (ρ := [some (.dat (.list (l.map .str))), some (.dat (.list ((lvG l j).map rowT))), some (.dat (.int (j : Int))), some (.ref (h ++ g').length), v4, none]) (h := (h ++ g') ++ [some (.lst [])]) ⟨v4, i4, rfl, rfl⟩ (by
          rintro k d ek ρ g ⟨v4, i4, rfl, rfl⟩
          rw [List.getElem?_map] at ek
          obtain ⟨r, er, rfl⟩ := Option.map_eq_some_iff.mp ek
          have hk := (List.getElem?_eq_some_iff.mp er).1
          have hr := mem_lvG.mp (List.mem_of_getElem? er)
          have ts := take_snoc er
          have p1 := pre k (by omega)
          have p2 := pre (k + 1) (by omega)
          rw [ts, List.flatMap_append, List.length_append, List.flatMap_cons, List.flatMap_nil, List.append_nil] at p2
          have et := in_turn (x := .dat (.list (l.map .str))) (l := l) (r := r) (acc := (((lvG l j).take k).flatMap (moreR l)).map rowT) (p := (h ++ g').length) (v1 := some (.dat (.list ((lvG l j).map rowT)))) (v2 := some (.dat (.int (j : Int)))) (g := (h ++ g') ++ [some (.lst ((((lvG l j).take k).flatMap (moreR l)).map rowT))]) rfl (app_get rfl) (by rw [hr.2.1]; omega) (by rw [List.length_map, List.length_map]; omega)
          rw [app_set rfl] at et
          refine ⟨_, _, _, rfl, et, some (.dat (rowT r)), fun _ => rfl, rfl, ?_⟩
          rw [ts, List.flatMap_append, List.map_append, List.flatMap_cons, List.flatMap_nil, List.append_nil])
      rw [List.length_map, List.take_length, ← fm] at e2
      have hf : frz 3 [some (.dat (.list (l.map .str))), some (.dat (.list ((lvG l j).map rowT))), some (.dat (.int (j : Int))), some (.ref (h ++ g').length), v4', none] ((h ++ g') ++ [some (.lst ((lvG l (j + 1)).map rowT))]) = some ([some (.dat (.list (l.map .str))), some (.dat (.list ((lvG l j).map rowT))), some (.dat (.int (j : Int))), some (.dat (.list ((lvG l (j + 1)).map rowT))), v4', none], (h ++ g') ++ [none]) := by
        have g1 : ((h ++ g') ++ [some (MO.lst ((lvG l (j + 1)).map rowT))])[(h ++ g').length]? = some (some (.lst ((lvG l (j + 1)).map rowT))) := app_get rfl
        have g2 : ((h ++ g') ++ [some (MO.lst ((lvG l (j + 1)).map rowT))]).set (h ++ g').length none = (h ++ g') ++ [none] := app_set rfl
        unfold frz
        simp only [List.getElem?_cons_zero, List.getElem?_cons_succ, g1, g2, List.set_cons_zero, List.set_cons_succ, List.any_cons, List.any_nil, i4', isR_dat, isR_none, Bool.or_false, isTab, Bool.false_eq_true, if_false, moD]
      refine ⟨_, [some (.dat (.list (l.map .str))), some (.dat (.list ((lvG l (j + 1)).map rowT))), some (.dat (.int (j : Int))), some (.dat (.list ((lvG l (j + 1)).map rowT))), v4', none], (h ++ g') ++ [none], rfl, ?_, g' ++ [none], _, _, _, rfl, by simp, fun _ => rfl, i4', fun o ho => ?_⟩
      · have c0 : 0 ≤ sizeLine := Nat.zero_le _
        unfold inB at e2
        unfold outB
        clear pre lj lj1 p5 fm i3 i4 i4' en ej hj lev
        generalize (lvG l (j + 1)).map rowT = N1 at *
        generalize (lvG l j).map rowT = N0 at *
        generalize h ++ g' = hh at *
        walk_at "dl"
      · rcases List.mem_append.mp ho with ho | ho
        · exact en o ho
        · exact List.mem_singleton.mp ho)
  rw [rng_len] at e
  have lv : leave false h (.dat (.list ((lvG l n).map rowT))) (h ++ rows) = some (.dat (.list ((lvG l n).map rowT)), h) := by
    have et : (h ++ rows).take h.length = h := by rw [List.take_append_of_le_length (Nat.le_refl _), List.take_length]
    rw [leave_dat (by rw [et]), et]
  obtain ⟨m, hm⟩ : ∃ m : Int, ((l.map PyData.str).length : Int) = m := ⟨_, rfl⟩
  have b0 : -1000000000 ≤ m := by omega
  have b1 : m ≤ 1000000000 := by rw [← hm, List.length_map]; omega
  have b2 : m.toNat = n := by rw [← hm, List.length_map]; omega
  have c0 : 0 ≤ sizeLine := Nat.zero_le _
  have c1 : 1 ≤ sizeLine := by omega
  unfold outB at e
  unfold m__law_all_rows
  clear lev er i3 i4 nd hl sz
  generalize (lvG l n).map rowT = NN at *
  walk_at "dl"
theorem perm_of_lv {l m : List Str} {n : Nat} (nl : l.Nodup) (hn : l.length = n) (h : m ∈ lvG l n) : m.Perm l := by
  obtain ⟨n1, l1, m1⟩ := mem_lvG.mp h
  rw [List.perm_ext_iff_of_nodup n1 nl]
  refine fun x => ⟨m1 x, fun hx => ?_⟩
  apply Classical.byContradiction
  intro q
  have := nodup_len (l := x :: m) (l' := l) (List.nodup_cons.mpr ⟨q, n1⟩) fun y hy => by
    rcases List.mem_cons.mp hy with rfl | hy
    · exact hx
    · exact m1 y hy
  rw [List.length_cons] at this
  omega
theorem plain_nums {β : Type} (g : β → Int) : ∀ xs : List β, plainDs (xs.map fun m => PyData.int (g m)) = true
  | [] => rfl
  | x :: xs => by rw [List.map_cons, plainDs, plain_nums g xs]; rfl
theorem depth_nums {β : Type} (g : β → Int) : ∀ xs : List β, PyData.depthAll (xs.map fun m => PyData.int (g m)) = 0
  | [] => rfl
  | x :: xs => by rw [List.map_cons, PyData.depthAll, depth_nums g xs]; rfl
def bin : Nat → Nat → Nat
  | _, 0 => 1
  | 0, _ + 1 => 0
  | N + 1, t + 1 => bin N t + bin N (t + 1)
theorem bin_zero (N : Nat) : bin N 0 = 1 := by cases N <;> rfl
theorem bin_gt : ∀ {N t : Nat}, N < t → bin N t = 0
  | 0, t + 1, _ => rfl
  | N + 1, t + 1, h => by rw [bin, bin_gt (show N < t by omega), bin_gt (show N < t + 1 by omega)]
theorem bin_abs : ∀ (N t : Nat), (t + 1) * bin N (t + 1) = (N - t) * bin N t
  | 0, t => by rw [bin, Nat.zero_sub, Nat.zero_mul, Nat.mul_zero]
  | N + 1, 0 => by
    have ih := bin_abs N 0
    rw [bin_zero] at ih ⊢
    rw [bin, bin_zero]
    omega
  | N + 1, s + 1 => by
    have i1 := bin_abs N (s + 1)
    have i0 := bin_abs N s
    rw [show bin (N + 1) (s + 1 + 1) = bin N (s + 1) + bin N (s + 1 + 1) from rfl, show bin (N + 1) (s + 1) = bin N s + bin N (s + 1) from rfl]
    by_cases h : s + 1 ≤ N
    · obtain ⟨d, rfl⟩ : ∃ d, N = s + 1 + d := ⟨N - (s + 1), by omega⟩
      have e1 : s + 1 + d - (s + 1) = d := by omega
      have e2 : s + 1 + d - s = d + 1 := by omega
      have e3 : s + 1 + d + 1 - (s + 1) = d + 1 := by omega
      rw [e1] at i1
      rw [e2] at i0
      rw [e3, Nat.mul_add, Nat.mul_add, i1, ← i0, ← Nat.add_mul, ← Nat.add_mul]
      congr 1
      omega
    · have z1 : bin N (s + 1) = 0 := bin_gt (by omega)
      have z2 : bin N (s + 1 + 1) = 0 := bin_gt (by omega)
      rw [z1, z2]
      by_cases h2 : s ≤ N
      · have : s = N := by omega
        subst this
        rw [show s + 1 - (s + 1) = 0 by omega, Nat.zero_mul, Nat.add_zero, Nat.mul_zero]
      · rw [bin_gt (show N < s by omega)]
        simp
def sumR (f : Nat → Nat) (a : Nat) : Nat → Nat
  | 0 => 0
  | k + 1 => sumR f a k + f (a + k)
theorem sumR_front (f : Nat → Nat) (a : Nat) : ∀ k, sumR f a (k + 1) = f a + sumR f (a + 1) k
  | 0 => by simp [sumR]
  | k + 1 => by
    rw [sumR, sumR_front f a k, sumR, show a + (k + 1) = a + 1 + k by omega]
    omega
theorem sumR_mono (f : Nat → Nat) (a : Nat) {k m : Nat} (h : k ≤ m) : sumR f a k ≤ sumR f a m := by
  induction m with
  | zero => rw [Nat.le_zero.mp h]; exact Nat.le_refl _
  | succ m ih =>
    by_cases e : k = m + 1
    · rw [e]; exact Nat.le_refl _
    · have := ih (by omega)
      rw [sumR]
      omega
theorem sumR_find (f : Nat → Nat) (a : Nat) {t : Nat} : ∀ {k : Nat}, t < sumR f a k → ∃ j, j < k ∧ sumR f a j ≤ t ∧ t < sumR f a (j + 1)
  | 0, h => by simp [sumR] at h
  | k + 1, h => by
    by_cases z : t < sumR f a k
    · obtain ⟨j, h1, h2⟩ := sumR_find f a z
      exact ⟨j, by omega, h2⟩
    · exact ⟨k, by omega, by omega, h⟩
def VQ (n : Nat) : List Nat → Nat → List Nat → Prop
  | [], _, [] => True
  | r :: R, lo, v :: vs => lo ≤ v ∧ v < n ∧ VQ n R (v + r) vs
  | _, _, _ => False
def cnt (n : Nat) : List Nat → Nat → Nat
  | [], _ => 1
  | r :: R, lo => sumR (fun v => cnt n R (v + r)) lo (n - lo)
def rk (n : Nat) : List Nat → Nat → List Nat → Nat
  | r :: R, lo, v :: vs => sumR (fun v => cnt n R (v + r)) lo (v - lo) + rk n R (v + r) vs
  | _, _, _ => 0
theorem VQ.len {n : Nat} : ∀ {R : List Nat} {lo : Nat} {vs : List Nat}, VQ n R lo vs → vs.length = R.length
  | [], _, [], _ => rfl
  | _ :: R, _, _ :: vs, h => by rw [List.length_cons, List.length_cons, VQ.len h.2.2]
  | [], _, _ :: _, h => h.elim
  | _ :: _, _, [], h => h.elim
theorem VQ.lt {n : Nat} : ∀ {R : List Nat} {lo : Nat} {vs : List Nat}, VQ n R lo vs → ∀ v ∈ vs, v < n
  | [], _, [], _, _, hv => by cases hv
  | _ :: R, _, _ :: vs, h, v, hv => by
    rcases List.mem_cons.mp hv with rfl | hv
    · exact h.2.1
    · exact VQ.lt h.2.2 v hv
  | [], _, _ :: _, h, _, _ => h.elim
  | _ :: _, _, [], h, _, _ => h.elim
theorem rk_lt {n : Nat} : ∀ {R : List Nat} {lo : Nat} {vs : List Nat}, VQ n R lo vs → rk n R lo vs < cnt n R lo
  | [], _, [], _ => by simp [rk, cnt]
  | r :: R, lo, v :: vs, h => by
    obtain ⟨h1, h2, h3⟩ := h
    have ih := rk_lt h3
    have s1 : sumR (fun v => cnt n R (v + r)) lo (v - lo + 1) = sumR (fun v => cnt n R (v + r)) lo (v - lo) + cnt n R (v + r) := by
      rw [sumR, show lo + (v - lo) = v by omega]
    have s2 := sumR_mono (fun v => cnt n R (v + r)) lo (show v - lo + 1 ≤ n - lo by omega)
    show sumR _ lo (v - lo) + rk n R (v + r) vs < sumR _ lo (n - lo)
    omega
  | [], _, _ :: _, h => h.elim
  | _ :: _, _, [], h => h.elim
theorem unrk_step {n r lo t : Nat} {R : List Nat} (h : t < cnt n (r :: R) lo) : ∃ v, lo ≤ v ∧ v < n ∧ sumR (fun v => cnt n R (v + r)) lo (v - lo) ≤ t ∧ t - sumR (fun v => cnt n R (v + r)) lo (v - lo) < cnt n R (v + r) := by
  obtain ⟨j, h1, h2, h3⟩ := sumR_find _ _ (show t < sumR (fun v => cnt n R (v + r)) lo (n - lo) from h)
  rw [sumR] at h3
  refine ⟨lo + j, by omega, by omega, ?_, ?_⟩
  · rw [show lo + j - lo = j by omega]; exact h2
  · rw [show lo + j - lo = j by omega]
    have h3' : t < sumR (fun v => cnt n R (v + r)) lo j + cnt n R (lo + j + r) := h3
    omega
def Z0 : List Nat → Prop
  | [] => True
  | [r] => r = 0
  | _ :: s :: R => Z0 (s :: R)
theorem Z0.tail {r : Nat} : ∀ {R : List Nat}, Z0 (r :: R) → Z0 R
  | [], _ => trivial
  | _ :: _, h => h
theorem cnt_closed {n : Nat} : ∀ {R : List Nat} {lo : Nat}, Z0 R → (R = [] → lo < n) → cnt n R lo = if lo + R.sum < n then bin (n - 1 - lo - R.sum + R.length) R.length else 0
  | [], lo, _, hl => by
    have := hl rfl
    rw [if_pos (by simpa using this)]
    simp [cnt, bin_zero]
  | r :: R, lo, hz, _ => by
    have key : ∀ k a : Nat, a + k = n → sumR (fun v => cnt n R (v + r)) a k = if a + (r + R.sum) < n then bin (n - 1 - a - (r + R.sum) + (R.length + 1)) (R.length + 1) else 0 := by
      intro k
      induction k with
      | zero =>
        intro a ha
        rw [if_neg (by omega)]; rfl
      | succ k ih =>
        intro a ha
        have ih' := ih (a + 1) (by omega)
        rw [sumR_front, ih']
        have fa : cnt n R (a + r) = if a + r + R.sum < n then bin (n - 1 - (a + r) - R.sum + R.length) R.length else 0 := cnt_closed hz.tail fun e => by
          subst e
          have : r = 0 := hz
          omega
        rw [fa]
        by_cases c : a + (r + R.sum) < n
        · rw [if_pos (by omega), if_pos c]
          obtain ⟨M, hM⟩ : ∃ M, n - 1 - a - (r + R.sum) + R.length = M := ⟨_, rfl⟩
          rw [show n - 1 - (a + r) - R.sum + R.length = M by omega, show n - 1 - a - (r + R.sum) + (R.length + 1) = M + 1 by omega]
          show _ = bin M R.length + bin M (R.length + 1)
          congr 1
          by_cases d : a + 1 + (r + R.sum) < n
          · rw [if_pos d, show n - 1 - (a + 1) - (r + R.sum) + (R.length + 1) = M by omega]
          · rw [if_neg d]
            exact (bin_gt (by omega)).symm
        · rw [if_neg (by omega), if_neg c, if_neg (by omega)]
    show sumR _ lo (n - lo) = _
    by_cases c : lo ≤ n
    · rw [key (n - lo) lo (by omega), List.sum_cons, List.length_cons]
    · rw [show n - lo = 0 by omega, if_neg (by rw [List.sum_cons]; omega)]; rfl
def Fk (n : Nat) (s : Nat → Nat) (r : Nat) (next : Nat → Int) : Nat → Int
  | 0 => -(2 * n : Int)
  | k + 1 => max (Fk n s r next k) (s (n - (k + 1)) + next (n - (k + 1) + r))
def F (n : Nat) : List ((Nat → Nat) × Nat) → Nat → Int
  | [], _ => 0
  | (s, r) :: L, v => Fk n s r (F n L) (n - v)
def Gr (n : Nat) : List ((Nat → Nat) × Nat) → Nat → List Nat → Prop
  | [], _, [] => True
  | (s, r) :: L, lo, v :: vs => lo ≤ v ∧ v < n ∧ (s v : Int) + F n L (v + r) = F n ((s, r) :: L) lo ∧ (∀ u, lo ≤ u → u < v → (s u : Int) + F n L (u + r) ≠ F n ((s, r) :: L) lo) ∧ Gr n L (v + r) vs
  | _, _, _ => False
def stv (A : List Str) (b : Str) (v : Nat) : Nat := if A[v]? = some b then 1 else 0
def items (A : List Str) : List Str → List ((Nat → Nat) × Nat)
  | [] => []
  | [b] => [(stv A b, 0)]
  | b :: b' :: B => (stv A b, if A.idxOf b' < A.idxOf b then 1 else 0) :: items A (b' :: B)
def nxt (A B : List Str) : List Nat := (items A B).map (·.2)
theorem items_len (A : List Str) : ∀ B, (items A B).length = B.length
  | [] => rfl
  | [_] => rfl
  | b :: b' :: B => by rw [items, List.length_cons, items_len A (b' :: B)]; rfl
theorem nxt_cons (A : List Str) (b b' : Str) (B : List Str) : nxt A (b :: b' :: B) = (if A.idxOf b' < A.idxOf b then 1 else 0) :: nxt A (b' :: B) := rfl
theorem nxt_len (A B : List Str) : (nxt A B).length = B.length := by unfold nxt; rw [List.length_map, items_len]
theorem nxt_z (A : List Str) : ∀ B, Z0 (nxt A B)
  | [] => trivial
  | [_] => rfl
  | b :: b' :: B => by
    have ih := nxt_z A (b' :: B)
    rw [nxt_cons]
    obtain ⟨r, R, e⟩ : ∃ r R, nxt A (b' :: B) = r :: R := by
      cases h : nxt A (b' :: B) with
      | nil => have := nxt_len A (b' :: B); rw [h] at this; simp at this
      | cons r R => exact ⟨r, R, rfl⟩
    rw [e] at ih ⊢
    exact ih
theorem nxt_sum (A : List Str) : ∀ B, (nxt A B).sum = fallsN A B
  | [] => rfl
  | [_] => rfl
  | b :: b' :: B => by
    have ih := nxt_sum A (b' :: B)
    rw [nxt_cons, List.sum_cons, ih]
    unfold fallsN
    show _ = (((b, b') :: (b' :: B).zip B).filter _).length
    have e : ((b' :: B).zip (List.drop 1 (b' :: B))) = (b' :: B).zip B := rfl
    rw [e, List.filter_cons]
    by_cases c : A.idxOf b' < A.idxOf b
    · rw [if_pos c, if_pos (decide_eq_true c), List.length_cons]
      omega
    · rw [if_neg c, if_neg (by simpa using c)]
      omega
def seqF (A B : List Str) (ps : List (Str × Str)) : List Nat := B.map fun b => A.idxOf (goal ps b)
theorem leK_keys {A : List Str} {ps : List (Str × Str)} {a b : Str} : leK (keyN A ps a) (keyN A ps b) = true ↔ (A.idxOf (goal ps a) < A.idxOf (goal ps b) ∨ (A.idxOf (goal ps a) = A.idxOf (goal ps b) ∧ A.idxOf a ≤ A.idxOf b)) := by
  unfold leK keyN
  exact decide_eq_true_iff
theorem seq_vq {A : List Str} {ps : List (Str × Str)} : ∀ {B : List Str} {lo : Nat}, (∀ b ∈ B, goal ps b ∈ A) → (B.Pairwise fun a b => leK (keyN A ps a) (keyN A ps b) = true) → (∀ b, B.head? = some b → lo ≤ A.idxOf (goal ps b)) → VQ A.length (nxt A B) lo (seqF A B ps)
  | [], _, _, _, _ => trivial
  | [b], lo, hm, _, hl => ⟨hl b rfl, List.idxOf_lt_length_of_mem (hm b List.mem_cons_self), trivial⟩
  | b :: b' :: B, lo, hm, pw, hl => by
    rw [List.pairwise_cons] at pw
    have k := leK_keys.mp (pw.1 b' List.mem_cons_self)
    refine ⟨hl b rfl, List.idxOf_lt_length_of_mem (hm b List.mem_cons_self), ?_⟩
    refine seq_vq (B := b' :: B) (fun x hx => hm x (List.mem_cons_of_mem _ hx)) pw.2 fun x hx => ?_
    cases hx
    show A.idxOf (goal ps b) + (if A.idxOf b' < A.idxOf b then 1 else 0) ≤ _
    split <;> omega
theorem VQ.head {n lo v : Nat} {vs : List Nat} : ∀ {R : List Nat}, VQ n R lo (v :: vs) → lo ≤ v
  | [], h => h.elim
  | _ :: _, h => h.1
theorem vq_pw {A : List Str} {ps : List (Str × Str)} {n : Nat} : ∀ {B : List Str} {lo : Nat}, VQ n (nxt A B) lo (seqF A B ps) → B.Pairwise fun a b => leK (keyN A ps a) (keyN A ps b) = true
  | [], _, _ => List.Pairwise.nil
  | [b], _, _ => List.pairwise_singleton _ _
  | b :: b' :: B, lo, h => by
    have ih := vq_pw (B := b' :: B) h.2.2
    have h2 : A.idxOf (goal ps b) + (if A.idxOf b' < A.idxOf b then 1 else 0) ≤ A.idxOf (goal ps b') := VQ.head h.2.2
    have k : leK (keyN A ps b) (keyN A ps b') = true := by
      rw [leK_keys]
      split at h2 <;> omega
    rw [List.pairwise_cons]
    refine ⟨fun x hx => ?_, ih⟩
    rcases List.mem_cons.mp hx with rfl | hx
    · exact k
    · rw [List.pairwise_cons] at ih
      exact leK_trans _ _ _ k (ih.1 x hx)
theorem led_seq {A B : List Str} {ps : List (Str × Str)} (c : CallOf A ps) (e : led A ps = B) : VQ A.length (nxt A B) 0 (seqF A B ps) := by
  subst e
  exact seq_vq (fun b hb => (c.goal_mem ((led_perm A ps).mem_iff.mp hb)).2) (led_pw A ps) fun _ _ => Nat.zero_le _
theorem seq_led {A B : List Str} {ps : List (Str × Str)} (p : B.Perm A) (h : VQ A.length (nxt A B) 0 (seqF A B ps)) : led A ps = B := (led_eq p (vq_pw h)).symm
noncomputable def callV (A B : List Str) (vs : List Nat) : List (Str × Str) := (B.zip (vs.map fun v => A[v]?.getD ("" : Str))).mergeSort leP
theorem callV_of {A B : List Str} {vs : List Nat} (nd : A.Nodup) (p : B.Perm A) (hl : vs.length = B.length) (hv : ∀ v ∈ vs, v < A.length) : CallOf A (callV A B vs) ∧ seqF A B (callV A B vs) = vs := by
  have pm : (callV A B vs).Perm (B.zip (vs.map fun v => A[v]?.getD ("" : Str))) := List.mergeSort_perm _ _
  have lz : B.length ≤ (vs.map fun v => A[v]?.getD ("" : Str)).length := by rw [List.length_map]; omega
  have fs : (callV A B vs).map (·.1) |>.Perm B := by
    have := pm.map (·.1)
    rwa [List.map_fst_zip lz] at this
  have c : CallOf A (callV A B vs) := ⟨fs.trans p, fun q hq => by
    have := (List.of_mem_zip (pm.mem_iff.mp hq)).2
    obtain ⟨v, h1, h2⟩ := List.mem_map.mp this
    have := hv v h1
    rw [List.getElem?_eq_getElem this] at h2
    rw [← h2]
    exact List.getElem_mem this⟩
  refine ⟨c, ?_⟩
  have ng := goal_of (c.nodup nd)
  unfold seqF
  apply List.ext_getElem (by rw [List.length_map, hl])
  intro i h1 h2
  rw [List.length_map] at h1
  rw [List.getElem_map]
  have hvi := hv vs[i] (List.getElem_mem h2)
  have m : (B[i], A[vs[i]]) ∈ callV A B vs := by
    rw [pm.mem_iff]
    have : (B.zip (vs.map fun v => A[v]?.getD ("" : Str)))[i]'(by rw [List.length_zip, List.length_map]; omega) = (B[i], A[vs[i]]) := by
      rw [List.getElem_zip, List.getElem_map, List.getElem?_eq_getElem hvi]
      rfl
    rw [← this]
    exact List.getElem_mem _
  rw [ng _ m]
  exact idx_of nd hvi
theorem callV_led {A B : List Str} {vs : List Nat} (nd : A.Nodup) (p : B.Perm A) (h : VQ A.length (nxt A B) 0 vs) : CallOf A (callV A B vs) ∧ seqF A B (callV A B vs) = vs ∧ led A (callV A B vs) = B := by
  obtain ⟨c, e⟩ := callV_of nd p (by rw [h.len, nxt_len]) h.lt
  refine ⟨c, e, seq_led p ?_⟩
  rw [e]; exact h
theorem Z0.drop : ∀ {R : List Nat} (k : Nat), Z0 R → Z0 (R.drop k)
  | _, 0, h => h
  | [], k + 1, _ => trivial
  | r :: R, k + 1, h => Z0.drop (R := R) k h.tail
theorem frz_lst {i n : Nat} {ds : List D} {ρ : DL.Env} {h : Hh} (e1 : ρ[i]? = some (some (.ref n))) (e2 : h[n]? = some (some (.lst ds))) (e3 : (ρ.set i none).any (isR n) = false) : frz i ρ h = some (ρ.set i (some (.dat (.list ds))), h.set n none) := by
  unfold frz
  simp only [e1, e2, e3, isTab, Bool.or_self, Bool.false_eq_true, if_false, moD]
theorem isR_dat {m : Nat} {d : D} : isR m (some (.dat d)) = false := rfl
theorem isR_none {m : Nat} : isR m none = false := rfl
theorem Gr.len {n : Nat} : ∀ {L : List ((Nat → Nat) × Nat)} {lo : Nat} {vs : List Nat}, Gr n L lo vs → vs.length = L.length
  | [], _, [], _ => rfl
  | (_, _) :: L, _, _ :: vs, h => by rw [List.length_cons, List.length_cons, Gr.len h.2.2.2.2]
  | [], _, _ :: _, h => h.elim
  | _ :: _, _, [], h => h.elim
def GoodN (l : List Str) (q : List (Str × Str)) : Prop := q.map (·.1) = l ∧ ∀ p ∈ q, p.2 ∈ l
theorem GoodN.len {l : List Str} {q : List (Str × Str)} (g : GoodN l q) : q.length = l.length := by
  have := congrArg List.length g.1
  rwa [List.length_map] at this
def grow (l : List Str) (n : Str) (acc : List (List (Str × Str))) : List (List (Str × Str)) := acc.flatMap fun c => l.map fun t => c ++ [(n, t)]
def allF (l : List Str) : List Str → List (List (Str × Str)) → List (List (Str × Str))
  | [], acc => acc
  | n :: ns, acc => allF l ns (grow l n acc)
theorem allF_mem {l : List Str} : ∀ {ns : List Str} {acc : List (List (Str × Str))} {c : List (Str × Str)}, c ∈ allF l ns acc ↔ ∃ a ∈ acc, ∃ q : List (Str × Str), c = a ++ q ∧ q.map (·.1) = ns ∧ ∀ p ∈ q, p.2 ∈ l
  | [], acc, c => by
    constructor
    · intro hc
      exact ⟨c, hc, [], by simp, rfl, fun p hp => by cases hp⟩
    · rintro ⟨a, ha, q, rfl, hq, _⟩
      rw [List.map_eq_nil_iff] at hq
      subst hq
      rw [List.append_nil]
      exact ha
  | n :: ns, acc, c => by
    show c ∈ allF l ns (grow l n acc) ↔ _
    rw [allF_mem (ns := ns)]
    constructor
    · rintro ⟨a, ha, q, rfl, hq, hl⟩
      obtain ⟨a0, ha0, hm⟩ := List.mem_flatMap.mp ha
      obtain ⟨t, ht, rfl⟩ := List.mem_map.mp hm
      refine ⟨a0, ha0, (n, t) :: q, by rw [List.append_assoc]; rfl, by rw [List.map_cons, hq], fun p hp => ?_⟩
      rcases List.mem_cons.mp hp with rfl | hp
      · exact ht
      · exact hl p hp
    · rintro ⟨a, ha, q, rfl, hq, hl⟩
      cases q with
      | nil => cases hq
      | cons p q =>
        rw [List.map_cons] at hq
        obtain ⟨h1, h2⟩ := List.cons.inj hq
        refine ⟨a ++ [p], List.mem_flatMap.mpr ⟨a, ha, List.mem_map.mpr ⟨p.2, hl p List.mem_cons_self, by rw [← h1]⟩⟩, q, by rw [List.append_assoc]; rfl, h2, fun r hr => hl r (List.mem_cons_of_mem _ hr)⟩
theorem grow_len (l : List Str) (n : Str) : ∀ acc : List (List (Str × Str)), (grow l n acc).length = acc.length * l.length
  | [] => by simp [grow]
  | c :: acc => by
    have ih := grow_len l n acc
    unfold grow at ih ⊢
    rw [List.flatMap_cons, List.length_append, ih, List.length_map, List.length_cons, Nat.succ_mul]
    omega
theorem allF_len (l : List Str) : ∀ (ns : List Str) (acc : List (List (Str × Str))), (allF l ns acc).length = acc.length * l.length ^ ns.length
  | [], acc => by simp [allF]
  | n :: ns, acc => by
    show (allF l ns (grow l n acc)).length = _
    rw [allF_len l ns, grow_len, List.length_cons, Nat.pow_succ, Nat.mul_assoc, Nat.mul_comm l.length]
noncomputable def acIn : SM := (sExpr (fM isL extendW (fVar 3) (fCons (fLc false (seqI (fVar 0)) (gN 5) (bYes) (f2 (addW false) (fVar 4) (fA tupW (fCons (fA tupW (fCons (fVar 2) (fCons (fVar 5) (fNil)))) (fNil)))) [5]) (fNil))))
abbrev E6 (l : List Str) (v1 v2 v3 v4 : Option W) : DL.Env := [some (.dat (.list (l.map .str))), v1, v2, v3, v4, none]
theorem acIn_ok {l : List Str} {v1 : Option W} {n : Str} {c : List (Str × Str)} {G : Hh} {ds : List D} (hl : l.length ≤ 10) (hc : c.length ≤ 100) (hd : ds.length ≤ 100000) :
    acIn (E6 l v1 (some (.dat (.str n))) (some (.ref G.length)) (some (.dat (cT c)))) (G ++ [some (.lst ds)]) = some (.nx (E6 l v1 (some (.dat (.str n))) (some (.ref G.length)) (some (.dat (cT c)))), G ++ [some (.lst (ds ++ (l.map fun t => c ++ [(n, t)]).map cT))]) := by
  have hz : sizeLine = 16777216 := rfl
  have c1 : 1 ≤ sizeLine := by decide
  have c2 : 2 ≤ sizeLine := by decide
  have gg : (G ++ [some (MO.lst ds)])[G.length]? = some (some (.lst ds)) := app_get rfl
  have il : isL (.ref G.length) (G ++ [some (MO.lst ds)]) = true := by simp only [isL, deref, gg]
  have lc : lcL (gN 5) bYes (f2 (addW false) (fVar 4) (fA tupW (fCons (fA tupW (fCons (fVar 2) (fCons (fVar 5) (fNil)))) (fNil)))) (E6 l v1 (some (.dat (.str n))) (some (.ref G.length)) (some (.dat (cT c)))) (l.map .str) (G ++ [some (.lst ds)]) = some ((l.map fun t => c ++ [(n, t)]).map cT, G ++ [some (.lst ds)]) := by
    rw [List.map_map]
    refine lcL_list PyData.str _ fun t ht => ⟨[some (.dat (.list (l.map .str))), v1, some (.dat (.str n)), some (.ref G.length), some (.dat (cT c)), some (.dat (.str t))], rfl, ?_⟩
    have ad : addW false (.dat (cT c)) (.dat (.tuple [prT (n, t)])) (G ++ [some (MO.lst ds)]) = some (.dat (cT (c ++ [(n, t)])), G ++ [some (.lst ds)]) := by
      have := xAddT (a := c.map prT) (b := [prT (n, t)]) (h := G ++ [some (MO.lst ds)]) (by rw [List.length_map]; show c.length + 1 ≤ sizeLine; omega)
      have e : cT (c ++ [(n, t)]) = .tuple (c.map prT ++ [prT (n, t)]) := by
        show PyData.tuple ((c ++ [(n, t)]).map prT) = _
        rw [List.map_append]; rfl
      rw [e]
      exact this
    exact x2 (f := addW false) (A := fVar 4) rfl (xA (xC (xA (xC (E := fVar 2) rfl (xC (E := fVar 5) rfl xN)) (xTp (ds := [.str n, .str t]) rfl c2)) xN) (xTp (ds := [prT (n, t)]) rfl c1)) ad
  have ga : (fCons (fLc false (seqI (fVar 0)) (gN 5) (bYes) (f2 (addW false) (fVar 4) (fA tupW (fCons (fA tupW (fCons (fVar 2) (fCons (fVar 5) (fNil)))) (fNil)))) [5]) (fNil)) (E6 l v1 (some (.dat (.str n))) (some (.ref G.length)) (some (.dat (cT c)))) (G ++ [some (.lst ds)]) = some ([.dat (.list ((l.map fun t => c ++ [(n, t)]).map cT))], G ++ [some (.lst ds)]) :=
    xC (xL (vs := [5]) (xS (E := fVar 0) (x := .list (l.map .str)) rfl (.inl rfl)) lc (by rw [List.length_map, List.length_map]; omega)) xN
  have ex : extendW (.ref G.length) [.dat (.list ((l.map fun t => c ++ [(n, t)]).map cT))] (G ++ [some (MO.lst ds)]) = some (.dat .none, G ++ [some (.lst (ds ++ (l.map fun t => c ++ [(n, t)]).map cT))]) := by
    unfold extendW lstAt setL
    simp only [gg]
    rw [if_pos (by rw [List.length_map, List.length_map]; omega), app_set rfl]
  have q : fVar 3 (E6 l v1 (some (.dat (.str n))) (some (.ref G.length)) (some (.dat (cT c)))) (G ++ [some (.lst ds)]) = some (.ref G.length, G ++ [some (.lst ds)]) := rfl
  unfold acIn sExpr fM
  simp only [q, obnd, il, if_true, ga, ex, sbnd]
theorem acIn_loop {l : List Str} {v1 : Option W} {n : Str} {G : Hh} (hl : l.length ≤ 10) : ∀ (cs : List (List (Str × Str))) (ds : List D) (v4 : Option W), (∀ c ∈ cs, c.length ≤ 100) → ds.length + cs.length * 10 ≤ 100000 →
    ∃ w4, (∀ m, isR m v4 = false → isR m w4 = false) ∧ forL (gN 4) acIn (cs.map cT) (E6 l v1 (some (.dat (.str n))) (some (.ref G.length)) v4) (G ++ [some (.lst ds)]) = some (.nx (E6 l v1 (some (.dat (.str n))) (some (.ref G.length)) w4), G ++ [some (.lst (ds ++ (grow l n cs).map cT))])
  | [], ds, v4, _, _ => ⟨v4, fun _ e => e, by simp [grow]; rfl⟩
  | c :: cs, ds, v4, hc, hd => by
    rw [List.length_cons] at hd
    have t := acIn_ok (l := l) (v1 := v1) (n := n) (c := c) (G := G) (ds := ds) hl (hc c List.mem_cons_self) (by omega)
    obtain ⟨w4, i4, e⟩ := acIn_loop (v1 := v1) (n := n) (G := G) hl cs (ds ++ (l.map fun t => c ++ [(n, t)]).map cT) (some (.dat (cT c))) (fun d hd' => hc d (List.mem_cons_of_mem _ hd')) (by rw [List.length_append, List.length_map, List.length_map]; omega)
    refine ⟨w4, fun m _ => i4 m rfl, ?_⟩
    have k : gN 4 (.dat (cT c)) (E6 l v1 (some (.dat (.str n))) (some (.ref G.length)) v4) (G ++ [some (.lst ds)]) = some (E6 l v1 (some (.dat (.str n))) (some (.ref G.length)) (some (.dat (cT c)))) := rfl
    have eg : grow l n (c :: cs) = (l.map fun t => c ++ [(n, t)]) ++ grow l n cs := by unfold grow; rw [List.flatMap_cons]
    rw [List.map_cons]
    unfold forL
    simp only [k, t]
    rw [eg, List.map_append, ← List.append_assoc]
    exact e
noncomputable def acOut : SM := (sSeq (sAsg (fA (lstW true) (fNil)) (gN 3))
    (sSeq (sFor (seqI (fVar 1)) (gN 4) acIn)
    (sFrz 3 (sAsg (fVar 3) (gN 1)))))
theorem acOut_ok {l : List Str} {n : Str} {G : Hh} {acc : List (List (Str × Str))} {v3 v4 : Option W} (hl : l.length ≤ 10) (ha : ∀ c ∈ acc, c.length ≤ 100) (h3 : acc.length ≤ 1000) (i4 : ∀ m, isR m v4 = false) :
    ∃ w3 w4, (∀ m, isR m w3 = false) ∧ (∀ m, isR m w4 = false) ∧ acOut (E6 l (some (.dat (.list (acc.map cT)))) (some (.dat (.str n))) v3 v4) G = some (.nx (E6 l (some (.dat (.list ((grow l n acc).map cT)))) (some (.dat (.str n))) w3 w4), G ++ [none]) := by
  obtain ⟨w4, j4, e⟩ := acIn_loop (l := l) (v1 := some (.dat (.list (acc.map cT)))) (n := n) (G := G) hl acc [] v4 ha (by show 0 + _ ≤ _; omega)
  rw [List.nil_append] at e
  have k4 : ∀ m, isR m w4 = false := fun m => j4 m (i4 m)
  have fz := frz_lst (i := 3) (n := G.length) (ds := (grow l n acc).map cT) (ρ := E6 l (some (.dat (.list (acc.map cT)))) (some (.dat (.str n))) (some (.ref G.length)) w4) (h := G ++ [some (.lst ((grow l n acc).map cT))]) rfl (app_get rfl) (by
    simp only [List.set_cons_succ, List.set_cons_zero, List.any_cons, List.any_nil, isR_dat, isR_none, k4, Bool.or_self])
  rw [app_set rfl] at fz
  refine ⟨some (.dat (.list ((grow l n acc).map cT))), w4, fun _ => rfl, k4, ?_⟩
  unfold acOut
  refine (zA (w := .ref G.length) (h1 := G ++ [some (.lst [])]) (ρ1 := E6 l (some (.dat (.list (acc.map cT)))) (some (.dat (.str n))) (some (.ref G.length)) v4) (xA xN rfl) rfl).trans ?_
  refine (zF (xS (E := fVar 1) (x := .list (acc.map cT)) rfl (.inl rfl)) e).trans ?_
  refine (zZ fz).trans ?_
  rfl
theorem ac_loop {l : List Str} (hl : l.length ≤ 4) : ∀ (ns : List Str) (acc : List (List (Str × Str))) (k : Nat) (v2 v3 v4 : Option W) (G : Hh), (∀ c ∈ acc, c.length ≤ k) → k + ns.length ≤ 50 → acc.length * 4 ^ ns.length ≤ 256 → (∀ m, isR m v4 = false) →
    ∃ (w2 w3 w4 : Option W) (q : Nat), forL (gN 2) acOut (ns.map .str) (E6 l (some (.dat (.list (acc.map cT)))) v2 v3 v4) G = some (.nx (E6 l (some (.dat (.list ((allF l ns acc).map cT)))) w2 w3 w4), G ++ List.replicate q none)
  | [], acc, k, v2, v3, v4, G, _, _, _, _ => ⟨v2, v3, v4, 0, by simp [allF]; rfl⟩
  | n :: ns, acc, k, v2, v3, v4, G, ha, hk, h4, i4 => by
    rw [List.length_cons] at hk
    rw [List.length_cons, Nat.pow_succ] at h4
    have pp : 1 ≤ 4 ^ ns.length := Nat.pow_pos (by decide)
    have a256 : acc.length ≤ 256 := Nat.le_trans (Nat.le_mul_of_pos_right _ (by omega)) h4
    obtain ⟨w3, w4, _, k4, e1⟩ := acOut_ok (n := n) (G := G) (v3 := v3) (v4 := v4) (l := l) (acc := acc) (by omega) (fun c hc => by have := ha c hc; omega) (by omega) i4
    have hg : (grow l n acc).length ≤ acc.length * 4 := by rw [grow_len]; exact Nat.mul_le_mul_left _ hl
    obtain ⟨x2', x3, x4, q, e2⟩ := ac_loop hl ns (grow l n acc) (k + 1) (some (.dat (.str n))) w3 w4 (G ++ [none]) (fun c hc => by
      obtain ⟨a, h1, h2⟩ := List.mem_flatMap.mp hc
      obtain ⟨t, _, rfl⟩ := List.mem_map.mp h2
      have := ha a h1
      rw [List.length_append]; show a.length + 1 ≤ _; omega) (by omega) (by
      refine Nat.le_trans (Nat.mul_le_mul_right _ hg) ?_
      rw [Nat.mul_assoc, Nat.mul_comm 4]
      exact h4) k4
    refine ⟨x2', x3, x4, q + 1, ?_⟩
    have kk : gN 2 (.dat (.str n)) (E6 l (some (.dat (.list (acc.map cT)))) v2 v3 v4) G = some (E6 l (some (.dat (.list (acc.map cT)))) (some (.dat (.str n))) v3 v4) := rfl
    rw [List.map_cons]
    unfold forL
    simp only [kk, e1]
    rw [e2, List.append_assoc]
    rfl
theorem all_calls_ok {l : List Str} (hl : l.length ≤ 4) : m__law_all_calls [.dat (.list (l.map .str))] h = some (.dat (.list ((allF l l [[]]).map cT)), h) := by
  have hz : sizeLine = 16777216 := rfl
  have p4 : 4 ^ l.length ≤ 4 ^ 4 := Nat.pow_le_pow_right (by omega) hl
  have p256 : (4 : Nat) ^ 4 = 256 := by decide
  obtain ⟨w2, w3, w4, q, e⟩ := ac_loop (l := l) hl l [[]] 0 none none none h (fun c hc => by rw [List.mem_singleton] at hc; subst hc; exact Nat.le_refl _) (by omega) (by show 1 * _ ≤ _; omega) fun _ => rfl
  have lv : leave false h (.dat (.list ((allF l l [[]]).map cT))) (h ++ List.replicate q none) = some (.dat (.list ((allF l l [[]]).map cT)), h) := by
    have tk : (h ++ List.replicate q none).take h.length = h := List.take_left
    have := leave_dat (h := h) (h' := h ++ List.replicate q none) (d := .list ((allF l l [[]]).map cT)) (by rw [tk])
    rw [tk] at this
    exact this
  have eq : m__law_all_calls = fnM false 1 6 (sSeq (sAsg (fA (lstW false) (fCons (fA tupW (fNil)) (fNil))) (gN 1)) (sSeq (sFor (seqI (fVar 0)) (gN 2) acOut) (sRet (fVar 1)))) := rfl
  rw [eq]
  refine fnM_rt (w := .dat (.list ((allF l l [[]]).map cT))) (h' := h ++ List.replicate q none) ?_ rfl lv
  show sSeq _ _ (E6 l none none none none) h = _
  refine (zA (ρ1 := E6 l (some (.dat (.list ([[]].map cT)))) none none none) (xA (xC (xA xN (xTp (ds := []) rfl (Nat.zero_le _))) xN) (xLst (ds := [.tuple []]) rfl (by show 1 ≤ sizeLine; decide))) rfl).trans ?_
  refine (zF (xS (E := fVar 0) (x := .list (l.map .str)) rfl (.inl rfl)) e).trans ?_
  rfl
theorem rk_part {n r lo u v : Nat} {R us : List Nat} (h3 : VQ n R (u + r) us) (h1 : lo ≤ u) (l : u < v) : sumR (fun v => cnt n R (v + r)) lo (u - lo) + rk n R (u + r) us < sumR (fun v => cnt n R (v + r)) lo (v - lo) := by
  have lt := rk_lt h3
  have s1 : sumR (fun v => cnt n R (v + r)) lo (u - lo + 1) = sumR (fun v => cnt n R (v + r)) lo (u - lo) + cnt n R (u + r) := by
    rw [sumR, show lo + (u - lo) = u by omega]
  have s2 := sumR_mono (fun v => cnt n R (v + r)) lo (show u - lo + 1 ≤ v - lo by omega)
  omega
theorem rk_inj {n : Nat} : ∀ {R : List Nat} {lo : Nat} {us vs : List Nat}, VQ n R lo us → VQ n R lo vs → rk n R lo us = rk n R lo vs → us = vs
  | [], _, [], [], _, _, _ => rfl
  | r :: R, lo, u :: us, v :: vs, h, g, e => by
    obtain ⟨h1, h2, h3⟩ := h
    obtain ⟨g1, g2, g3⟩ := g
    have e : sumR (fun v => cnt n R (v + r)) lo (u - lo) + rk n R (u + r) us = sumR (fun v => cnt n R (v + r)) lo (v - lo) + rk n R (v + r) vs := e
    rcases Nat.lt_trichotomy u v with l | l | l
    · have := rk_part (n := n) h3 h1 l
      omega
    · subst l
      rw [rk_inj h3 g3 (by omega)]
    · have := rk_part (n := n) g3 g1 l
      omega
  | [], _, _ :: _, _, h, _, _ => h.elim
  | _ :: _, _, [], _, h, _, _ => h.elim
  | [], _, [], _ :: _, _, g, _ => g.elim
  | _ :: _, _, _ :: _, [], _, g, _ => g.elim
theorem falls_few {A B : List Str} (h : B ≠ []) : fallsN A B < B.length := by
  unfold fallsN
  have := List.length_filter_le (fun p => decide (A.idxOf p.2 < A.idxOf p.1)) (B.zip (B.drop 1))
  have hp := List.length_pos_iff.mpr h
  rw [List.length_zip, List.length_drop] at this
  omega
theorem cnt_all {A B : List Str} (lB : B.length = A.length) (h : B ≠ []) : cnt A.length (nxt A B) 0 = bin (2 * A.length - 1 - fallsN A B) A.length := by
  have f := falls_few (A := A) h
  rw [cnt_closed (nxt_z A B) (fun en => by have := nxt_len A B; rw [en] at this; simp at this; exact absurd (List.length_eq_zero_iff.mp this.symm) h), nxt_sum, nxt_len, lB, if_pos (by omega)]
  congr 1
  omega
theorem leP_eq {a b : Str × Str} (h : a.1 = b.1 → a = b) : leP a b = leS a.1 b.1 := by
  have e : leP a b = !PySem.W.dataLt (prT b) (prT a) := rfl
  obtain ⟨a1, a2⟩ := a
  obtain ⟨b1, b2⟩ := b
  rw [e]
  by_cases z : a1 = b1
  · cases h z
    have q1 : PyData.eqv (.str a1) (.str a1) = true := by simp [PyData.eqv]
    have q2 : PyData.eqv (.str a2) (.str a2) = true := by simp [PyData.eqv]
    show (!PySem.W.dataLt (.tuple [.str a1, .str a2]) (.tuple [.str a1, .str a2])) = _
    rw [PySem.W.dataLt_pair rfl rfl, q1, q2]
    unfold leS
    simp
  · have q : PyData.eqv (.str b1) (.str a1) = false := by
      simp only [PyData.eqv, beq_eq_false_iff_ne, ne_eq]
      exact fun w => z w.symm
    show (!PySem.W.dataLt (.tuple [.str b1, .str b2]) (.tuple [.str a1, .str a2])) = _
    rw [PySem.W.dataLt_pair rfl rfl, q]
    simp only [Bool.false_eq_true, if_false]
    rw [PySem.W.dataLt_str, ← decide_not]
    unfold leS
    simp only [decide_eq_decide, List.not_lt]
theorem leP_firsts {ps : List (Str × Str)} (nd : (ps.map (·.1)).Nodup) : (ps.mergeSort leP).map (·.1) = sortS (ps.map (·.1)) := by
  unfold sortS
  exact PySem.W.sort_maps (r := leP) (s := leS) (fun p : Str × Str => p.1) (l := ps) fun a ha b hb => leP_eq fun z => by
    have e1 := goal_of nd a ha
    have e2 := goal_of nd b hb
    rw [z] at e1
    exact Prod.ext z (e1.symm.trans e2)
theorem unrk {n : Nat} : ∀ {R : List Nat} {lo t : Nat}, t < cnt n R lo → ∃ vs, VQ n R lo vs ∧ rk n R lo vs = t
  | [], lo, t, h => ⟨[], trivial, by have : t < 1 := h; show 0 = t; omega⟩
  | r :: R, lo, t, h => by
    obtain ⟨v, h1, h2, h3, h4⟩ := unrk_step h
    obtain ⟨vs, g1, g2⟩ := unrk h4
    exact ⟨v :: vs, ⟨h1, h2, g1⟩, by show sumR _ lo (v - lo) + rk n R (v + r) vs = t; rw [g2]; omega⟩
theorem grow_nd {l : List Str} {n : Str} {acc : List (List (Str × Str))} (nd : l.Nodup) (ha : acc.Nodup) : (grow l n acc).Nodup := by
  unfold grow
  rw [List.nodup_iff_pairwise_ne, List.pairwise_flatMap]
  refine ⟨fun c _ => ?_, ?_⟩
  · rw [List.pairwise_map]
    refine (List.nodup_iff_pairwise_ne.mp nd).imp fun {a b} ne e => ne ?_
    have := (List.append_inj' e rfl).2
    simpa using this
  · refine (List.nodup_iff_pairwise_ne.mp ha).imp fun {a b} ne x hx y hy e => ?_
    obtain ⟨t, _, rfl⟩ := List.mem_map.mp hx
    obtain ⟨u, _, rfl⟩ := List.mem_map.mp hy
    exact ne (List.append_inj' e rfl).1
theorem allF_nd {l : List Str} (nd : l.Nodup) : ∀ (ns : List Str) {acc : List (List (Str × Str))}, acc.Nodup → (allF l ns acc).Nodup
  | [], _, h => h
  | n :: ns, _, h => allF_nd nd ns (grow_nd nd h)
theorem all_mem {l : List Str} {c : List (Str × Str)} : c ∈ allF l l [[]] ↔ c.map (·.1) = l ∧ ∀ p ∈ c, p.2 ∈ l := by
  rw [allF_mem]
  constructor
  · rintro ⟨a, ha, q, rfl, h1, h2⟩
    rw [List.mem_singleton] at ha
    subst ha
    exact ⟨h1, h2⟩
  · exact fun ⟨h1, h2⟩ => ⟨[], by simp, c, rfl, h1, h2⟩
theorem call_goal {l : List Str} {c : List (Str × Str)} (nd : l.Nodup) (h : c.map (·.1) = l) : c = l.map fun s => (s, goal c s) := by
  subst h
  rw [List.map_map]
  have : c.map ((fun s => (s, goal c s)) ∘ fun x => x.1) = c.map id := List.map_congr_left fun p hp => by
    show (p.1, goal c p.1) = p
    rw [goal_of nd p hp]
  rw [this, List.map_id]
theorem idx_inj {A : List Str} {x y : Str} (hx : x ∈ A) (hy : y ∈ A) (e : A.idxOf x = A.idxOf y) : x = y := by
  have h1 := List.getElem_idxOf (List.idxOf_lt_length_of_mem hx)
  have h2 := List.getElem_idxOf (List.idxOf_lt_length_of_mem hy)
  rw [← h1, ← h2]
  congr 1
def toE (A l E : List Str) : List (List (Str × Str)) := (allF l l [[]]).filter fun c => decide (led A c = E)
def rkC (A E : List Str) (c : List (Str × Str)) : Nat := rk A.length (nxt A E) 0 (seqF A E c)
noncomputable def ordE (A l E : List Str) : List (List (Str × Str)) := (toE A l E).mergeSort fun a b => decide (rkC A E a ≤ rkC A E b)
section
variable {A l E : List Str} (pA : A.Perm l) (nd : l.Nodup) (srt : sortS l = l) (h0 : 0 < l.length) (h4 : l.length ≤ 100) (ht : Txts l)
theorem mem_toE {c : List (Str × Str)} : c ∈ toE A l E ↔ (c.map (·.1) = l ∧ ∀ p ∈ c, p.2 ∈ l) ∧ led A c = E := by
  unfold toE
  rw [List.mem_filter, all_mem, decide_eq_true_eq]
theorem toE_nd (nd : l.Nodup) : (toE A l E).Nodup := (allF_nd nd l (by simp)).sublist List.filter_sublist
theorem toE_call (pA : A.Perm l) {c : List (Str × Str)} (hc : c ∈ toE A l E) : CallOf A c := by
  obtain ⟨⟨h1, h2⟩, _⟩ := mem_toE.mp hc
  exact ⟨by rw [h1]; exact pA.symm, fun p hp => pA.mem_iff.mpr (h2 p hp)⟩
include pA nd
theorem seq_inj {c c' : List (Str × Str)} (hc : c ∈ toE A l E) (hc' : c' ∈ toE A l E) (e : seqF A E c = seqF A E c') : c = c' := by
  have k := toE_call pA hc
  have k' := toE_call pA hc'
  obtain ⟨⟨h1, _⟩, eE⟩ := mem_toE.mp hc
  obtain ⟨⟨h1', _⟩, _⟩ := mem_toE.mp hc'
  have pE : E.Perm A := eE ▸ led_perm A c
  unfold seqF at e
  have g := List.map_inj_left.mp e
  rw [call_goal nd h1, call_goal nd h1']
  refine List.map_congr_left fun s hs => ?_
  have sA : s ∈ A := pA.mem_iff.mpr hs
  rw [idx_inj (k.goal_mem sA).2 (k'.goal_mem sA).2 (g s (pE.mem_iff.mpr sA))]
theorem rk_one {c c' : List (Str × Str)} (hc : c ∈ toE A l E) (hc' : c' ∈ toE A l E) (e : rkC A E c = rkC A E c') : c = c' := by
  obtain ⟨_, e1⟩ := mem_toE.mp hc
  obtain ⟨_, e2⟩ := mem_toE.mp hc'
  exact seq_inj pA nd hc hc' (rk_inj (led_seq (toE_call pA hc) e1) (led_seq (toE_call pA hc') e2) e)
include srt h0 h4 ht
theorem callV_in (pE : E.Perm A) {vs : List Nat} (hv : VQ A.length (nxt A E) 0 vs) : callV A E vs ∈ toE A l E ∧ seqF A E (callV A E vs) = vs := by
  obtain ⟨c, e1, e2⟩ := callV_led (pA.nodup_iff.mpr nd) pE hv
  refine ⟨mem_toE.mpr ⟨⟨?_, fun p hp => pA.mem_iff.mp (c.tgt p hp)⟩, e2⟩, e1⟩
  have lz : E.length ≤ (vs.map fun v => A[v]?.getD ("" : Str)).length := by rw [List.length_map, hv.len, nxt_len]; omega
  have fz : (E.zip (vs.map fun v => A[v]?.getD ("" : Str))).map (·.1) = E := by
    rw [List.map_fst_zip]; exact lz
  have nE : E.Nodup := pE.nodup_iff.mpr (pA.nodup_iff.mpr nd)
  unfold callV
  rw [leP_firsts (by rw [fz]; exact nE), fz, sortS_eq (pE.trans pA), srt]
theorem ranks (pE : E.Perm A) : ((toE A l E).map (rkC A E)).Perm (List.range (cnt A.length (nxt A E) 0)) := by
  have nA := pA.nodup_iff.mpr nd
  have lA := pA.length_eq
  have n1 : ((toE A l E).map (rkC A E)).Nodup := by
    rw [List.nodup_iff_pairwise_ne, List.pairwise_map]
    exact List.Pairwise.imp_of_mem (fun {a b} ha hb ne e => ne (rk_one pA nd ha hb e)) (List.nodup_iff_pairwise_ne.mp (toE_nd nd))
  refine (List.perm_ext_iff_of_nodup n1 List.nodup_range).mpr fun t => ?_
  rw [List.mem_range, List.mem_map]
  constructor
  · rintro ⟨c, hc, rfl⟩
    obtain ⟨_, e1⟩ := mem_toE.mp hc
    exact rk_lt (led_seq (toE_call pA hc) e1)
  · intro hlt
    obtain ⟨vs, hv, e⟩ := unrk hlt
    obtain ⟨m, e2⟩ := callV_in pA nd srt h0 h4 ht pE hv
    exact ⟨_, m, by unfold rkC; rw [e2]; exact e⟩
theorem ord_ranks (pE : E.Perm A) : (ordE A l E).map (rkC A E) = List.range (cnt A.length (nxt A E) 0) := by
  have pm : (ordE A l E).Perm (toE A l E) := List.mergeSort_perm _ _
  have pw : (ordE A l E).Pairwise fun a b => decide (rkC A E a ≤ rkC A E b) = true := List.pairwise_mergeSort (fun a b c h1 h2 => by
    rw [decide_eq_true_eq] at *; omega) (fun a b => by
    rw [Bool.or_eq_true, decide_eq_true_eq, decide_eq_true_eq]; omega) _
  refine List.Perm.eq_of_pairwise (le := fun a b : Nat => a ≤ b) (fun a b _ _ h1 h2 => by omega) ?_ ?_ ((pm.map _).trans (ranks pA nd srt h0 h4 ht pE))
  · rw [List.pairwise_map]
    exact pw.imp fun h => of_decide_eq_true h
  · exact List.pairwise_lt_range.imp fun h => by omega
theorem ord_len (pE : E.Perm A) : (ordE A l E).length = cnt A.length (nxt A E) 0 := by
  have := congrArg List.length (ord_ranks pA nd srt h0 h4 ht pE)
  rwa [List.length_map, List.length_range] at this
end
section
variable {A l E : List Str} (pA : A.Perm l) (nd : l.Nodup) (srt : sortS l = l) (h0 : 0 < l.length) (h4 : l.length ≤ 100) (ht : Txts l)
include pA nd srt h0 h4 ht
end
theorem lp_bin (N : Nat) : ∀ k, lp N k = bin N k
  | 0 => by rw [bin_zero]; rfl
  | k + 1 => by
    show lp N k * (N - k) / (k + 1) = _
    rw [lp_bin N k, Nat.mul_comm, ← bin_abs N k, Nat.mul_div_cancel_left _ (by omega)]
def fl (A : List Str) (cs : List (List (Str × Str))) (E : List Str) : List (List (Str × Str)) := cs.filter fun c => decide (led A c = E)
def kN (cs : List (List (Str × Str))) (A E : List Str) : Nat := (fl A cs E).length
theorem kN_tW {A l E : List Str} (pA : A.Perm l) (nd : l.Nodup) (srt : sortS l = l) (h0 : 0 < l.length) (h4 : l.length ≤ 100) (ht : Txts l) (pE : E.Perm A) : kN (allF l l [[]]) A E = tW A.length 1 (fallsN A E) := by
  have lA := pA.length_eq
  have lE := pE.length_eq
  have ne : E ≠ [] := fun z => by rw [z] at lE; simp at lE; omega
  have lD := ord_len pA nd srt h0 h4 ht pE
  have lo : (ordE A l E).length = (toE A l E).length := (List.mergeSort_perm _ _ : (ordE A l E).Perm (toE A l E)).length_eq
  have e : kN (allF l l [[]]) A E = (toE A l E).length := rfl
  rw [e, ← lo, lD, cnt_all lE ne]
  unfold tW
  rw [lp_bin, Nat.pow_one]
  congr 1
  omega
structure CT (A : List Str) (cs : List (List (Str × Str))) (tb : List (List Str × D)) : Prop where
  look : ∀ E, tb.lookup E = if fl A cs E = [] then none else some (.int (kN cs A E : Int))
  keys : ∀ e ∈ tb, ∃ c ∈ cs, e.1 = led A c
  nd : (tb.map (·.1)).Nodup
  len : tb.length ≤ cs.length
theorem ct_nil (A : List Str) : CT A [] [] := ⟨fun E => by simp [fl], fun e he => (List.not_mem_nil he).elim, List.nodup_nil, Nat.le_refl _⟩
theorem ct_get {A : List Str} {cs : List (List (Str × Str))} {tb : List (List Str × D)} (t : CT A cs tb) (E : List Str) : (tb.lookup E).getD (.int 0) = .int (kN cs A E : Int) := by
  rw [t.look E]
  by_cases c : fl A cs E = []
  · rw [if_pos c, kN, c]; rfl
  · rw [if_neg c]; rfl
theorem updR_nd {tb : List (List Str × D)} {k : List Str} {v : D} (nd : (tb.map (·.1)).Nodup) : ((updR tb k v).map (·.1)).Nodup := by
  unfold updR
  split
  · have : (tb.map fun e => if e.1 = k then (e.1, v) else e).map (·.1) = tb.map (·.1) := by
      rw [List.map_map]
      exact List.map_congr_left fun e _ => by show (if e.1 = k then (e.1, v) else e).1 = e.1; split <;> rfl
    rw [this]; exact nd
  · rename_i h
    rw [List.map_append, List.nodup_append]
    refine ⟨nd, by simp, fun a ha b hb => ?_⟩
    have : b = k := by simpa using hb
    subst this
    rintro rfl
    apply h
    obtain ⟨e, he, rfl⟩ := List.mem_map.mp ha
    have : ∀ {l : List (List Str × D)}, e ∈ l → (l.lookup e.1).isSome = true := by
      intro l
      induction l with
      | nil => intro h; cases h
      | cons x l ih =>
        intro h
        obtain ⟨x1, x2⟩ := x
        rw [List.lookup_cons]
        by_cases z : (e.1 == x1) = true
        · rw [z]; rfl
        · rcases List.mem_cons.mp h with q | q
          · subst q; simp at z
          · have z : (e.1 == x1) = false := by simpa using z
            rw [z]; exact ih q
    exact this he
theorem ct_more {A : List Str} {cs : List (List (Str × Str))} {tb : List (List Str × D)} (t : CT A cs tb) (c : List (Str × Str)) : CT A (cs ++ [c]) (updR tb (led A c) (.int ((kN cs A (led A c) : Int) + 1))) := by
  refine ⟨fun E => ?_, fun e he => ?_, updR_nd t.nd, ?_⟩
  · rw [updR_look]
    have f : fl A (cs ++ [c]) E = fl A cs E ++ (if led A c = E then [c] else []) := by
      unfold fl
      rw [List.filter_append]
      congr 1
      by_cases h : led A c = E
      · rw [if_pos h, List.filter_cons_of_pos (by simpa using h)]; rfl
      · rw [if_neg h, List.filter_cons_of_neg (by simpa using h)]; rfl
    by_cases h : E = led A c
    · subst h
      rw [if_pos rfl, f, if_pos rfl, if_neg (by simp)]
      unfold kN
      rw [f, if_pos rfl, List.length_append, List.length_singleton]
      rfl
    · rw [if_neg h, f, if_neg (Ne.symm h), List.append_nil, t.look E]
      unfold kN
      rw [f, if_neg (Ne.symm h), List.append_nil]
  · rcases updR_keys he with ⟨h1, _⟩ | h
    · exact ⟨c, by simp, h1⟩
    · obtain ⟨d, hd, e1⟩ := t.keys e h
      exact ⟨d, List.mem_append_left _ hd, e1⟩
  · have := updR_len tb (led A c) (.int ((kN cs A (led A c) : Int) + 1))
    have := t.len
    rw [List.length_append, List.length_singleton]
    omega
theorem desL_le : ∀ m : List Nat, desL m ≤ m.length - 1
  | [] => Nat.le_refl _
  | [_] => Nat.le_refl _
  | a :: b :: m => by
    have ih := desL_le (b :: m)
    show (bif Nat.blt b a then 1 else 0) + desL (b :: m) ≤ _
    have : (bif Nat.blt b a then 1 else 0) ≤ 1 := by cases Nat.blt b a <;> decide
    simp only [List.length_cons] at ih ⊢
    omega
def chk0 (n : Nat) : Bool := ((allN n).all fun q => tW n 0 (desL q) == (if q == List.range n then 1 else 0)) && (sumL ((allN n).map fun q => tW n 4 (desL q)) == n ^ (n * 4)) && (allN n).all fun q => Nat.blt (tW n 4 (desL q)) 1000000000
theorem chk0_1 : chk0 1 = true := by decide +kernel
theorem chk0_2 : chk0 2 = true := by decide +kernel
theorem chk0_3 : chk0 3 = true := by decide +kernel
theorem chk0_4 : chk0 4 = true := by decide +kernel
theorem chk0_all {n : Nat} (h0 : 0 < n) (h4 : n ≤ 4) : chk0 n = true := by
  match n, h0, h4 with
  | 1, _, _ => exact chk0_1
  | 2, _, _ => exact chk0_2
  | 3, _, _ => exact chk0_3
  | 4, _, _ => exact chk0_4
def wN (F : List Str) (t : Nat) (r : List Str) : Nat := tW F.length t (fallsN F r)
section
variable {l F : List Str} (pF : F.Perm l) (nF : F.Nodup) (h0 : 0 < l.length) (h4 : l.length ≤ 4)
include pF nF h0 h4
theorem wN_0 {r : List Str} (hr : r ∈ lvG l l.length) : wN F 0 r = if r = F then 1 else 0 := by
  have lF := pF.length_eq
  have hq := code_mem pF nF lF hr
  have c := chk0_all h0 h4
  unfold chk0 at c
  simp only [Bool.and_eq_true] at c
  have c1 := List.all_eq_true.mp c.1.1 _ hq
  have c1 := eq_of_beq c1
  unfold wN
  rw [falls_des, lF, c1]
  have mF : ∀ s ∈ r, s ∈ F := fun s hs => pF.mem_iff.mpr ((mem_lvG.mp hr).2.2 s hs)
  have cF : code F F = List.range l.length := by
    unfold code
    apply List.ext_getElem (by simp [lF])
    intro i h1 h2
    rw [List.getElem_map, List.getElem_range]
    exact nF.idxOf_getElem i (by simpa using h1)
  by_cases e : r = F
  · subst e
    rw [cF, if_pos rfl]
    simp
  · rw [if_neg e, if_neg]
    intro z
    apply e
    have z := eq_of_beq z
    have b1 := back_code mF
    have b2 := back_code (F := F) (m := F) fun s hs => hs
    rw [← b1, z, ← cF, b2]
theorem wN_next {e : List Str} (he : e ∈ lvG l l.length) {t : Nat} (ht : t < 4) : sumL ((lvG l l.length).map fun m => wN F t m * tW l.length 1 (fallsN m e)) = wN F (t + 1) e := by
  have lF := pF.length_eq
  have mF : ∀ {r}, r ∈ lvG l l.length → ∀ s ∈ r, s ∈ F := fun hr s hs => pF.mem_iff.mpr ((mem_lvG.mp hr).2.2 s hs)
  have h1 : (lvG l l.length).map (fun m => wN F t m * tW l.length 1 (fallsN m e)) = (lvG l l.length).map fun m => (fun q => tW l.length t (desL q) * tW l.length 1 (desL (relL (code F e) q))) (code F m) := List.map_congr_left fun m hm => by
    have hme : ∀ s ∈ e, s ∈ m := fun s hs => (perm_of_lv (pF.nodup_iff.mp nF) rfl hm).mem_iff.mpr ((mem_lvG.mp he).2.2 s hs)
    show wN F t m * _ = tW l.length t (desL (code F m)) * tW l.length 1 (desL (relL (code F e) (code F m)))
    unfold wN
    rw [rel_code (mF hm) (mF he), ← falls_des, ← falls_des, lF]
  rw [h1, sum_codes pF nF lF (g := fun q => tW l.length t (desL q) * tW l.length 1 (desL (relL (code F e) q)))]
  have := sum_mid h0 (by omega : l.length ≤ 5) (code_mem pF nF lF he) (fun q hq => by
    have l1 : (relL (code F e) q).length = l.length := by unfold relL code; rw [List.length_map, List.length_map]; exact (mem_lvG.mp he).2.1
    have := desL_le (relL (code F e) q)
    omega) ht (show 1 < 4 by omega)
  rw [this, ← falls_des, wN, lF]
theorem wN_sum {t : Nat} (ht : t ≤ 4) : sumL ((lvG l l.length).map (wN F t)) = (l.length ^ l.length) ^ t := by
  have lF := pF.length_eq
  have h1 : (lvG l l.length).map (wN F t) = (lvG l l.length).map fun m => (fun q => tW l.length t (desL q)) (code F m) := List.map_congr_left fun m hm => by
    unfold wN
    rw [falls_des, lF]
  rw [h1, sum_codes pF nF lF (g := fun q => tW l.length t (desL q)), ← Nat.pow_mul]
  by_cases z : t < 4
  · exact sum_few h0 (by omega) z
  · obtain rfl : t = 4 := by omega
    have c := chk0_all h0 h4
    unfold chk0 at c
    simp only [Bool.and_eq_true] at c
    exact eq_of_beq c.1.2
theorem wN_lt {t : Nat} (ht : t ≤ 4) {r : List Str} (hr : r ∈ lvG l l.length) : wN F t r < 1000000000 := by
  have lF := pF.length_eq
  have hq := code_mem pF nF lF hr
  unfold wN
  rw [falls_des, lF]
  by_cases z : t < 4
  · exact (des_lt h0 (by omega) hq).2 t z
  · obtain rfl : t = 4 := by omega
    have c := chk0_all h0 h4
    unfold chk0 at c
    simp only [Bool.and_eq_true] at c
    have := List.all_eq_true.mp c.2 _ hq
    simpa [Nat.blt_eq] using this
end
def dkE (L : Nat) : List (List Str) → List (List Key × Nat)
  | [] => []
  | r :: R => (rK r, L) :: dkE (L + 1) R
theorem dkE_len (L : Nat) : ∀ R, (dkE L R).length = R.length
  | [] => rfl
  | r :: R => by rw [dkE, List.length_cons, List.length_cons, dkE_len (L + 1) R]
theorem dkE_keys : ∀ (L : Nat) (R : List (List Str)), (dkE L R).map (·.1) = R.map rK
  | _, [] => rfl
  | L, r :: R => by rw [dkE, List.map_cons, List.map_cons, dkE_keys (L + 1) R]
theorem dkE_at {r : List Str} : ∀ {R : List (List Str)} {L : Nat}, r ∈ R → atK (dpkI (dkE L R)) (rK r) = some (.inl (L + R.idxOf r))
  | [], _, h => by cases h
  | q :: R, L, h => by
    have e : dpkI (dkE L (q :: R)) = (rK q, .inl L) :: dpkI (dkE (L + 1) R) := rfl
    rw [e]
    unfold atK
    rw [List.find?_cons]
    by_cases z : q = r
    · subst z
      simp
    · have z1 : decide (rK q = rK r) = false := by simpa using fun w => z (rK_inj w)
      have z2 : (q == r) = false := by simpa using z
      have hr : r ∈ R := by
        rcases List.mem_cons.mp h with w | w
        · exact absurd w.symm z
        · exact w
      have ih := dkE_at (L := L + 1) hr
      unfold atK at ih
      simp only [z1]
      rw [ih, List.idxOf_cons, z2]
      simp only [cond_false, Option.some.injEq, Sum.inl.injEq]
      omega
abbrev e56 (b : Nat) (l : List Str) (R : List (List Str)) (cs : List (List (Str × Str))) (v2 v3 v4 v5 v6 v7 v10 v11 : Option W) : DL.Env :=
  [some (.ref b), some (.dat (.list (l.map .str))), v2, v3, v4, v5, v6, v7, some (.dat (.list (R.map rowT))), some (.dat (.list (cs.map cT))), v10, v11]
section
variable {b : Nat} {l : List Str} {R0 : List (List Str)} {cs : List (List (Str × Str))}
theorem lcK_run {v4 v5 v6 v7 v10 v11 : Option W} : ∀ (R : List (List Str)) (h : Hh), lcK (gN 3) (fA tupX (fCons (fVar 3) (fCons (fDnT) (fNil)))) (e56 b l R0 cs none none v4 v5 v6 v7 v10 v11) (R.map rowT) h = some (dkE h.length R, h ++ List.replicate R.length (some (.dit [])))
  | [], h => by simp [lcK, dkE]
  | r :: R, h => by
    have c2' : 2 ≤ sizeLine := by decide
    have e1 : gN 3 (.dat (rowT r)) (e56 b l R0 cs none none v4 v5 v6 v7 v10 v11) h = some (e56 b l R0 cs none (some (.dat (rowT r))) v4 v5 v6 v7 v10 v11) := rfl
    have e2 : fA tupX (fCons (fVar 3) (fCons (fDnT) (fNil))) (e56 b l R0 cs none (some (.dat (rowT r))) v4 v5 v6 v7 v10 v11) h = some (.tpk [.inr (rowT r), .inl h.length], h ++ [some (.dit [])]) :=
      xA (xC (E := fVar 3) rfl (xC (E := fDnT) rfl xN)) (by
        unfold tupX
        simp only [packs_dat, packs_ref, packs_nil, Option.map_some]
        exact if_pos c2')
    have ek : dKeys (r.map PyData.str) = some (rK r) := dKeys_row r
    have ih := lcK_run (v4 := v4) (v5 := v5) (v6 := v6) (v7 := v7) (v10 := v10) (v11 := v11) R (h ++ [some (.dit [])])
    rw [List.map_cons, lcK]
    simp only [e1, e2, obnd]
    unfold rowT
    simp only [ek]
    unfold rowT at ih
    rw [ih]
    simp only [dkE, List.length_append, List.length_cons, List.length_nil, Nat.zero_add, List.replicate_succ, List.append_assoc, List.singleton_append]
theorem dictK_run {R : List (List Str)} {v2 v3 v4 v5 v6 v7 v10 v11 : Option W} {h : Hh} (nR : R.Nodup) (hl : R.length ≤ 1000) :
    fDictK (seqI (fVar 8)) (gN 3) (fA tupX (fCons (fVar 3) (fCons (fDnT) (fNil)))) [3] (e56 b l R cs none none v4 v5 v6 v7 v10 v11) h = some (.ref (h.length + R.length), h ++ List.replicate R.length (some (.dit [])) ++ [some (.dpk (dpkI (dkE h.length R)))]) := by
  have hz : sizeLine = 16777216 := rfl
  have e1 : seqI (fVar 8) (e56 b l R cs none none v4 v5 v6 v7 v10 v11) h = some (R.map rowT, h) := xS (E := fVar 8) (x := .list (R.map rowT)) rfl (.inl rfl)
  have e2 := lcK_run (b := b) (l := l) (R0 := R) (cs := cs) (v4 := v4) (v5 := v5) (v6 := v6) (v7 := v7) (v10 := v10) (v11 := v11) R h
  have e3 : wipeE (e56 b l R cs none none v4 v5 v6 v7 v10 v11) [3] = e56 b l R cs none none v4 v5 v6 v7 v10 v11 := rfl
  have nd : ((dkE h.length R).map (·.1)).Nodup := by
    rw [dkE_keys, List.Nodup, List.pairwise_map]
    exact List.Pairwise.imp (fun ne e => ne (rK_inj e)) nR
  unfold fDictK
  simp only [e1, obnd, e3, e2]
  rw [if_pos ⟨by rw [dkE_len]; omega, nd⟩]
  simp [Nat.add_comm]
structure BG (R : List (List Str)) (h : Hh) (b c : Nat) (st : List Str → List (List (Str × Str))) (t : List Str → List (List Str × D)) (G : Hh) : Prop where
  box : BoxAt G b c
  op : OnlyP b h G
  dk : G[h.length + R.length]? = some (some (.dpk (dpkI (dkE h.length R))))
  ct : ∀ r ∈ R, G[h.length + R.idxOf r]? = some (some (.dit (tblR (t r)))) ∧ CT r (st r) (t r)
theorem idxK_run {R : List (List Str)} {h G : Hh} {c : Nat} {st : List Str → List (List (Str × Str))} {t : List Str → List (List Str × D)} (g : BG R h b c st t G) {r : List Str} (hr : r ∈ R) : idxK (.ref (h.length + R.length)) (.dat (rowT r)) G = some (.ref (h.length + R.idxOf r), G) := by
  have ek : dKeys (r.map PyData.str) = some (rK r) := dKeys_row r
  have key : idxK (.ref (h.length + R.length)) (.dat (.tuple (r.map .str))) G = some (.ref (h.length + R.idxOf r), G) := by
    unfold idxK
    simp only [g.dk, ek, dkE_at hr, (g.ct r hr).1]
  exact key
noncomputable def ldB : SM := (sSeq (sAsg (fA (m__law_called) (fCons (fVar 3) (fCons (fVar 10) (fNil)))) (gN 7))
    (sPutT (f2 (addW false) (fGet (f2 idxK (fVar 2) (fVar 3)) (fVar 7) (fC (.int 0))) (fC (.int 1))) (f2 idxK (fVar 2) (fVar 3)) (fVar 7)))
theorem onlyP_setU {b n : Nat} {h g : Hh} {z : Option MO} (o : OnlyP b h g) (hn : h.length ≤ n) : OnlyP b h (g.set n z) := ⟨by rw [List.length_set]; exact o.len, fun i hi ne => by
  rw [List.getElem?_set_ne (by omega)]; exact o.off i hi ne⟩
theorem idx_ne {R : List (List Str)} {r q : List Str} (hr : r ∈ R) (hq : q ∈ R) (ne : q ≠ r) : R.idxOf q ≠ R.idxOf r := fun e => ne (by
  have h1 := List.getElem_idxOf (List.idxOf_lt_length_of_mem hq)
  have h2 := List.getElem_idxOf (List.idxOf_lt_length_of_mem hr)
  rw [← h1, ← h2]
  congr 1)
theorem BG.put {R : List (List Str)} {h G : Hh} {c : Nat} {st : List Str → List (List (Str × Str))} {t : List Str → List (List Str × D)} (g : BG R h b c st t G) (hb : b < h.length) {r : List Str} (hr : r ∈ R) {x : List (List Str × D)} {cs : List (List (Str × Str))} (hx : CT r cs x) :
    BG R h b c (fun q => if q = r then cs else st q) (fun q => if q = r then x else t q) (G.set (h.length + R.idxOf r) (some (.dit (tblR x)))) := by
  have hi := List.idxOf_lt_length_of_mem hr
  have lt : h.length + R.idxOf r < G.length := lt_of_get (g.ct r hr).1
  refine ⟨?_, onlyP_setU g.op (by omega), by rw [List.getElem?_set_ne (by omega)]; exact g.dk, fun q hq => ?_⟩
  · obtain ⟨d, s, k, e, rest⟩ := g.box
    exact ⟨d, s, k, by rw [List.getElem?_set_ne (by omega)]; exact e, rest⟩
  · by_cases z : q = r
    · subst z
      rw [if_pos rfl, if_pos rfl]
      exact ⟨by rw [List.getElem?_set_self lt], hx⟩
    · rw [if_neg z, if_neg z, List.getElem?_set_ne (by have := idx_ne hr hq z; omega)]
      exact g.ct q hq
theorem ld_step {R : List (List Str)} {h G : Hh} {c : Nat} {st : List Str → List (List (Str × Str))} {t : List Str → List (List Str × D)} (g : BG R h b c st t G) (hb : b < h.length) {r : List Str} (hr : r ∈ R) {cl : List (Str × Str)} (cc : CallOf r cl) (nr : r.Nodup) (r0 : 0 < r.length) (rl : r.length ≤ 1000) (sl : (st r).length ≤ 10000)
    (v4 v5 v6 v7 v11 : Option W) : ∃ x, CT r (st r ++ [cl]) x ∧ ldB (e56 b l R cs (some (.ref (h.length + R.length))) (some (.dat (rowT r))) v4 v5 v6 v7 (some (.dat (cT cl))) v11) G =
      some (.nx (e56 b l R cs (some (.ref (h.length + R.length))) (some (.dat (rowT r))) v4 v5 v6 (some (.dat (rowT (led r cl)))) (some (.dat (cT cl))) v11), G.set (h.length + R.idxOf r) (some (.dit (tblR x)))) := by
  have hz : sizeLine = 16777216 := rfl
  obtain ⟨g1, ct⟩ := g.ct r hr
  refine ⟨_, ct_more ct cl, ?_⟩
  have e1 := own_called_ok (x := rowT r) (h := G) (.inr rfl) cc nr r0 rl
  let ρ1 : DL.Env := e56 b l R cs (some (.ref (h.length + R.length))) (some (.dat (rowT r))) v4 v5 v6 (some (.dat (rowT (led r cl)))) (some (.dat (cT cl))) v11
  have ix : f2 idxK (fVar 2) (fVar 3) ρ1 G = some (.ref (h.length + R.idxOf r), G) := x2 (A := fVar 2) (B := fVar 3) rfl rfl (idxK_run g hr)
  have dr : deref G (.ref (h.length + R.idxOf r)) = some (.dict ((.none, .none) :: tblR (t r))) := by simp only [deref, g1]
  have eg : fGet (f2 idxK (fVar 2) (fVar 3)) (fVar 7) (fC (.int 0)) ρ1 G = some (.dat (.int (kN (st r) r (led r cl) : Int)), G) := by
    have dc : isDc (.ref (h.length + R.idxOf r)) G = true := by unfold isDc; rw [dr]
    have q4 : fVar 7 ρ1 G = some (.dat (rowT (led r cl)), G) := rfl
    have qn : fC (.int 0) ρ1 G = some (.dat (.int 0), G) := rfl
    have gt := getD_tblR (l := t r) (p := led r cl)
    unfold fGet
    simp only [ix, obnd, dc, if_true, q4, qn]
    unfold getW
    simp only [dr, gt, ct_get ct]
    rfl
  have pr := put_row (k := led r cl) (v := .int ((kN (st r) r (led r cl) : Int) + 1)) g1 (by have := ct.len; omega)
  unfold ldB
  refine (zA (ρ1 := ρ1) (xA (xC (E := fVar 3) rfl (xC (E := fVar 10) rfl xN)) e1) rfl).trans ?_
  exact putT_nx (o := f2 idxK (fVar 2) (fVar 3)) (i := fVar 7) (x2 eg rfl (add_i (i := (kN (st r) r (led r cl) : Int)) (j := 1))) ix rfl pr
end
theorem for_nx {IT : IM} {k : TM} {body : SM} {ds : List D} {ρ : DL.Env} {h h1 : Hh} {r : Option (Out × Hh)} (hi : IT ρ h = some (ds, h1)) (e : forL k body ds ρ h1 = r) : sFor IT k body ρ h = r := by
  unfold sFor
  simp only [hi, sbnd, e]
theorem BG.st {R : List (List Str)} {h G : Hh} {b c : Nat} {st st' : List Str → List (List (Str × Str))} {t : List Str → List (List Str × D)} (g : BG R h b c st t G) (e : ∀ r ∈ R, st r = st' r) : BG R h b c st' t G :=
  ⟨g.box, g.op, g.dk, fun r hr => by rw [← e r hr]; exact g.ct r hr⟩
section
variable {b : Nat} {l : List Str} {R : List (List Str)} {cs : List (List (Str × Str))} {h : Hh} {c : Nat} (hb : b < h.length)
include hb
theorem ld_loop {r : List Str} (hr : r ∈ R) (nr : r.Nodup) (r0 : 0 < r.length) (rl : r.length ≤ 1000) {v4 v5 v6 v11 : Option W} : ∀ (rest : List (List (Str × Str))) (st : List Str → List (List (Str × Str))) (t : List Str → List (List Str × D)) (G : Hh) (v7 v10 : Option W), BG R h b c st t G → (∀ c ∈ rest, CallOf r c) → (st r).length + rest.length ≤ 10000 →
    (∀ m, isR m v7 = false) → (∀ m, isR m v10 = false) → ∃ (t' : List Str → List (List Str × D)) (G' : Hh) (w7 w10 : Option W), BG R h b c (fun q => if q = r then st r ++ rest else st q) t' G' ∧ (∀ m, isR m w7 = false) ∧ (∀ m, isR m w10 = false) ∧
      forL (gN 10) ldB (rest.map cT) (e56 b l R cs (some (.ref (h.length + R.length))) (some (.dat (rowT r))) v4 v5 v6 v7 v10 v11) G = some (.nx (e56 b l R cs (some (.ref (h.length + R.length))) (some (.dat (rowT r))) v4 v5 v6 w7 w10 v11), G')
  | [], st, t, G, v7, v10, g, _, _, i7, i10 => ⟨t, G, v7, v10, g.st fun q _ => by by_cases z : q = r <;> simp [z], i7, i10, rfl⟩
  | cl :: rest, st, t, G, v7, v10, g, hc, hl, _, _ => by
    rw [List.length_cons] at hl
    obtain ⟨x, hx, e1⟩ := ld_step (l := l) (cs := cs) g hb hr (hc cl List.mem_cons_self) nr r0 rl (by omega) v4 v5 v6 v7 v11
    obtain ⟨t', G', w7, w10, g', i7, i10, e2⟩ := ld_loop hr nr r0 rl rest _ _ _ (some (.dat (rowT (led r cl)))) (some (.dat (cT cl))) (g.put hb hr hx) (fun d hd => hc d (List.mem_cons_of_mem _ hd)) (by rw [if_pos rfl, List.length_append, List.length_singleton]; omega) (fun _ => rfl) (fun _ => rfl)
    refine ⟨t', G', w7, w10, g'.st fun q _ => ?_, i7, i10, ?_⟩
    · by_cases z : q = r
      · simp [z]
      · simp [z]
    · have k : gN 10 (.dat (cT cl)) (e56 b l R cs (some (.ref (h.length + R.length))) (some (.dat (rowT r))) v4 v5 v6 v7 v10 v11) G = some (e56 b l R cs (some (.ref (h.length + R.length))) (some (.dat (rowT r))) v4 v5 v6 v7 (some (.dat (cT cl))) v11) := rfl
      rw [List.map_cons]
      unfold forL
      simp only [k, e1]
      exact e2
theorem fill_loop (nR : R.Nodup) (hR : ∀ r ∈ R, r.Nodup ∧ 0 < r.length ∧ r.length ≤ 1000 ∧ ∀ c ∈ cs, CallOf r c) (hc : cs.length ≤ 10000) {t0 : List Str → List (List Str × D)} {G : Hh} (g : BG R h b c (fun _ => []) t0 G) {v4 v5 v6 v11 : Option W} :
    ∃ (t' : List Str → List (List Str × D)) (G' : Hh) (w3 w7 w10 : Option W), BG R h b c (fun _ => cs) t' G' ∧ (∀ m, isR m w3 = false) ∧ (∀ m, isR m w7 = false) ∧ (∀ m, isR m w10 = false) ∧
      forL (gN 3) (sFor (seqI (fVar 9)) (gN 10) ldB) (R.map rowT) (e56 b l R cs (some (.ref (h.length + R.length))) none v4 v5 v6 none none v11) G = some (.nx (e56 b l R cs (some (.ref (h.length + R.length))) w3 v4 v5 v6 w7 w10 v11), G') := by
  obtain ⟨ρ', G', e, t', w3, w7, w10, rfl, g', i3, i7, i10⟩ := forL_end (k := gN 3) (body := sFor (seqI (fVar 9)) (gN 10) ldB) (fun j ρ G => ∃ (t' : List Str → List (List Str × D)) (w3 w7 w10 : Option W), ρ = e56 b l R cs (some (.ref (h.length + R.length))) w3 v4 v5 v6 w7 w10 v11 ∧ BG R h b c (fun q => if R.idxOf q < j then cs else []) t' G ∧ (∀ m, isR m w3 = false) ∧ (∀ m, isR m w7 = false) ∧ (∀ m, isR m w10 = false))
    (ds := R.map rowT) (ρ := e56 b l R cs (some (.ref (h.length + R.length))) none v4 v5 v6 none none v11) (h := G) ⟨t0, none, none, none, rfl, g.st fun q _ => by simp, fun _ => rfl, fun _ => rfl, fun _ => rfl⟩ (by
      rintro j d ej ρ G ⟨t, w3, w7, w10, rfl, g, i3, i7, i10⟩
      rw [List.getElem?_map] at ej
      obtain ⟨r, er, rfl⟩ := Option.map_eq_some_iff.mp ej
      obtain ⟨hj, hjr⟩ := List.getElem?_eq_some_iff.mp er
      have hr : r ∈ R := List.mem_of_getElem? er
      have ix : R.idxOf r = j := by rw [← hjr]; exact nR.idxOf_getElem j hj
      obtain ⟨q1, q2, q3, q4⟩ := hR r hr
      obtain ⟨t', G', y7, y10, g', k7, k10, e⟩ := ld_loop (l := l) (cs := cs) hb hr q1 q2 q3 cs _ t G w7 w10 g q4 (by simp only [ix, Nat.lt_irrefl, if_false]; simpa using hc) i7 i10 (v4 := v4) (v5 := v5) (v6 := v6) (v11 := v11)
      refine ⟨_, _, G', rfl, for_nx (xS (E := fVar 9) (x := .list (cs.map cT)) rfl (.inl rfl)) e, t', some (.dat (rowT r)), y7, y10, rfl, g'.st fun q hq => ?_, fun _ => rfl, k7, k10⟩
      by_cases z : q = r
      · subst z
        simp [ix]
      · have := idx_ne hr hq z
        simp only [z, if_false]
        by_cases y : R.idxOf q < j
        · rw [if_pos y, if_pos (by omega)]
        · rw [if_neg y, if_neg (by omega)])
  exact ⟨t', G', w3, w7, w10, g'.st fun q hq => by rw [List.length_map, if_pos (List.idxOf_lt_length_of_mem hq)], i3, i7, i10, e⟩
end
def tDt (t : List Str → List (List Str × D)) (r : List Str) : D := .dict ((.none, .none) :: tblR (t r))
def esj (t : List Str → List (List Str × D)) : Nat → Nat → List (List Str) → List (List Key × Sum Nat D)
  | _, _, [] => []
  | L, 0, r :: R => (rK r, .inr (tDt t r)) :: esj t (L + 1) 0 R
  | L, j + 1, r :: R => (rK r, .inl L) :: esj t (L + 1) j R
section
variable {t : List Str → List (List Str × D)}
theorem esj_all : ∀ (R : List (List Str)) (L : Nat), esj t L R.length R = dpkI (dkE L R)
  | [], _ => rfl
  | r :: R, L => by
    show (rK r, .inl L) :: esj t (L + 1) R.length R = _
    rw [esj_all R (L + 1)]
    rfl
theorem esj_get : ∀ {R : List (List Str)} {L j : Nat} {r : List Str}, R[j]? = some r → (esj t L (j + 1) R)[j]? = some (rK r, .inl (L + j))
  | [], _, _, _, h => by simp at h
  | q :: R, L, 0, r, h => by simp at h; subst h; rfl
  | q :: R, L, j + 1, r, h => by
    have := esj_get (L := L + 1) (j := j) (R := R) (r := r) (by simpa using h)
    show (esj t (L + 1) (j + 1) R)[j]? = _
    rw [this, show L + 1 + j = L + (j + 1) by omega]
theorem esj_set : ∀ {R : List (List Str)} {L j : Nat} {r : List Str}, R[j]? = some r → (esj t L (j + 1) R).set j (rK r, .inr (tDt t r)) = esj t L j R
  | [], _, _, _, h => by simp at h
  | q :: R, L, 0, r, h => by simp at h; subst h; rfl
  | q :: R, L, j + 1, r, h => by
    have := esj_set (L := L + 1) (j := j) (R := R) (r := r) (by simpa using h)
    show (rK q, .inl L) :: (esj t (L + 1) (j + 1) R).set j _ = _
    rw [this]
    rfl
theorem esj_dat : ∀ (R : List (List Str)) (L : Nat), datK (esj t L 0 R) = some (tblR (R.map fun r => (r, tDt t r)))
  | [], _ => rfl
  | r :: R, L => by
    have e : (PyData.tuple ((rK r).map kP)) = rowT r := by
      unfold rK rowT
      rw [List.map_map]; rfl
    show (datK (esj t (L + 1) 0 R)).map _ = _
    rw [esj_dat R (L + 1), Option.map_some, e]
    rfl
theorem frzN_run {R : List (List Str)} {L n : Nat} {ρ : DL.Env} {f : SM} (hn : n = L + R.length) (e2 : ρ[2]? = some (some (.ref n))) (hi : ∀ m, L ≤ m → m < n → ρ.any (isR m) = false) : ∀ (j : Nat) (G : Hh), j ≤ R.length → G[n]? = some (some (.dpk (esj t L j R))) → (∀ i r, i < j → R[i]? = some r → G[L + i]? = some (some (.dit (tblR (t r))))) →
    ∃ G', frzN 2 f j ρ G = f ρ G' ∧ G'[n]? = some (some (.dpk (esj t L 0 R))) ∧ (∀ i, i < L → G'[i]? = G[i]?) ∧ G'.length = G.length
  | 0, G, _, hG, _ => ⟨G, rfl, hG, fun _ _ => rfl, rfl⟩
  | j + 1, G, hj, hG, hc => by
    obtain ⟨r, er⟩ : ∃ r, R[j]? = some r := ⟨R[j], List.getElem?_eq_getElem (by omega)⟩
    have hm := hc j r (by omega) er
    have ha := hi (L + j) (by omega) (by omega)
    have lm := lt_of_get hm
    have ln := lt_of_get hG
    obtain ⟨G', e, q1, q2, q3⟩ := frzN_run hn e2 hi j ((G.set (L + j) none).set n (some (.dpk (esj t L j R)))) (by omega) (by rw [List.getElem?_set_self (by rw [List.length_set]; exact ln)]) (fun i q hij hq => by
      rw [List.getElem?_set_ne (by omega), List.getElem?_set_ne (by omega)]; exact hc i q (by omega) hq)
    refine ⟨G', ?_, q1, fun i hiL => ?_, by rw [q3, List.length_set, List.length_set]⟩
    · have eq : (esj t L (j + 1) R).set j (rK r, .inr (.dict ((.none, .none) :: tblR (t r)))) = esj t L j R := esj_set er
      show sFrzE 2 j (frzN 2 f j) ρ G = _
      unfold sFrzE
      simp only [e2, hG, esj_get er, hm, ha, Bool.false_eq_true, if_false, eq]
      exact e
    · rw [q2 i hiL, List.getElem?_set_ne (by omega), List.getElem?_set_ne (by omega)]
theorem frzK_run {R : List (List Str)} {h G : Hh} {b c : Nat} {st : List Str → List (List (Str × Str))} {ρ : DL.Env} {f : SM} (nR : R.Nodup) (g : BG R h b c st t G) (hb : b < h.length) (e2 : ρ[2]? = some (some (.ref (h.length + R.length)))) (hi : ∀ m, h.length ≤ m → m < h.length + R.length → ρ.any (isR m) = false) (hn : (ρ.set 2 none).any (isR (h.length + R.length)) = false) :
    ∃ G', sFrzK 2 f ρ G = f (ρ.set 2 (some (.dat (.dict ((.none, .none) :: tblR (R.map fun r => (r, tDt t r))))))) G' ∧ BoxAt G' b c ∧ OnlyP b h G' := by
  obtain ⟨G1, e1, q1, q2, q3⟩ := frzN_run (t := t) (f := sFrzO 2 f) (L := h.length) rfl e2 hi R.length G (Nat.le_refl _) (by rw [esj_all]; exact g.dk) (fun i r hiR hr => by
    obtain ⟨hlt, hir⟩ := List.getElem?_eq_some_iff.mp hr
    have := (g.ct r (List.mem_of_getElem? hr)).1
    rwa [show R.idxOf r = i by rw [← hir]; exact nR.idxOf_getElem i hlt] at this)
  have lE : (dpkI (dkE h.length R)).length = R.length := by unfold dpkI; rw [List.length_map, dkE_len]
  have o := g.op.len
  refine ⟨G1.set (h.length + R.length) none, ?_, ?_, ?_⟩
  · unfold sFrzK
    simp only [e2, g.dk, lE]
    rw [e1]
    unfold sFrzO
    simp only [e2, q1, esj_dat, hn, Bool.false_eq_true, if_false]
  · obtain ⟨d, s, k, e, rest⟩ := g.box
    exact ⟨d, s, k, by rw [List.getElem?_set_ne (by omega), q2 b hb]; exact e, rest⟩
  · refine ⟨by rw [List.length_set, q3]; exact o, fun i hi ne => ?_⟩
    rw [List.getElem?_set_ne (by omega), q2 i hi]
    exact g.op.off i hi ne
end
def rg (R : List (List Str)) (g : List Str → Nat) : List (List Str × D) := R.map fun r => (r, (.int (g r : Int) : D))
theorem look_map {α : Type} {R : List (List Str)} {r : List Str} (f : List Str → α) : ∀ {R : List (List Str)}, r ∈ R → (R.map fun q => (q, f q)).lookup r = some (f r)
  | [], h => by cases h
  | q :: R, h => by
    rw [List.map_cons, List.lookup_cons]
    by_cases z : r = q
    · subst z; simp
    · have z2 : (r == q) = false := by simpa using z
      rw [z2]
      exact look_map (R := R) f ((List.mem_cons.mp h).resolve_left z)
theorem rg_look {R : List (List Str)} {g : List Str → Nat} {r : List Str} (hr : r ∈ R) : (rg R g).lookup r = some (.int (g r : Int)) := look_map (R := R) (fun q => (.int (g q : Int) : D)) hr
theorem rg_upd {R : List (List Str)} {g : List Str → Nat} {e : List Str} {x : Nat} (he : e ∈ R) : updR (rg R g) e (.int (x : Int)) = rg R (fun r => if r = e then x else g r) := by
  unfold updR
  rw [rg_look he]
  simp only [Option.isSome_some, if_true]
  unfold rg
  rw [List.map_map]
  refine List.map_congr_left fun r _ => ?_
  show (if r = e then (r, (.int (x : Int) : D)) else (r, .int (g r : Int))) = (r, .int ((if r = e then x else g r : Nat) : Int))
  by_cases z : r = e
  · rw [if_pos z, if_pos z]
  · rw [if_neg z, if_neg z]
theorem rg_congr {R : List (List Str)} {g g' : List Str → Nat} (h : ∀ r ∈ R, g r = g' r) : rg R g = rg R g' := List.map_congr_left fun r hr => by rw [h r hr]
theorem idxT_run {m : Nat} {tb : List (List Str × D)} {G : Hh} {r : List Str} {v : D} (hm : G[m]? = some (some (.dit (tblR tb)))) (e : tb.lookup r = some v) : idxW (.ref m) (.dat (rowT r)) G = some (.dat v, G) := by
  have gt := getD_tblR (l := tb) (p := r)
  rw [e] at gt
  unfold idxW
  simp only [deref, hm, moD]
  unfold rowT at gt ⊢
  simp only [gt]
  rfl
theorem idxD_run {tb : List (List Str × D)} {G : Hh} {r : List Str} {v : D} (e : tb.lookup r = some v) : idxW (.dat (.dict ((.none, .none) :: tblR tb))) (.dat (rowT r)) G = some (.dat v, G) := by
  have gt := getD_tblR (l := tb) (p := r)
  rw [e] at gt
  unfold idxW
  simp only [deref]
  unfold rowT at gt ⊢
  simp only [gt]
  rfl
theorem pairsT_rg {g : List Str → Nat} : ∀ R : List (List Str), pairsT (R.map fun r => PyData.tuple [rowT r, .int (g r : Int)]) = some (R.map fun r => (rK r, (.int (g r : Int) : D)))
  | [] => rfl
  | r :: R => by
    have ek : dKeys (r.map PyData.str) = some (rK r) := dKeys_row r
    have ih := pairsT_rg (g := g) R
    rw [List.map_cons, List.map_cons]
    unfold rowT at ih ⊢
    unfold pairsT
    simp only [ek, ih, Option.map_some]
theorem dictT_run {R : List (List Str)} {g : List Str → Nat} {G : Hh} (nR : R.Nodup) : dictTW [.dat (.list (R.map fun r => PyData.tuple [rowT r, .int (g r : Int)]))] G = some (.ref G.length, G ++ [some (.dit (tblR (rg R g)))]) := by
  have nd : ((R.map fun r => (rK r, (.int (g r : Int) : D))).map (·.1)).Nodup := by
    rw [List.map_map, List.Nodup, List.pairwise_map]
    exact List.Pairwise.imp (fun ne e => ne (rK_inj e)) nR
  have et : (R.map fun r => (rK r, (.int (g r : Int) : D))).map entT = tblR (rg R g) := by
    unfold tblR rg
    rw [List.map_map, List.map_map]
    refine List.map_congr_left fun r _ => ?_
    show (PyData.tuple ((rK r).map kP), _) = (rowT r, _)
    have e : (PyData.tuple ((rK r).map kP)) = rowT r := by
      unfold rK rowT
      rw [List.map_map]; rfl
    rw [e]
  unfold dictTW
  simp only [deref, pairsT_rg]
  rw [if_pos nd, et]
theorem vals_run {R : List (List Str)} {g : List Str → Nat} {m : Nat} {G : Hh} {ρ : DL.Env} {E : EM} (e : E ρ G = some (.ref m, G)) (hm : G[m]? = some (some (.dit (tblR (rg R g))))) : fListVX false E ρ G = some (.dat (.list (R.map fun r => .int (g r : Int))), G) := by
  have dr : deref G (.ref m) = some (.dict ((.none, .none) :: tblR (rg R g))) := by simp only [deref, hm]
  have ev : ((PyData.none, PyData.none) :: tblR (rg R g)).tail.map (·.2) = R.map fun r => .int (g r : Int) := by
    rw [List.tail_cons]
    unfold tblR rg
    rw [List.map_map, List.map_map]
    rfl
  unfold fListVX
  simp only [e, obnd]
  unfold listVXW
  simp only [dr]
  rw [if_pos (show isT ((PyData.none, PyData.none) :: tblR (rg R g)) = true from rfl), ev]
  rfl
section
variable {b : Nat} {l : List Str} {R : List (List Str)} {cs : List (List (Str × Str))} {t : List Str → List (List Str × D)}
abbrev ldW (R : List (List Str)) (t : List Str → List (List Str × D)) : W := .dat (.dict ((.none, .none) :: tblR (R.map fun r => (r, tDt t r))))
theorem ldK_run {s : List Str} (hs : s ∈ R) {G : Hh} : idxK (ldW R t) (.dat (rowT s)) G = some (.dat (tDt t s), G) := by
  have e : idxK (ldW R t) (.dat (rowT s)) G = idxW (ldW R t) (.dat (rowT s)) G := rfl
  rw [e]
  exact idxD_run (look_map (R := R) (fun q => tDt t q) hs)
noncomputable def upB : SM := (sPutT (f2 (addW false) (f2 idxW (fVar 11) (fVar 7)) (f2 (mulW false) (f2 idxW (fVar 5) (fVar 3)) (f2 idxW (f2 idxK (fVar 2) (fVar 3)) (fVar 7)))) (fVar 11) (fVar 7))
theorem up_step {s e : List Str} (hs : s ∈ R) (he : e ∈ R) {Wg g : List Str → Nat} {m n : Nat} {k : Nat} {G : Hh} (hm : G[m]? = some (some (.dit (tblR (rg R Wg))))) (hn : G[n]? = some (some (.dit (tblR (rg R g))))) (hk : (t s).lookup e = some (.int (k : Int))) (hw : Wg s < 1000000000) (hl : R.length ≤ 1000) {v4 v6 v10 : Option W} :
    upB (e56 b l R cs (some (ldW R t)) (some (.dat (rowT s))) v4 (some (.ref m)) v6 (some (.dat (rowT e))) v10 (some (.ref n))) G = some (.nx (e56 b l R cs (some (ldW R t)) (some (.dat (rowT s))) v4 (some (.ref m)) v6 (some (.dat (rowT e))) v10 (some (.ref n))), G.set n (some (.dit (tblR (rg R (fun r => if r = e then g e + Wg s * k else g r)))))) := by
  let ρ1 : DL.Env := e56 b l R cs (some (ldW R t)) (some (.dat (rowT s))) v4 (some (.ref m)) v6 (some (.dat (rowT e))) v10 (some (.ref n))
  have a1 : f2 idxW (fVar 11) (fVar 7) ρ1 G = some (.dat (.int (g e : Int)), G) := x2 (A := fVar 11) (B := fVar 7) rfl rfl (idxT_run hn (rg_look he))
  have a2 : f2 idxW (fVar 5) (fVar 3) ρ1 G = some (.dat (.int (Wg s : Int)), G) := x2 (A := fVar 5) (B := fVar 3) rfl rfl (idxT_run hm (rg_look hs))
  have a3 : f2 idxK (fVar 2) (fVar 3) ρ1 G = some (.dat (tDt t s), G) := x2 (A := fVar 2) (B := fVar 3) rfl rfl (ldK_run hs)
  have a4 : f2 idxW (f2 idxK (fVar 2) (fVar 3)) (fVar 7) ρ1 G = some (.dat (.int (k : Int)), G) := x2 (B := fVar 7) a3 rfl (idxD_run hk)
  have a5 := x2 (f := mulW false) a2 a4 (mul_i (i := (Wg s : Int)) (j := (k : Int)) (by omega) (by omega))
  have a6 := x2 (f := addW false) a1 a5 (add_i (i := (g e : Int)) (j := (Wg s : Int) * (k : Int)))
  have pr := put_row (k := e) (v := .int ((g e : Int) + (Wg s : Int) * (k : Int))) hn (by unfold rg; rw [List.length_map]; omega)
  have ex : (g e : Int) + (Wg s : Int) * (k : Int) = ((g e + Wg s * k : Nat) : Int) := by rw [Int.natCast_add, Int.natCast_mul]
  rw [ex] at pr a6
  rw [rg_upd he] at pr
  exact putT_nx (o := fVar 11) (i := fVar 7) a6 rfl rfl pr
theorem up_loop {s : List Str} (hs : s ∈ R) {Wg : List Str → Nat} {m n : Nat} (ne : m ≠ n) (hw : Wg s < 1000000000) (hl : R.length ≤ 1000) {v4 v6 v10 : Option W} : ∀ (ks : List (List Str × Nat)) (g : List Str → Nat) (G : Hh) (v7 : Option W), (∀ p ∈ ks, p.1 ∈ R ∧ (t s).lookup p.1 = some (.int (p.2 : Int))) → (ks.map (·.1)).Nodup →
    G[m]? = some (some (.dit (tblR (rg R Wg)))) → G[n]? = some (some (.dit (tblR (rg R g)))) → ∃ w7 : Option W, forL (gN 7) upB (ks.map fun p => rowT p.1) (e56 b l R cs (some (ldW R t)) (some (.dat (rowT s))) v4 (some (.ref m)) v6 v7 v10 (some (.ref n))) G =
      some (.nx (e56 b l R cs (some (ldW R t)) (some (.dat (rowT s))) v4 (some (.ref m)) v6 w7 v10 (some (.ref n))), G.set n (some (.dit (tblR (rg R (fun r => g r + Wg s * (ks.lookup r).getD 0))))))
  | [], g, G, v7, _, _, hm, hn => ⟨v7, by
    have : rg R (fun r => g r + Wg s * (([] : List (List Str × Nat)).lookup r).getD 0) = rg R g := rg_congr fun r _ => by simp
    rw [this]
    have e : G.set n (some (.dit (tblR (rg R g)))) = G := by
      apply List.ext_getElem?
      intro i
      by_cases z : n = i
      · subst z; rw [List.getElem?_set_self (lt_of_get hn), hn]
      · rw [List.getElem?_set_ne z]
    rw [e]; rfl⟩
  | (e, k) :: ks, g, G, v7, hk, nd, hm, hn => by
    obtain ⟨he, hlk⟩ := hk (e, k) List.mem_cons_self
    have lt := lt_of_get hn
    have e1 := up_step (b := b) (l := l) (cs := cs) (t := t) (v4 := v4) (v6 := v6) (v10 := v10) hs he hm hn hlk hw hl
    rw [List.map_cons, List.nodup_cons] at nd
    obtain ⟨w7, e2⟩ := up_loop hs ne hw hl ks (fun r => if r = e then g e + Wg s * k else g r) (G.set n (some (.dit (tblR (rg R (fun r => if r = e then g e + Wg s * k else g r)))))) (some (.dat (rowT e))) (fun p hp => hk p (List.mem_cons_of_mem _ hp)) nd.2 (by rw [List.getElem?_set_ne (Ne.symm ne)]; exact hm) (by rw [List.getElem?_set_self lt]) (v4 := v4) (v6 := v6) (v10 := v10)
    refine ⟨w7, ?_⟩
    have kk : gN 7 (.dat (rowT e)) (e56 b l R cs (some (ldW R t)) (some (.dat (rowT s))) v4 (some (.ref m)) v6 v7 v10 (some (.ref n))) G = some (e56 b l R cs (some (ldW R t)) (some (.dat (rowT s))) v4 (some (.ref m)) v6 (some (.dat (rowT e))) v10 (some (.ref n))) := rfl
    rw [List.map_cons]
    unfold forL
    simp only [kk, e1]
    rw [e2, List.set_set]
    have : rg R (fun r => (if r = e then g e + Wg s * k else g r) + Wg s * (ks.lookup r).getD 0) = rg R (fun r => g r + Wg s * (((e, k) :: ks).lookup r).getD 0) := rg_congr fun r _ => by
      rw [List.lookup_cons]
      by_cases z : r = e
      · subst z
        have : ks.lookup r = none := by
          rw [List.lookup_eq_none_iff]
          intro p hp
          have : p.1 ≠ r := fun z => nd.1 (List.mem_map.mpr ⟨p, hp, z⟩)
          simpa using Ne.symm this
        rw [if_pos rfl, this, beq_self_eq_true]
        simp
      · have z2 : (r == e) = false := by simpa using z
        rw [if_neg z, z2]
    rw [this]
def ctL (cs : List (List (Str × Str))) (s : List Str) (tb : List (List Str × D)) : List (List Str × Nat) := tb.map fun e => (e.1, kN cs s e.1)
theorem lookup_mem {α : Type} {p : List Str × α} : ∀ {l : List (List Str × α)}, p ∈ l → (l.lookup p.1).isSome = true
  | [], h => by cases h
  | (x1, x2) :: l, h => by
    rw [List.lookup_cons]
    by_cases z : (p.1 == x1) = true
    · rw [z]; rfl
    · rcases List.mem_cons.mp h with q | q
      · subst q; simp at z
      · have z : (p.1 == x1) = false := by simpa using z
        rw [z]; exact lookup_mem q
theorem ct_some {s : List Str} {tb : List (List Str × D)} (ct : CT s cs tb) {e : List Str × D} (he : e ∈ tb) : tb.lookup e.1 = some (.int (kN cs s e.1 : Int)) := by
  have h := lookup_mem he
  rw [ct.look e.1] at h ⊢
  by_cases z : fl s cs e.1 = []
  · rw [if_pos z] at h; cases h
  · rw [if_neg z]
theorem ctL_get {s : List Str} {tb : List (List Str × D)} (ct : CT s cs tb) (r : List Str) : ((ctL cs s tb).lookup r).getD 0 = kN cs s r := by
  have key : ∀ {tb : List (List Str × D)}, (tb.map fun e => (e.1, kN cs s e.1)).lookup r = if (tb.lookup r).isSome = true then some (kN cs s r) else none := by
    intro tb
    induction tb with
    | nil => rfl
    | cons e tb ih =>
      obtain ⟨e1, e2⟩ := e
      rw [List.map_cons, List.lookup_cons, List.lookup_cons]
      by_cases z : r = e1
      · subst z; simp
      · have z2 : (r == e1) = false := by simpa using z
        rw [z2]
        exact ih
  unfold ctL
  rw [key, ct.look r]
  by_cases z : fl s cs r = []
  · rw [if_pos z, kN, z]; rfl
  · rw [if_neg z]; rfl
theorem keysT_run {tb : List (List Str × D)} {f : EM} {ρ : DL.Env} {G : Hh} (e : f ρ G = some (.dat (.dict ((.none, .none) :: tblR tb)), G)) : keysTI f ρ G = some (tb.map fun x => rowT x.1, G) := by
  have al : (tblR tb).all (fun e => !bareK e.1) = true := by
    rw [List.all_eq_true]
    intro x hx
    obtain ⟨y, _, rfl⟩ := List.mem_map.mp hx
    show (!pairD (y.1.map PyData.str)) = true
    rw [pairD_row]; rfl
  unfold keysTI
  simp only [e, obnd, al, if_true]
  unfold tblR
  rw [List.map_map]
  rfl
theorem sums_snoc (f : List Str → Nat) : ∀ (P : List (List Str)) (s : List Str), sumL ((P ++ [s]).map f) = sumL (P.map f) + f s
  | [], s => by show f s + 0 = 0 + f s; omega
  | p :: P, s => by
    have := sums_snoc f P s
    show f p + sumL ((P ++ [s]).map f) = f p + sumL (P.map f) + f s
    omega
theorem add_loop (nR : R.Nodup) (hct : ∀ s ∈ R, CT s cs (t s)) (hR : ∀ s ∈ R, ∀ c ∈ cs, led s c ∈ R) {Wg : List Str → Nat} {m n : Nat} (ne : m ≠ n) (hw : ∀ s ∈ R, Wg s < 1000000000) (hl : R.length ≤ 1000) {v4 v6 v10 : Option W} {v3 v7 : Option W} {G : Hh} (hm : G[m]? = some (some (.dit (tblR (rg R Wg))))) (hn : G[n]? = some (some (.dit (tblR (rg R fun _ => 0))))) :
    ∃ w3 w7 : Option W, forL (gN 3) (sFor (keysTI (f2 idxK (fVar 2) (fVar 3))) (gN 7) upB) (R.map rowT) (e56 b l R cs (some (ldW R t)) v3 v4 (some (.ref m)) v6 v7 v10 (some (.ref n))) G =
      some (.nx (e56 b l R cs (some (ldW R t)) w3 v4 (some (.ref m)) v6 w7 v10 (some (.ref n))), G.set n (some (.dit (tblR (rg R (fun r => sumL (R.map fun s => Wg s * kN cs s r))))))) := by
  obtain ⟨ρ', G', e, w3, w7, rfl, rfl⟩ := forL_end (k := gN 3) (body := sFor (keysTI (f2 idxK (fVar 2) (fVar 3))) (gN 7) upB) (fun j ρ G1 => ∃ w3 w7 : Option W, ρ = e56 b l R cs (some (ldW R t)) w3 v4 (some (.ref m)) v6 w7 v10 (some (.ref n)) ∧ G1 = G.set n (some (.dit (tblR (rg R (fun r => sumL ((R.take j).map fun s => Wg s * kN cs s r)))))))
    (ds := R.map rowT) (ρ := e56 b l R cs (some (ldW R t)) v3 v4 (some (.ref m)) v6 v7 v10 (some (.ref n))) (h := G) ⟨v3, v7, rfl, by
      have : rg R (fun r => sumL ((R.take 0).map fun s => Wg s * kN cs s r)) = rg R (fun _ => 0) := rfl
      rw [this]
      apply List.ext_getElem?
      intro i
      by_cases z : n = i
      · subst z; rw [List.getElem?_set_self (lt_of_get hn), hn]
      · rw [List.getElem?_set_ne z]⟩ (by
      rintro j d ej ρ G1 ⟨w3, w7, rfl, rfl⟩
      rw [List.getElem?_map] at ej
      obtain ⟨s, es, rfl⟩ := Option.map_eq_some_iff.mp ej
      have hs : s ∈ R := List.mem_of_getElem? es
      have hj := lt_of_get es
      have lt := lt_of_get hn
      have ct := hct s hs
      obtain ⟨y7, e2⟩ := up_loop (b := b) (l := l) (cs := cs) (t := t) (v4 := v4) (v6 := v6) (v10 := v10) hs ne (hw s hs) hl (ctL cs s (t s)) (fun r => sumL ((R.take j).map fun s => Wg s * kN cs s r)) (G.set n (some (.dit (tblR (rg R (fun r => sumL ((R.take j).map fun s => Wg s * kN cs s r))))))) w7 (fun p hp => by
        obtain ⟨x, hx, rfl⟩ := List.mem_map.mp hp
        obtain ⟨c, hc, ec⟩ := ct.keys x hx
        exact ⟨by show x.1 ∈ R; rw [ec]; exact hR s hs c hc, ct_some ct hx⟩) (by
        have : (ctL cs s (t s)).map (·.1) = (t s).map (·.1) := by unfold ctL; rw [List.map_map]; rfl
        rw [this]; exact ct.nd) (by rw [List.getElem?_set_ne (Ne.symm ne)]; exact hm) (by rw [List.getElem?_set_self lt])
      have ek : (ctL cs s (t s)).map (fun p => rowT p.1) = (t s).map fun x => rowT x.1 := by unfold ctL; rw [List.map_map]; rfl
      rw [ek, List.set_set] at e2
      refine ⟨_, _, _, rfl, for_nx (keysT_run (tb := t s) (x2 (A := fVar 2) (B := fVar 3) rfl rfl (ldK_run hs))) e2, some (.dat (rowT s)), y7, rfl, ?_⟩
      congr 4
      refine rg_congr fun r _ => ?_
      have ts : R.take (j + 1) = R.take j ++ [s] := by rw [List.take_succ, es]; rfl
      rw [ts, sums_snoc, ctL_get ct])
  rw [List.length_map, List.take_length] at e
  exact ⟨w3, w7, e⟩
end
theorem not_t' {E : EM} {ρ : DL.Env} {h h1 : Hh} (e : E ρ h = some (.dat (.bool true), h1)) : bNot (fB E) ρ h = some (false, h1) := by
  unfold bNot fB
  simp only [e, obnd]
  rfl
section
variable {ρ : DL.Env} {h h1 : Hh}
theorem xAe {E : EM} {k : TM} {w : W} {ρ ρ1 : DL.Env} {h h1 : Hh} (he : E ρ h = some (w, h1)) (hk : k w ρ h1 = some ρ1) : sAsg E k ρ h = some (.nx ρ1, h1) := by
  unfold sAsg
  simp only [he, sbnd, hk]
end
theorem wm_runL {XL YL : List D} {z s f P A q : Int} {m : Nat} {v' : Option W} {IT : List D} {h : Hh} (hs : (XL.length : Int) = s) (e1 : m_falls [.dat (.list XL), .dat (.list YL)] h = some (.dat (.int f), h)) (b0 : -1000000000 ≤ z) (b1 : z ≤ 1000000000) (hm : z.toNat = m) (hi : rngD 0 m = IT) (e2 : forL (gN 4) wmB IT [some (.dat (.list XL)), some (.dat (.list YL)), some (.dat (.int z)), some (.dat (.int f)), none, some (.dat (.int s)), some (.dat (.int 1))] h = some (.nx [some (.dat (.list XL)), some (.dat (.list YL)), some (.dat (.int z)), some (.dat (.int f)), v', some (.dat (.int s)), some (.dat (.int P))], h)) (hA : P + s - 1 - f = A) (e3 : m_choices [.dat (.int A), .dat (.int s)] h = some (.dat (.int q), h)) : m_words_many [.dat (.list XL), .dat (.list YL), .dat (.int z)] h = some (.dat (.int q), h) := by
  have lv := leave_same' (h := h) (d := .int q)
  unfold wmB at e2
  unfold m_words_many
  walk_at "dl"
theorem wordsL {F R : List Str} {z n : Nat} {h : Hh} (p : F.Perm R) (nF : F.Nodup) (tF : Txts F) (hn : F.length = n) (h0 : 0 < n) (hl : n ≤ 5) (hz : z ≤ 6) : m_words_many [.dat (.list (F.map .str)), .dat (.list (R.map .str)), .dat (.int (z : Int))] h = some (.dat (.int (tW n z (fallsN F R) : Int)), h) := by
  have e1 := falls_ok (h := h) (x := .list (F.map .str)) (y := .list (R.map .str)) (.inl rfl) (.inl rfl) p nF (by omega) tF
  have fb := falls_topN (r := F) (m := R)
  have lR := p.length_eq
  obtain ⟨v', e2⟩ := loop_pow (body := wmB) (k := gN 4) (n := z) (B := n) (h := h) (ds := rngD 0 z) (fun j v => [some (.dat (.list (F.map .str))), some (.dat (.list (R.map .str))), some (.dat (.int (z : Int))), some (.dat (.int (fallsN F R : Int))), v, some (.dat (.int (n : Int))), some (.dat (.int ((n ^ j : Nat) : Int)))]) (fun j d v => by
    have et := wm_turn (r := ((n ^ j : Nat) : Int)) (s := (n : Int)) (v0 := some (.dat (.list (F.map .str)))) (v1 := some (.dat (.list (R.map .str)))) (v2 := some (.dat (.int (z : Int)))) (v3 := some (.dat (.int (fallsN F R : Int)))) (v4 := some (.dat d)) (h := h) (by omega) (by omega)
    rw [cast_pow] at et
    exact ⟨_, rfl, some (.dat d), et⟩) none (rng_len z)
  have pl : n ^ z ≤ 5 ^ 6 := Nat.le_trans (Nat.pow_le_pow_left hl z) (Nat.pow_le_pow_right (by omega) hz)
  have pp : 0 < n ^ z := Nat.pow_pos h0
  have e3 := choicesN (h := h) (N := n ^ z + n - 1 - fallsN F R) (n := n) (by omega) (by omega)
  exact wm_runL (s := (n : Int)) (P := ((n ^ z : Nat) : Int)) (A := ((n ^ z + n - 1 - fallsN F R : Nat) : Int)) (m := z) (by rw [List.length_map, hn]) e1 (by omega) (by omega) rfl rfl (by exact e2) (by omega) e3
noncomputable def sameE : EM := (fA (m__law_same 12) (fCons (fLc false (seqI (fVar 8)) (gN 3) (bYes) (fA (m_words_many) (fCons (fVar 4) (fCons (fVar 3) (fCons (fVar 6) (fNil))))) [3]) (fCons (fLc false (seqI (fVar 8)) (gN 3) (bYes) (f2 idxW (fVar 5) (fVar 3)) [3]) (fNil))))
noncomputable def sumE : EM := (f2 (eqW true) (fA sumW (fCons (fListVX false (fVar 5)) (fNil))) (fA (m__law_power) (fCons (fA lenW (fCons (fVar 9) (fNil))) (fCons (fVar 6) (fNil)))))
noncomputable def zeroE : EM := (fA dictTW (fCons (fLc false (seqI (fVar 8)) (gN 3) (bYes) (fA tupW (fCons (fVar 3) (fCons (fC (.int 0)) (fNil)))) [3]) (fNil)))
noncomputable def trB : SM := (sSeq (sIf (bNot (fB sameE)) (sRet (fC (.bool false))) (sSkip))
    (sSeq (sIf (fB sumE) (sRet (fC (.bool false))) (sSkip))
    (sSeq (sAsg zeroE (gN 11))
    (sSeq (sFor (seqI (fVar 8)) (gN 3) (sFor (keysTI (f2 idxK (fVar 2) (fVar 3))) (gN 7) upB))
    (sAsg (fVar 11) (gN 5))))))
noncomputable def oneE : EM := (fA dictTW (fCons (fLc false (seqI (fVar 8)) (gN 3) (bYes) (fA tupW (fCons (fVar 3) (fCons (fA intC (fCons (f2 (eqW false) (fVar 3) (fVar 4)) (fNil))) (fNil)))) [3]) (fNil)))
theorem right_eq : m__law_right = fnM false 1 12 (sSeq (sAsg (fA (m__law_names) (fCons (fVar 0) (fCons (fC (.int 4)) (fNil)))) (gN 1))
    (sSeq (sPar (fCons (fA (m__law_all_rows) (fCons (fVar 1) (fNil))) (fCons (fA (m__law_all_calls) (fCons (fVar 1) (fNil))) (fNil))) [8, 9])
    (sSeq (sAsg (fDictK (seqI (fVar 8)) (gN 3) (fA tupX (fCons (fVar 3) (fCons (fDnT) (fNil)))) [3]) (gN 2))
    (sSeq (sFor (seqI (fVar 8)) (gN 3) (sFor (seqI (fVar 9)) (gN 10) ldB))
    (sFrzK 2 (sSeq (sAsg (fA (m__law_pick) (fCons (fVar 0) (fCons (fVar 8) (fNil)))) (gN 4))
    (sSeq (sAsg oneE (gN 5))
    (sSeq (sFor (rng1I (fCons (f2 (addW false) (fC (.int 2)) (fA (m__law_take) (fCons (fVar 0) (fCons (fC (.int 4)) (fNil))))) (fNil))) (gN 6) trB)
    (sSeq (sAsg (fA (m__law_pick) (fCons (fVar 0) (fCons (fVar 8) (fNil)))) (gN 7))
    (sRet (fA (m__law_same 12) (fCons (fA (kwM 3 [2, 1, 0] (m_words_many)) (fCons (fC (.int 1)) (fCons (fA (listW false) (fCons (fVar 7) (fNil))) (fCons (fA (listW false) (fCons (fVar 4) (fNil))) (fNil))))) (fCons (fGet (f2 idxK (fVar 2) (fVar 4)) (fVar 7) (fC (.int 0))) (fNil)))))))))))))) := rfl
section
variable {b : Nat} {l : List Str} {t : List Str → List (List Str × D)}
theorem tabE_run {R : List (List Str)} {cs : List (List (Str × Str))} {E : EM} {g : List Str → Nat} {v2 v3 v4 v5 v6 v7 v10 v11 : Option W} {G : Hh} (nR : R.Nodup) (hl : R.length ≤ 1000) (hE : ∀ r ∈ R, E (e56 b l R cs v2 (some (.dat (rowT r))) v4 v5 v6 v7 v10 v11) G = some (.dat (.int (g r : Int)), G)) :
    fA dictTW (fCons (fLc false (seqI (fVar 8)) (gN 3) (bYes) (fA tupW (fCons (fVar 3) (fCons E (fNil)))) [3]) (fNil)) (e56 b l R cs v2 v3 v4 v5 v6 v7 v10 v11) G = some (.ref G.length, G ++ [some (.dit (tblR (rg R g)))]) := by
  have hz : sizeLine = 16777216 := rfl
  have c2' : 2 ≤ sizeLine := by decide
  have li : lcL (gN 3) bYes (fA tupW (fCons (fVar 3) (fCons E (fNil)))) (e56 b l R cs v2 none v4 v5 v6 v7 v10 v11) (R.map rowT) G = some (R.map fun r => PyData.tuple [rowT r, .int (g r : Int)], G) :=
    lcL_list rowT (fun r => PyData.tuple [rowT r, .int (g r : Int)]) fun r hr => ⟨_, rfl, xA (xC (E := fVar 3) rfl (xC (hE r hr) xN)) (xTp (ds := [rowT r, .int (g r : Int)]) rfl c2')⟩
  exact xA (xC (xL (vs := [3]) (xS (E := fVar 8) (x := .list (R.map rowT)) rfl (.inl rfl)) li (by rw [List.length_map]; omega)) xN) (dictT_run nR)
theorem ints_run {R : List (List Str)} {cs : List (List (Str × Str))} {E : EM} {g : List Str → Nat} {v2 v3 v4 v5 v6 v7 v10 v11 : Option W} {G : Hh} (hl : R.length ≤ 1000) (hE : ∀ r ∈ R, E (e56 b l R cs v2 (some (.dat (rowT r))) v4 v5 v6 v7 v10 v11) G = some (.dat (.int (g r : Int)), G)) :
    fLc false (seqI (fVar 8)) (gN 3) (bYes) E [3] (e56 b l R cs v2 v3 v4 v5 v6 v7 v10 v11) G = some (.dat (.list (R.map fun r => .int (g r : Int))), G) := by
  have hz : sizeLine = 16777216 := rfl
  have li : lcL (gN 3) bYes E (e56 b l R cs v2 none v4 v5 v6 v7 v10 v11) (R.map rowT) G = some (R.map fun r => PyData.int (g r : Int), G) :=
    lcL_list rowT (fun r => PyData.int (g r : Int)) fun r hr => ⟨_, rfl, hE r hr⟩
  exact xL (vs := [3]) (xS (E := fVar 8) (x := .list (R.map rowT)) rfl (.inl rfl)) li (by rw [List.length_map]; omega)
variable {F : List Str} (nl : l.Nodup) (pF : F.Perm l) (h0 : 0 < l.length) (h4 : l.length ≤ 4) (tl : Txts l) (srt : sortS l = l)
include nl pF h0 h4 tl srt
theorem rows_of {r : List Str} (hr : r ∈ lvG l l.length) : r.Perm l ∧ r.Nodup ∧ r.length = l.length ∧ Txts r := by
  have p := perm_of_lv nl rfl hr
  exact ⟨p, p.nodup_iff.mpr nl, p.length_eq, tl.perm p⟩
omit pF in
theorem row_in {r : List Str} (p : r.Perm l) : r ∈ lvG l l.length := mem_lvG.mpr ⟨p.nodup_iff.mpr nl, p.length_eq, fun x hx => p.mem_iff.mp hx⟩
theorem turn_ok (hct : ∀ s ∈ lvG l l.length, CT s (allF l l [[]]) (t s)) (hl : (lvG l l.length).length ≤ 1000) {j : Nat} (hj : j ≤ 4) {m : Nat} {G : Hh} (hm : G[m]? = some (some (.dit (tblR (rg (lvG l l.length) (wN F j)))))) (v3 v7 v10 v11 : Option W) :
    ∃ (w3 w7 : Option W) (g' : List Str → Nat), (∀ r ∈ lvG l l.length, j < 4 → g' r = wN F (j + 1) r) ∧ trB (e56 b l (lvG l l.length) (allF l l [[]]) (some (ldW (lvG l l.length) t)) v3 (some (.dat (rowT F))) (some (.ref m)) (some (.dat (.int (j : Int)))) v7 v10 v11) G =
      some (.nx (e56 b l (lvG l l.length) (allF l l [[]]) (some (ldW (lvG l l.length) t)) w3 (some (.dat (rowT F))) (some (.ref G.length)) (some (.dat (.int (j : Int)))) w7 v10 (some (.ref G.length))), G ++ [some (.dit (tblR (rg (lvG l l.length) g')))]) := by
  have hz : sizeLine = 16777216 := rfl
  have nF : F.Nodup := pF.nodup_iff.mpr nl
  have lF := pF.length_eq
  have tF := tl.perm pF
  obtain ⟨R, hR⟩ : ∃ R, lvG l l.length = R := ⟨_, rfl⟩
  have nR : R.Nodup := by rw [← hR]; exact nodup_lvG nl _
  obtain ⟨cs, hcs⟩ : ∃ cs, allF l l [[]] = cs := ⟨_, rfl⟩
  have rw_ : ∀ r ∈ R, r.Perm l ∧ r.Nodup ∧ r.length = l.length ∧ Txts r := fun r hr => rows_of nl pF h0 h4 tl srt (by rw [hR]; exact hr)
  have kk : ∀ s ∈ R, ∀ r ∈ R, kN cs s r = tW l.length 1 (fallsN s r) := fun s hs r hr => by
    obtain ⟨p1, _, l1, _⟩ := rw_ s hs
    obtain ⟨p2, _, _, _⟩ := rw_ r hr
    rw [← hcs, kN_tW p1 nl srt h0 (by omega) tl (p2.trans p1.symm), l1]
  have nx : ∀ r ∈ R, j < 4 → sumL (R.map fun s => wN F j s * kN cs s r) = wN F (j + 1) r := fun r hr q => by
    have := wN_next pF nF h0 h4 (by rw [hR]; exact hr) q
    rw [hR] at this
    rw [← this]
    congr 1
    exact List.map_congr_left fun s hs => by rw [kk s hs r hr]
  have sm := wN_sum pF nF h0 h4 hj
  have lt : ∀ r ∈ R, wN F j r < 1000000000 := fun r hr => wN_lt pF nF h0 h4 hj (by rw [hR]; exact hr)
  have cl : cs.length = l.length ^ l.length := by rw [← hcs, allF_len]; show 1 * _ = _; rw [Nat.one_mul]
  have cl2 : cs.length ≤ 256 := by
    rw [cl]
    match l.length, h4 with
    | 0, _ => decide
    | 1, _ => decide
    | 2, _ => decide
    | 3, _ => decide
    | 4, _ => decide
  have inR : ∀ s ∈ R, ∀ c ∈ cs, led s c ∈ R := fun s hs c _ => by
    rw [← hR]
    exact row_in nl h0 h4 tl srt ((led_perm s c).trans (rw_ s hs).1)
  rw [hR] at hct hl hm sm ⊢
  rw [hcs] at hct ⊢
  let ρ : DL.Env := e56 b l R cs (some (ldW R t)) v3 (some (.dat (rowT F))) (some (.ref m)) (some (.dat (.int (j : Int)))) v7 v10 v11
  have w1 := ints_run (b := b) (l := l) (R := R) (cs := cs) (E := fA (m_words_many) (fCons (fVar 4) (fCons (fVar 3) (fCons (fVar 6) (fNil))))) (g := wN F j) (v2 := some (ldW R t)) (v3 := v3) (v4 := some (.dat (rowT F))) (v5 := some (.ref m)) (v6 := some (.dat (.int (j : Int)))) (v7 := v7) (v10 := v10) (v11 := v11) (G := G) hl fun r hr => by
    have := wordsN (h := G) (F := F) (R := r) (z := j) (n := l.length) (pF.trans (rw_ r hr).1.symm) nF tF lF h0 (by omega) (by omega)
    unfold wN
    rw [lF]
    exact xA (xC (E := fVar 4) rfl (xC (E := fVar 3) rfl (xC (E := fVar 6) rfl xN))) this
  have w2 := ints_run (b := b) (l := l) (R := R) (cs := cs) (E := f2 idxW (fVar 5) (fVar 3)) (g := wN F j) (v2 := some (ldW R t)) (v3 := v3) (v4 := some (.dat (rowT F))) (v5 := some (.ref m)) (v6 := some (.dat (.int (j : Int)))) (v7 := v7) (v10 := v10) (v11 := v11) (G := G) hl fun r hr => x2 (A := fVar 5) (B := fVar 3) rfl rfl (idxT_run hm (rg_look hr))
  have sa : sameE ρ G = some (.dat (.bool true), G) := xA (xC w1 (xC w2 xN)) (same_refl 12 _ G (by
    have := plain_nums (fun r => (wN F j r : Int)) R
    simp only [plainD, List.length_map, Bool.and_eq_true, decide_eq_true_eq]
    exact ⟨this, by omega⟩) (by
    rw [PyData.depth, depth_nums]; omega))
  have vs := vals_run (E := fVar 5) (ρ := ρ) (G := G) rfl hm
  have su : sumE ρ G = some (.dat (.bool false), G) := by
    have e1 : sumW [.dat (.list (R.map fun r => PyData.int (wN F j r : Int)))] G = some (.dat (.int (((cs.length ^ j : Nat)) : Int)), G) := by
      have a := rows_ints R (wN F j)
      have c := rows_sum R (wN F j)
      unfold sumW lW
      simp only [deref, a, c, sm, ← cl]
      rfl
    have e2 : fA lenW (fCons (fVar 9) (fNil)) ρ G = some (.dat (.int (cs.length : Int)), G) := xA (xC (E := fVar 9) rfl xN) (by
      show lenW [.dat (.list (cs.map cT))] G = _
      have : lenW [.dat (.list (cs.map cT))] G = some (.dat (.int ((cs.map cT).length : Int)), G) := rfl
      rw [this, List.length_map])
    exact x2 (xA (xC vs xN) e1) (xA (xC e2 (xC (E := fVar 6) rfl xN)) (power_ok (h := G) (B := cs.length) (z := j) (by omega) (by omega))) (ne_i (b := true) (decide_eq_true rfl))
  have ze := tabE_run (b := b) (l := l) (R := R) (cs := cs) (E := fC (.int 0)) (g := fun _ => 0) (v2 := some (ldW R t)) (v3 := v3) (v4 := some (.dat (rowT F))) (v5 := some (.ref m)) (v6 := some (.dat (.int (j : Int)))) (v7 := v7) (v10 := v10) (v11 := v11) (G := G) nR hl fun r _ => rfl
  have ml := lt_of_get hm
  obtain ⟨w3, w7, ad⟩ := add_loop (b := b) (l := l) (R := R) (cs := cs) (t := t) nR hct inR (Wg := wN F j) (m := m) (n := G.length) (by omega) lt hl (v3 := v3) (v4 := some (.dat (rowT F))) (v6 := some (.dat (.int (j : Int)))) (v7 := v7) (v10 := v10) (G := G ++ [some (.dit (tblR (rg R fun _ => 0)))]) (by rw [List.getElem?_append_left ml]; exact hm) (app_get rfl)
  rw [app_set rfl] at ad
  refine ⟨w3, w7, _, nx, ?_⟩
  unfold trB
  refine (zI (not_t' sa)).trans ?_
  refine (zI (xB' su)).trans ?_
  refine (zA ze rfl).trans ?_
  refine (zF (xS (E := fVar 8) (x := .list (R.map rowT)) rfl (.inl rfl)) ad).trans ?_
  exact xAe (w := .ref G.length) rfl rfl
end
theorem eq_rowI {a c : List Str} {ρ : DL.Env} {G : Hh} {A B : EM} (ta : Txts a) (tc : Txts c) (ea : A ρ G = some (.dat (rowT a), G)) (eb : B ρ G = some (.dat (rowT c), G)) : fA intC (fCons (f2 (eqW false) A B) (fNil)) ρ G = some (.dat (.int ((if a = c then 1 else 0 : Nat) : Int)), G) := by
  have e := eqW_rows (neg := false) (a := a) (b := c) (h := G) ta tc
  simp only [Bool.false_eq_true, if_false] at e
  refine xA (xC (x2 ea eb e) xN) ?_
  by_cases z : a = c
  · simp [z, intC, ok]
  · simp [z, intC, ok]
theorem right_ok (h : Hh) (b : Nat) (hb : BoxAt h b 0) : ∃ h' c, m__law_right [.ref b] h = some (.dat (.bool true), h') ∧ BoxAt h' b c ∧ Only b h h' := by
  have hz : sizeLine = 16777216 := rfl
  obtain ⟨l, h1, e1, fk, short, pw, b1, o1⟩ := names_okZ (most := 4) hb (by omega) (by omega) (by omega)
  have l4 := fk.le
  have lp := fk.pos
  have nl := fk.nd
  have tl := fk.txts
  have srt : sortS l = l := List.mergeSort_of_pairwise pw
  obtain ⟨R, hR⟩ : ∃ R, lvG l l.length = R := ⟨_, rfl⟩
  obtain ⟨cs, hcs⟩ : ∃ cs, allF l l [[]] = cs := ⟨_, rfl⟩
  have nR : R.Nodup := by rw [← hR]; exact nodup_lvG nl _
  have ll : l ∈ R := by rw [← hR]; exact row_in nl lp l4 tl srt (.refl l)
  have rl : R.length ≤ 120 := by
    have := (codes_perm (F := l) (l := l) (.refl l) nl rfl).length_eq
    rw [List.length_map, hR] at this
    rw [this]; exact all_len lp (by omega)
  have cl2 : cs.length ≤ 256 := by
    rw [← hcs, allF_len]
    show 1 * l.length ^ l.length ≤ 256
    match l.length, l4 with
    | 0, _ => decide
    | 1, _ => decide
    | 2, _ => decide
    | 3, _ => decide
    | 4, _ => decide
  have rws : ∀ r ∈ R, r.Perm l ∧ r.Nodup ∧ r.length = l.length ∧ Txts r := fun r hr => rows_of nl (.refl l) lp l4 tl srt (by rw [hR]; exact hr)
  have cc : ∀ r ∈ R, ∀ c ∈ cs, CallOf r c := fun r hr c hc => by
    rw [← hcs] at hc
    obtain ⟨q1, q2⟩ := all_mem.mp hc
    have p := (rws r hr).1
    exact ⟨by rw [q1]; exact p.symm, fun x hx => p.mem_iff.mpr (q2 x hx)⟩
  have er := all_rowsN (h := h1) rfl (by omega : l.length ≤ 5) nl
  rw [hR] at er
  have ea := all_calls_ok (l := l) (h := h1) l4
  rw [hcs] at ea
  have lb := b1.lt
  -- the leads, empty
  have ek := dictK_run (b := b) (l := l) (R := R) (cs := cs) (v2 := none) (v3 := none) (v4 := none) (v5 := none) (v6 := none) (v7 := none) (v10 := none) (v11 := none) (h := h1) nR (by omega)
  have g0 : BG R h1 b (0 + 1 + 4 * 4) (fun _ => []) (fun _ => []) (h1 ++ List.replicate R.length (some (.dit [])) ++ [some (.dpk (dpkI (dkE h1.length R)))]) := by
    refine ⟨?_, ?_, ?_, fun r hr => ⟨?_, ct_nil r⟩⟩
    · obtain ⟨d, s, k, e, rest⟩ := b1
      exact ⟨d, s, k, by rw [List.append_assoc, List.getElem?_append_left lb]; exact e, rest⟩
    · rw [List.append_assoc]
      exact OnlyP.app ⟨Nat.le_refl _, fun i _ _ => rfl⟩
    · exact app_get (by simp)
    · have hi := List.idxOf_lt_length_of_mem hr
      rw [List.getElem?_append_left (by simp; omega), List.getElem?_append_right (by omega), Nat.add_sub_cancel_left, List.getElem?_replicate, if_pos hi]
      rfl
  obtain ⟨t, G2, w3, w7, w10, g2, i3, i7, i10, e2⟩ := fill_loop (l := l) (R := R) (cs := cs) lb nR (fun r hr => ⟨(rws r hr).2.1, by rw [(rws r hr).2.2.1]; exact lp, by rw [(rws r hr).2.2.1]; omega, cc r hr⟩) (by omega) g0 (v4 := none) (v5 := none) (v6 := none) (v11 := none)
  have ir : ∀ k m, isR m (some (.ref k)) = decide (k = m) := fun _ _ => rfl
  obtain ⟨G3, e3, b3, o3⟩ := frzK_run (ρ := e56 b l R cs (some (.ref (h1.length + R.length))) w3 none none none w7 w10 none) (f := (sSeq (sAsg (fA (m__law_pick) (fCons (fVar 0) (fCons (fVar 8) (fNil)))) (gN 4))
    (sSeq (sAsg oneE (gN 5))
    (sSeq (sFor (rng1I (fCons (f2 (addW false) (fC (.int 2)) (fA (m__law_take) (fCons (fVar 0) (fCons (fC (.int 4)) (fNil))))) (fNil))) (gN 6) trB)
    (sSeq (sAsg (fA (m__law_pick) (fCons (fVar 0) (fCons (fVar 8) (fNil)))) (gN 7))
    (sRet (fA (m__law_same 12) (fCons (fA (kwM 3 [2, 1, 0] (m_words_many)) (fCons (fC (.int 1)) (fCons (fA (listW false) (fCons (fVar 7) (fNil))) (fCons (fA (listW false) (fCons (fVar 4) (fNil))) (fNil))))) (fCons (fGet (f2 idxK (fVar 2) (fVar 4)) (fVar 7) (fC (.int 0))) (fNil))))))))) ) nR g2 lb rfl (fun m h1m h2m => by
      have q1 : decide (b = m) = false := by simp; omega
      have q2 : decide (h1.length + R.length = m) = false := by simp; omega
      simp only [e56, List.any_cons, List.any_nil, isR_dat, isR_none, ir, i3, i7, i10, q1, q2, Bool.or_false]) (by
      have q1 : decide (b = h1.length + R.length) = false := by simp; omega
      simp only [e56, List.set_cons_zero, List.set_cons_succ, List.any_cons, List.any_nil, isR_dat, isR_none, ir, i3, i7, i10, q1, Bool.or_false])
  have hct : ∀ s ∈ R, CT s cs (t s) := fun s hs => (g2.ct s hs).2
  have rpos : 0 < R.length := List.length_pos_iff.mpr (fun z => by rw [z] at ll; cases ll)
  obtain ⟨x, G4, e4, m4, b4, o4⟩ := pick_ok (x := .list (R.map rowT)) (ds := R.map rowT) (.inl rfl) b3 (by omega) (by rw [List.length_map]; exact rpos) (by rw [List.length_map]; omega)
  obtain ⟨F, hF, rfl⟩ := List.mem_map.mp m4
  obtain ⟨pF, nF, lF, tF⟩ := rws F hF
  have e5 := tabE_run (b := b) (l := l) (R := R) (cs := cs) (E := fA intC (fCons (f2 (eqW false) (fVar 3) (fVar 4)) (fNil))) (g := wN F 0) (v2 := some (ldW R t)) (v3 := w3) (v4 := some (.dat (rowT F))) (v5 := none) (v6 := none) (v7 := w7) (v10 := w10) (v11 := none) (G := G4) nR (by omega) fun r hr => by
    rw [wN_0 pF nF lp l4 (by rw [hR]; exact hr)]
    exact eq_rowI (rws r hr).2.2.2 tF rfl rfl
  have b5 : BoxAt (G4 ++ [some (.dit (tblR (rg R (wN F 0))))]) b (0 + 1 + 4 * 4 + 1) := by
    obtain ⟨d, s, k, e, rest⟩ := b4
    exact ⟨d, s, k, by rw [List.getElem?_append_left (lt_of_get e)]; exact e, rest⟩
  have o5 : OnlyP b h1 (G4 ++ [some (.dit (tblR (rg R (wN F 0))))]) := (o3.only o4).app
  obtain ⟨q, G6, e6, q0, q1, b6, o6⟩ := take_ok (n := 4) b5 (by omega) (by omega) (by omega)
  have m6 : G6[G4.length]? = some (some (.dit (tblR (rg R (wN F 0))))) := by
    rw [o6.off _ (by have := b4.lt; omega)]
    exact app_get rfl
  have op6 := o5.only o6
  obtain ⟨T, hT, T2, T5⟩ : ∃ T : Nat, (2 : Int) + q = (T : Int) ∧ 2 ≤ T ∧ T ≤ 5 := ⟨(2 + q).toNat, by omega, by omega, by omega⟩
  have rgT : rng1I (fCons (f2 (addW false) (fC (.int 2)) (fA (m__law_take) (fCons (fVar 0) (fCons (fC (.int 4)) (fNil))))) (fNil)) (e56 b l R cs (some (ldW R t)) w3 (some (.dat (rowT F))) (some (.ref G4.length)) none w7 w10 none) (G4 ++ [some (.dit (tblR (rg R (wN F 0))))]) = some (rngD 0 T, G6) := by
    have a1 : f2 (addW false) (fC (.int 2)) (fA (m__law_take) (fCons (fVar 0) (fCons (fC (.int 4)) (fNil)))) (e56 b l R cs (some (ldW R t)) w3 (some (.dat (rowT F))) (some (.ref G4.length)) none w7 w10 none) (G4 ++ [some (.dit (tblR (rg R (wN F 0))))]) = some (.dat (.int (T : Int)), G6) := by
      rw [← hT]
      exact x2 (A := fC (.int 2)) rfl (xA (xC (E := fVar 0) rfl (xC (E := fC (.int 4)) rfl xN)) e6) (add_i (i := 2) (j := q))
    unfold rng1I
    simp only [xC a1 xN, obnd]
    rw [if_pos (by omega), Int.toNat_natCast]
  obtain ⟨ρ', G7, e7, v3', v6', v7', v11', mm, gg, rfl, mG, _, b7, o7⟩ := forL_end (k := gN 6) (body := trB) (fun j ρ G => ∃ (v3 v6 v7 v11 : Option W) (m : Nat) (g : List Str → Nat), ρ = e56 b l R cs (some (ldW R t)) v3 (some (.dat (rowT F))) (some (.ref m)) v6 v7 w10 v11 ∧ G[m]? = some (some (.dit (tblR (rg R g)))) ∧ (j ≤ 4 → ∀ r ∈ R, g r = wN F j r) ∧ BoxAt G b (0 + 1 + 4 * 4 + 1 + 1) ∧ OnlyP b h1 G)
    (ds := rngD 0 T) (ρ := e56 b l R cs (some (ldW R t)) w3 (some (.dat (rowT F))) (some (.ref G4.length)) none w7 w10 none) (h := G6) ⟨w3, none, w7, none, G4.length, wN F 0, rfl, m6, fun _ _ _ => rfl, b6, op6⟩ (by
      rintro j d ej ρ G ⟨v3, v6, v7, v11, m, g, rfl, hm, hg, bx, op⟩
      obtain ⟨hj, rfl⟩ := rng_get ej
      have eg : rg R g = rg R (wN F j) := rg_congr (hg (by omega))
      rw [eg] at hm
      obtain ⟨y3, y7, g', hg', et⟩ := turn_ok (b := b) (t := t) nl pF lp l4 tl srt (by rw [hR, hcs]; exact hct) (by rw [hR]; omega) (j := j) (by omega) (m := m) (G := G) (by rw [hR]; exact hm) v3 v7 w10 v11
      rw [hR, hcs] at et
      refine ⟨_, _, _, rfl, et, y3, some (.dat (.int (j : Int))), y7, some (.ref G.length), G.length, g', rfl, app_get rfl, fun q r hr => hg' r (by rw [hR]; exact hr) (by omega), ?_, op.app⟩
      obtain ⟨d, s, k, e, rest⟩ := bx
      exact ⟨d, s, k, by rw [List.getElem?_append_left (lt_of_get e)]; exact e, rest⟩)
  obtain ⟨y, G8, e8, m8, b8, o8⟩ := pick_ok (x := .list (R.map rowT)) (ds := R.map rowT) (.inl rfl) b7 (by omega) (by rw [List.length_map]; exact rpos) (by rw [List.length_map]; omega)
  obtain ⟨E, hE, rfl⟩ := List.mem_map.mp m8
  obtain ⟨pE, nE, lE, tE⟩ := rws E hE
  obtain ⟨h', lv, b', o'⟩ := leave_P (d := .bool true) b1 b8 (o7.only o8)
  obtain ⟨h2, lv2, b2, o2⟩ := leave_P (d := .bool true) hb b8 (⟨by have := (o7.only o8).len; rw [o1.len] at this; exact this, fun i hi ne => ((o7.only o8).off i (by rw [o1.len]; exact hi) ne).trans (o1.off i ne)⟩ : OnlyP b h G8)
  refine ⟨h2, _, ?_, b2, o2⟩
  rw [right_eq]
  refine fnM_rt (h' := G8) (w := .dat (.bool true)) ?_ rfl lv2
  show sSeq _ _ [some (.ref b), none, none, none, none, none, none, none, none, none, none, none] h = _
  refine (zA (xA (xC (E := fVar 0) rfl (xC (E := fC (.int 4)) rfl xN)) e1) rfl).trans ?_
  refine (zP (ρ1 := e56 b l R cs none none none none none none none none) (xC (xA (xC (E := fVar 1) rfl xN) er) (xC (xA (xC (E := fVar 1) rfl xN) ea) xN)) rfl rfl).trans ?_
  refine (zA (ρ1 := e56 b l R cs (some (.ref (h1.length + R.length))) none none none none none none none) ek rfl).trans ?_
  refine (zF (xS (E := fVar 8) (x := .list (R.map rowT)) rfl (.inl rfl)) e2).trans ?_
  refine e3.trans ?_
  refine (zA (ρ1 := e56 b l R cs (some (ldW R t)) w3 (some (.dat (rowT F))) none none w7 w10 none) (xA (xC (E := fVar 0) rfl (xC (E := fVar 8) rfl xN)) e4) rfl).trans ?_
  refine (zA (ρ1 := e56 b l R cs (some (ldW R t)) w3 (some (.dat (rowT F))) (some (.ref G4.length)) none w7 w10 none) e5 rfl).trans ?_
  refine (zF rgT e7).trans ?_
  refine (zA (ρ1 := e56 b l R cs (some (ldW R t)) v3' (some (.dat (rowT F))) (some (.ref mm)) v6' (some (.dat (rowT E))) w10 v11') (xA (xC (E := fVar 0) rfl (xC (E := fVar 8) rfl xN)) e8) rfl).trans ?_
  have wl := wordsL (h := G8) (F := F) (R := E) (z := 1) (n := l.length) (pF.trans pE.symm) nF tF lF lp (by omega) (by omega)
  have kE : kN cs F E = tW l.length 1 (fallsN F E) := by rw [← hcs, kN_tW pF nl srt lp (by omega) tl (pE.trans pF.symm), lF]
  have gE : fGet (f2 idxK (fVar 2) (fVar 4)) (fVar 7) (fC (.int 0)) (e56 b l R cs (some (ldW R t)) v3' (some (.dat (rowT F))) (some (.ref mm)) v6' (some (.dat (rowT E))) w10 v11') G8 = some (.dat (.int (kN cs F E : Int)), G8) := by
    have ix : f2 idxK (fVar 2) (fVar 4) (e56 b l R cs (some (ldW R t)) v3' (some (.dat (rowT F))) (some (.ref mm)) v6' (some (.dat (rowT E))) w10 v11') G8 = some (.dat (tDt t F), G8) := x2 (A := fVar 2) (B := fVar 4) rfl rfl (ldK_run hF)
    have gt := getD_tblR (l := t F) (p := E)
    have cg := ct_get (hct F hF) E
    have q7 : fVar 7 (e56 b l R cs (some (ldW R t)) v3' (some (.dat (rowT F))) (some (.ref mm)) v6' (some (.dat (rowT E))) w10 v11') G8 = some (.dat (rowT E), G8) := rfl
    have dc : isDc (.dat (tDt t F)) G8 = true := rfl
    unfold fGet
    simp only [ix, obnd, dc, if_true, q7]
    show getW (.dat (tDt t F)) (.dat (rowT E)) (.dat (.int 0)) G8 = _
    unfold getW tDt
    simp only [deref, gt, cg]
    rfl
  rw [kE] at gE
  exact zR (xA (xC (xA (xC (E := fC (.int 1)) rfl (xC (xA (xC (E := fVar 7) rfl xN) (xList (ds := E.map .str) (.inr rfl))) (xC (xA (xC (E := fVar 4) rfl xN) (xList (ds := F.map .str) (.inr rfl))) xN))) (xK rfl rfl wl)) (xC gE xN)) (same_refl 12 _ G8 rfl (by rw [PyData.depth]; omega)))
theorem law_eq : m_law = lawG m__law_right := rfl
theorem law_true (ns : List Int) (hl : ns.length ≤ 63) : ∃ h, m_law [.scr ns] [] = some (.dat (.bool true), h) := by
  rw [law_eq]
  exact law_okG (h0 := []) rfl (fun h b _ _ hb => right_ok h b hb) ns hl
end LW
set_option maxHeartbeats 4000000
namespace LW
open PySem PySem.Spec PyProof.Rows L2 DL
def topS (i : Nat) : Stmt := PySem.Challenge.pw_standby_k56_words_from_row_to_row.main.body.getD i (.Pass ⟨0, 0, 0, 0⟩)
section
variable [HW] {K : PySem.W.Frag} {mg : Str → Option Value} {base : Heap}
abbrev s_places_of : Stmt := topS 4
abbrev N_places_of : List Str := ["row", "place", "name"]
theorem sc_places_of : FnScope N_places_of ["row"] (defScope s_places_of) := ⟨rfl, rfl, rfl, by decide +kernel, rfl, by decide +kernel, by decide +kernel⟩
theorem ok_places_of (f : Addr) (fd : FuncData) (F : Fun K "places_of" "places_of" s_places_of f fd) (hm : mg "places_of" = some (.ref f)) (B : Bi mg)   : GD HW.P HW.w K mg base 1 "places_of" s_places_of ["row"] m_places_of := gd_ok false F hm sc_places_of fun cdv A outer s H E hr =>
    ds_one (ds_ret (d_dc false (own := [("place", 1), ("name", 2)]) rfl sc_places_of.nd (di_enumA B.enumerate (da_cons (dv 0 (pv 0)) (da_nil))) (blkOk_by (N := N_places_of) (sc := defScope s_places_of) (by decide +kernel)) (fun _ _ _ _ _ => dg_tup rfl (dgs_cons (dg_name 1 (pg_name (i := 1) sc_places_of.nd rfl (Or.inl rfl))) (dgs_cons (dg_name 2 (pg_name (i := 2) sc_places_of.nd rfl (Or.inl rfl))) (dgs_nil)))) (fun _ _ _ _ _ => dts_nil) (fun _ _ _ _ _ => dv 2 (pv 2)) (fun _ _ _ _ _ => dv 1 (pv 1)) (by decide)))
abbrev s_look_alike : Stmt := topS 5
abbrev N_look_alike : List Str := ["one", "other"]
theorem sc_look_alike : FnScope N_look_alike ["one", "other"] (defScope s_look_alike) := ⟨rfl, rfl, rfl, by decide +kernel, rfl, by decide +kernel, by decide +kernel⟩
theorem ok_look_alike (f : Addr) (fd : FuncData) (F : Fun K "look_alike" "look_alike" s_look_alike f fd) (hm : mg "look_alike" = some (.ref f)) (B : Bi mg)   : GD HW.P HW.w K mg base 1 "look_alike" s_look_alike ["one", "other"] m_look_alike := gd_ok false F hm sc_look_alike fun cdv A outer s H E hr =>
    ds_one (ds_if (t_ne hr.room (d_sorted hr false B.sorted (da_cons (dv 0 (pv 0)) (da_nil))) (d_sorted hr false B.sorted (da_cons (dv 1 (pv 1)) (da_nil)))) (ds_one (ds_never)) (ds_nil))
abbrev s_choices : Stmt := topS 9
abbrev N_choices : List Str := ["many", "few", "found", "turn"]
theorem sc_choices : FnScope N_choices ["many", "few"] (defScope s_choices) := ⟨rfl, rfl, rfl, by decide +kernel, rfl, by decide +kernel, by decide +kernel⟩
theorem ok_choices (f : Addr) (fd : FuncData) (F : Fun K "choices" "choices" s_choices f fd) (hm : mg "choices" = some (.ref f)) (B : Bi mg)   : GD HW.P HW.w K mg base 1 "choices" s_choices ["many", "few"] m_choices := gd_ok false F hm sc_choices fun cdv A outer s H E hr =>
    ds_cons (ds_if (dt_not (t_chain (op_le.or op_le_str) s_lt (op_le.or op_le_str) s_lt (d_int) (dv 1 (pv 1)) (dv 0 (pv 0)))) (ds_one (ds_ret (d_int))) (ds_nil))
    (ds_cons (ds_set (ps_set (i := 2) sc_choices.nd rfl (Or.inl rfl) (d_int)))
    (ds_cons (ds_for rfl PassesOwn.never (di_rng1 B.range (da_cons (dv 1 (pv 1)) (da_nil))) (dg_name 3 (pg_name (i := 3) sc_choices.nd rfl (Or.inl rfl)))
    (ds_one (ds_set (ps_set (i := 2) sc_choices.nd rfl (Or.inl rfl) (d_div (d_mul false (dv 2 (pv 2)) (d_sub (dv 0 (pv 0)) (dv 3 (pv 3)))) (d_add false (dv 3 (pv 3)) (d_int)))))))
    (ds_one (ds_ret (dv 2 (pv 2))))))
abbrev s__law_box : Stmt := topS 12
abbrev N__law_box : List Str := ["_law_script", "_law_k", "_law_cell"]
theorem sc__law_box : FnScope N__law_box ["_law_script", "_law_k"] (defScope s__law_box) := ⟨rfl, rfl, rfl, by decide +kernel, rfl, by decide +kernel, by decide +kernel⟩
theorem ok__law_box (f : Addr) (fd : FuncData) (F : Fun K "_law_box" "_law_box" s__law_box f fd) (hm : mg "_law_box" = some (.ref f)) (B : Bi mg)   : GD HW.P HW.w K mg base 1 "_law_box" s__law_box ["_law_script", "_law_k"] m__law_box := gd_ok true F hm sc__law_box fun cdv A outer s H E hr =>
    ds_cons (ds_set (ps_set (i := 2) sc__law_box.nd rfl (Or.inl rfl) (d_int)))
    (ds_cons (ds_if (t_lt (dv 1 (pv 1)) (d_len B.len (da_cons (dv 0 (pv 0)) (da_nil)))) (ds_one (ds_set (ps_set (i := 2) sc__law_box.nd rfl (Or.inl rfl) (d_idx hr.room (dv 0 (pv 0)) (dv 1 (pv 1)) (fun _ _ => rfl))))) (ds_nil))
    (ds_one (ds_ret (d_lst true (da_cons (d_mul false (d_abs B.abs (da_cons (dv 2 (pv 2)) (da_nil))) (d_intC B.int (da_cons (d_ge (d_abs B.abs (da_cons (dv 2 (pv 2)) (da_nil))) (d_pow (d_int) (d_int))) (da_nil)))) (da_cons (d_add false (d_add false (d_mod (dv 2 (pv 2)) (d_int)) (d_mul false (d_int) (dv 1 (pv 1)))) (d_int)) (da_cons (d_int) (da_nil))))))))
abbrev s__law_take : Stmt := topS 13
abbrev N__law_take : List Str := ["_law_box_here", "_law_size", "_law_once", "_law_found"]
theorem sc__law_take : FnScope N__law_take ["_law_box_here", "_law_size"] (defScope s__law_take) := ⟨rfl, rfl, rfl, by decide +kernel, rfl, by decide +kernel, by decide +kernel⟩
theorem ok__law_take (f : Addr) (fd : FuncData) (F : Fun K "_law_take" "_law_take" s__law_take f fd) (hm : mg "_law_take" = some (.ref f)) (B : Bi mg)   : GD HW.P HW.w K mg base 1 "_law_take" s__law_take ["_law_box_here", "_law_size"] m__law_take := gd_ok false F hm sc__law_take fun cdv A outer s H E hr =>
    ds_cons (ds_if (t_gt (d_idx hr.room (dv 0 (pv 0)) (d_int) (fun _ _ => rfl)) (d_int)) (ds_cons (ds_set (ps_set (i := 3) sc__law_take.nd rfl (Or.inl rfl) (d_mod (d_idx hr.room (dv 0 (pv 0)) (d_int) (fun _ _ => rfl)) (dv 1 (pv 1)))))
    (ds_cons (ds_sub (d_div (d_idx hr.room (dv 0 (pv 0)) (d_int) (fun _ _ => rfl)) (dv 1 (pv 1))) (dv 0 (pv 0)) (d_int) (ps_asg (d_div (d_idx hr.room (dv 0 (pv 0)) (d_int) (fun _ _ => rfl)) (dv 1 (pv 1))) (pg_sub (dv 0 (pv 0)) (d_int) set_list)))
    (ds_one (ds_ret (dv 3 (pv 3)))))) (ds_nil))
    (ds_cons (ds_sub (d_add false (d_idx hr.room (dv 0 (pv 0)) (d_int) (fun _ _ => rfl)) (d_int)) (dv 0 (pv 0)) (d_int) (ps_asg (d_add false (d_idx hr.room (dv 0 (pv 0)) (d_int) (fun _ _ => rfl)) (d_int)) (pg_sub (dv 0 (pv 0)) (d_int) set_list)))
    (ds_cons (ds_set (ps_set (i := 2) sc__law_take.nd rfl (Or.inl rfl) (d_mod (d_pow (d_add false (d_idx hr.room (dv 0 (pv 0)) (d_int) (fun _ _ => rfl)) (d_mul false (d_int) (d_idx hr.room (dv 0 (pv 0)) (d_int) (fun _ _ => rfl)))) (d_int)) (d_int))))
    (ds_one (ds_ret (d_mod (d_div (d_mod (d_add false (d_mul false (dv 2 (pv 2)) (d_add false (d_mod (dv 2 (pv 2)) (d_int)) (d_int))) (d_mul false (d_idx hr.room (dv 0 (pv 0)) (d_int) (fun _ _ => rfl)) (d_int))) (d_int)) (d_int)) (dv 1 (pv 1)))))))
abbrev s__law_folded : Stmt := topS 16
abbrev N__law_folded : List Str := ["_law_script", "_law_size", "_law_cells", "_law_k", "_law_cell"]
theorem sc__law_folded : FnScope N__law_folded ["_law_script", "_law_size"] (defScope s__law_folded) := ⟨rfl, rfl, rfl, by decide +kernel, rfl, by decide +kernel, by decide +kernel⟩
theorem ok__law_folded (f : Addr) (fd : FuncData) (F : Fun K "_law_folded" "_law_folded" s__law_folded f fd) (hm : mg "_law_folded" = some (.ref f)) (B : Bi mg)   : GD HW.P HW.w K mg base 1 "_law_folded" s__law_folded ["_law_script", "_law_size"] m__law_folded := gd_ok false F hm sc__law_folded fun cdv A outer s H E hr =>
    ds_cons (ds_set (ps_set (i := 2) sc__law_folded.nd rfl (Or.inl rfl) (d_list true B.list (da_cons (d_slice false (dv 0 (pv 0)) (do_none) (do_some (dv 1 (pv 1)))) (da_nil)))))
    (ds_cons (ds_for rfl PassesOwn.never (di_enumA B.enumerate (da_cons (d_slice false (dv 0 (pv 0)) (do_some (dv 1 (pv 1))) (do_some (d_int))) (da_nil))) (dg_tup rfl (dgs_cons (dg_name 3 (pg_name (i := 3) sc__law_folded.nd rfl (Or.inl rfl))) (dgs_cons (dg_name 4 (pg_name (i := 4) sc__law_folded.nd rfl (Or.inl rfl))) (dgs_nil))))
    (ds_one (ds_sub (d_add false (d_idx hr.room (dv 2 (pv 2)) (d_mod (dv 3 (pv 3)) (dv 1 (pv 1))) (fun _ _ => rfl)) (d_mul false (dv 4 (pv 4)) (d_add false (dv 3 (pv 3)) (d_int)))) (dv 2 (pv 2)) (d_mod (dv 3 (pv 3)) (dv 1 (pv 1))) (ps_asg (d_add false (d_idx hr.room (dv 2 (pv 2)) (d_mod (dv 3 (pv 3)) (dv 1 (pv 1))) (fun _ _ => rfl)) (d_mul false (dv 4 (pv 4)) (d_add false (dv 3 (pv 3)) (d_int)))) (pg_sub (dv 2 (pv 2)) (d_mod (dv 3 (pv 3)) (dv 1 (pv 1))) set_list)))))
    (ds_frz 2 (ds_one (ds_ret (d_if (t_ne hr.room (dv 2 (pv 2)) (d_lst false (da_nil))) (dv 2 (pv 2)) (d_lst false (da_cons (d_int) (da_nil))))))))
abbrev s__law_all_rows : Stmt := topS 18
abbrev N__law_all_rows : List Str := ["_law_names_due", "_law_found", "_law_turn", "_law_later", "_law_some", "_law_name"]
theorem sc__law_all_rows : FnScope N__law_all_rows ["_law_names_due"] (defScope s__law_all_rows) := ⟨rfl, rfl, rfl, by decide +kernel, rfl, by decide +kernel, by decide +kernel⟩
theorem ok__law_all_rows (f : Addr) (fd : FuncData) (F : Fun K "_law_all_rows" "_law_all_rows" s__law_all_rows f fd) (hm : mg "_law_all_rows" = some (.ref f)) (B : Bi mg)   : GD HW.P HW.w K mg base 1 "_law_all_rows" s__law_all_rows ["_law_names_due"] m__law_all_rows := gd_ok false F hm sc__law_all_rows fun cdv A outer s H E hr =>
    ds_cons (ds_set (ps_set (i := 1) sc__law_all_rows.nd rfl (Or.inl rfl) (d_lst false (da_cons (d_tup (da_nil)) (da_nil)))))
    (ds_cons (ds_for rfl PassesOwn.never (di_rng1 B.range (da_cons (d_len B.len (da_cons (dv 0 (pv 0)) (da_nil))) (da_nil))) (dg_name 2 (pg_name (i := 2) sc__law_all_rows.nd rfl (Or.inl rfl)))
    (ds_cons (ds_set (ps_set (i := 3) sc__law_all_rows.nd rfl (Or.inl rfl) (d_lst true (da_nil))))
    (ds_cons (ds_for rfl PassesOwn.never (di_seq (dv 1 (pv 1))) (dg_name 4 (pg_name (i := 4) sc__law_all_rows.nd rfl (Or.inr rfl)))
    (ds_one (ds_expr ((pe_bm PySem.F.plainAttrs_list PySem.F.slot_list_extend PySem.F.type_list_extend mt_extend (dv 3 (pv 3)) (da_cons (d_lc false (own := [("_law_name", 5)]) rfl sc__law_all_rows.nd (di_seq (dv 0 (pv 0))) (blkOk_by (N := N__law_all_rows) (sc := defScope s__law_all_rows) (by decide +kernel)) (fun _ _ _ _ _ => dg_name 5 (pg_name (i := 5) sc__law_all_rows.nd rfl (Or.inl rfl))) (fun _ _ _ _ _ => dts_one (t_notin hr.room (dv 5 (pv 5)) (dv 4 (pv 4)))) (fun _ _ _ _ _ => d_add false (dv 4 (pv 4)) (d_tup (da_cons (dv 5 (pv 5)) (da_nil)))) (by decide)) (da_nil))).weak (meth_imp s_extend)))))
    (ds_frz 3 (ds_one (ds_set (ps_set (i := 1) sc__law_all_rows.nd rfl (Or.inl rfl) (dv 3 (pv 3)))))))))
    (ds_one (ds_ret (dv 1 (pv 1)))))
abbrev s__law_all_calls : Stmt := topS 19
abbrev N__law_all_calls : List Str := ["_law_names_due", "_law_found", "_law_name", "_law_later", "_law_some", "_law_to"]
theorem sc__law_all_calls : FnScope N__law_all_calls ["_law_names_due"] (defScope s__law_all_calls) := ⟨rfl, rfl, rfl, by decide +kernel, rfl, by decide +kernel, by decide +kernel⟩
theorem ok__law_all_calls (f : Addr) (fd : FuncData) (F : Fun K "_law_all_calls" "_law_all_calls" s__law_all_calls f fd) (hm : mg "_law_all_calls" = some (.ref f)) (B : Bi mg)   : GD HW.P HW.w K mg base 1 "_law_all_calls" s__law_all_calls ["_law_names_due"] m__law_all_calls := gd_ok false F hm sc__law_all_calls fun cdv A outer s H E hr =>
    ds_cons (ds_set (ps_set (i := 1) sc__law_all_calls.nd rfl (Or.inl rfl) (d_lst false (da_cons (d_tup (da_nil)) (da_nil)))))
    (ds_cons (ds_for rfl PassesOwn.never (di_seq (dv 0 (pv 0))) (dg_name 2 (pg_name (i := 2) sc__law_all_calls.nd rfl (Or.inr rfl)))
    (ds_cons (ds_set (ps_set (i := 3) sc__law_all_calls.nd rfl (Or.inl rfl) (d_lst true (da_nil))))
    (ds_cons (ds_for rfl PassesOwn.never (di_seq (dv 1 (pv 1))) (dg_name 4 (pg_name (i := 4) sc__law_all_calls.nd rfl (Or.inr rfl)))
    (ds_one (ds_expr ((pe_bm PySem.F.plainAttrs_list PySem.F.slot_list_extend PySem.F.type_list_extend mt_extend (dv 3 (pv 3)) (da_cons (d_lc false (own := [("_law_to", 5)]) rfl sc__law_all_calls.nd (di_seq (dv 0 (pv 0))) (blkOk_by (N := N__law_all_calls) (sc := defScope s__law_all_calls) (by decide +kernel)) (fun _ _ _ _ _ => dg_name 5 (pg_name (i := 5) sc__law_all_calls.nd rfl (Or.inl rfl))) (fun _ _ _ _ _ => dts_nil) (fun _ _ _ _ _ => d_add false (dv 4 (pv 4)) (d_tup (da_cons (d_tup (da_cons (dv 2 (pv 2)) (da_cons (dv 5 (pv 5)) (da_nil)))) (da_nil)))) (by decide)) (da_nil))).weak (meth_imp s_extend)))))
    (ds_frz 3 (ds_one (ds_set (ps_set (i := 1) sc__law_all_calls.nd rfl (Or.inl rfl) (dv 3 (pv 3)))))))))
    (ds_one (ds_ret (dv 1 (pv 1)))))
abbrev s__law_called : Stmt := topS 20
abbrev N__law_called : List Str := ["_law_row_due", "_law_cry", "_law_told", "_law_found", "_law_name", "_law_who"]
theorem sc__law_called : FnScope N__law_called ["_law_row_due", "_law_cry"] (defScope s__law_called) := ⟨rfl, rfl, rfl, by decide +kernel, rfl, by decide +kernel, by decide +kernel⟩
theorem ok__law_called (f : Addr) (fd : FuncData) (F : Fun K "_law_called" "_law_called" s__law_called f fd) (hm : mg "_law_called" = some (.ref f)) (B : Bi mg)   : GD HW.P HW.w K mg base 1 "_law_called" s__law_called ["_law_row_due", "_law_cry"] m__law_called := gd_ok false F hm sc__law_called fun cdv A outer s H E hr =>
    ds_cons (ds_set (ps_set (i := 2) sc__law_called.nd rfl (Or.inr rfl) (d_dictA rfl false B.dict (da_cons (dv 1 (pv 1)) (da_nil)))))
    (ds_cons (ds_set (ps_set (i := 3) sc__law_called.nd rfl (Or.inl rfl) (d_lst false (da_nil))))
    (ds_cons (ds_for rfl PassesOwn.never (di_seq (dv 0 (pv 0))) (dg_name 4 (pg_name (i := 4) sc__law_called.nd rfl (Or.inr rfl)))
    (ds_one (ds_set (ps_set (i := 3) sc__law_called.nd rfl (Or.inl rfl) (d_add false (dv 3 (pv 3)) (d_lc false (own := [("_law_who", 5)]) rfl sc__law_called.nd (di_seq (dv 0 (pv 0))) (blkOk_by (N := N__law_called) (sc := defScope s__law_called) (by decide +kernel)) (fun _ _ _ _ _ => dg_name 5 (pg_name (i := 5) sc__law_called.nd rfl (Or.inl rfl))) (fun _ _ _ _ _ => dts_one (t_eq hr.room (d_idx hr.room (dv 2 (pv 2)) (dv 5 (pv 5)) (fun _ _ => rfl)) (dv 4 (pv 4)))) (fun _ _ _ _ _ => dv 5 (pv 5)) (by decide)))))))
    (ds_one (ds_ret (d_tuple B.tuple (da_cons (dv 3 (pv 3)) (da_nil)))))))
abbrev s__law_power : Stmt := topS 21
abbrev N__law_power : List Str := ["_law_base", "_law_times", "_law_found", "_law_turn"]
theorem sc__law_power : FnScope N__law_power ["_law_base", "_law_times"] (defScope s__law_power) := ⟨rfl, rfl, rfl, by decide +kernel, rfl, by decide +kernel, by decide +kernel⟩
theorem ok__law_power (f : Addr) (fd : FuncData) (F : Fun K "_law_power" "_law_power" s__law_power f fd) (hm : mg "_law_power" = some (.ref f)) (B : Bi mg)   : GD HW.P HW.w K mg base 1 "_law_power" s__law_power ["_law_base", "_law_times"] m__law_power := gd_ok false F hm sc__law_power fun cdv A outer s H E hr =>
    ds_cons (ds_set (ps_set (i := 2) sc__law_power.nd rfl (Or.inl rfl) (d_int)))
    (ds_cons (ds_for rfl PassesOwn.never (di_rng1 B.range (da_cons (dv 1 (pv 1)) (da_nil))) (dg_name 3 (pg_name (i := 3) sc__law_power.nd rfl (Or.inl rfl)))
    (ds_one (ds_set (ps_set (i := 2) sc__law_power.nd rfl (Or.inl rfl) (d_mul false (dv 2 (pv 2)) (dv 0 (pv 0)))))))
    (ds_one (ds_ret (dv 2 (pv 2)))))
abbrev s__law_pick : Stmt := topS 14
abbrev N__law_pick : List Str := ["_law_box_here", "_law_some"]
theorem sc__law_pick : FnScope N__law_pick ["_law_box_here", "_law_some"] (defScope s__law_pick) := ⟨rfl, rfl, rfl, by decide +kernel, rfl, by decide +kernel, by decide +kernel⟩
theorem ok__law_pick (f : Addr) (fd : FuncData) (F : Fun K "_law_pick" "_law_pick" s__law_pick f fd) (hm : mg "_law_pick" = some (.ref f)) (B : Bi mg)  (g__law_take : GD HW.P HW.w K mg base 1 "_law_take" s__law_take ["_law_box_here", "_law_size"] m__law_take) : GD HW.P HW.w K mg base 2 "_law_pick" s__law_pick ["_law_box_here", "_law_some"] m__law_pick := gd_ok false F hm sc__law_pick fun cdv A outer s H E hr =>
    ds_one (ds_ret (d_idx hr.room (dv 1 (pv 1)) (d_call' g__law_take (hr.mono (by omega)) (da_cons (dv 0 (pv 0)) (da_cons (d_len B.len (da_cons (dv 1 (pv 1)) (da_nil))) (da_nil))) (fun _ _ _ _ _ _ us hl => match us, hl with | [_, _], _ => rfl)) (fun _ _ => rfl)))
abbrev s_place_of : Stmt := topS 6
abbrev N_place_of : List Str := ["row", "name", "places"]
theorem sc_place_of : FnScope N_place_of ["row", "name"] (defScope s_place_of) := ⟨rfl, rfl, rfl, by decide +kernel, rfl, by decide +kernel, by decide +kernel⟩
theorem ok_place_of (f : Addr) (fd : FuncData) (F : Fun K "place_of" "place_of" s_place_of f fd) (hm : mg "place_of" = some (.ref f)) (B : Bi mg)  (g_places_of : GD HW.P HW.w K mg base 1 "places_of" s_places_of ["row"] m_places_of) : GD HW.P HW.w K mg base 3 "place_of" s_place_of ["row", "name"] m_place_of := gd_ok false F hm sc_place_of fun cdv A outer s H E hr =>
    ds_cons (ds_set (ps_set (i := 2) sc_place_of.nd rfl (Or.inl rfl) (d_call' g_places_of (hr.mono (by omega)) (da_cons (dv 0 (pv 0)) (da_nil)) (fun _ _ _ _ _ _ us hl => match us, hl with | [_], _ => rfl))))
    (ds_cons (ds_if (t_notin hr.room (dv 1 (pv 1)) (dv 2 (pv 2))) (ds_one (ds_never)) (ds_nil))
    (ds_one (ds_ret (d_idx hr.room (dv 2 (pv 2)) (dv 1 (pv 1)) (fun _ _ => rfl)))))
abbrev s__law_names : Stmt := topS 17
abbrev N__law_names : List Str := ["_law_box_here", "_law_most", "_law_count", "_law_found", "_law_name", "_law_turn"]
theorem sc__law_names : FnScope N__law_names ["_law_box_here", "_law_most"] (defScope s__law_names) := ⟨rfl, rfl, rfl, by decide +kernel, rfl, by decide +kernel, by decide +kernel⟩
theorem ok__law_names (f : Addr) (fd : FuncData) (F : Fun K "_law_names" "_law_names" s__law_names f fd) (hm : mg "_law_names" = some (.ref f)) (B : Bi mg)  (g__law_take : GD HW.P HW.w K mg base 1 "_law_take" s__law_take ["_law_box_here", "_law_size"] m__law_take) (g__law_pick : GD HW.P HW.w K mg base 2 "_law_pick" s__law_pick ["_law_box_here", "_law_some"] m__law_pick) : GD HW.P HW.w K mg base 3 "_law_names" s__law_names ["_law_box_here", "_law_most"] m__law_names := gd_ok false F hm sc__law_names fun cdv A outer s H E hr =>
    ds_cons (ds_par2 (ps_par (i := 2) (j := 3) rfl sc__law_names.nd rfl rfl (by decide) rfl rfl (da_cons (d_add false (d_int) (d_call' g__law_take (hr.mono (by omega)) (da_cons (dv 0 (pv 0)) (da_cons (dv 1 (pv 1)) (da_nil))) (fun _ _ _ _ _ _ us hl => match us, hl with | [_, _], _ => rfl))) (da_cons (d_lst false (da_nil)) (da_nil))) (by rfl)))
    (ds_cons (ds_while 100000 PassesOwn.never (t_lt (d_len B.len (da_cons (dv 3 (pv 3)) (da_nil))) (dv 2 (pv 2)))
    (ds_cons (ds_set (ps_set (i := 4) sc__law_names.nd rfl (Or.inl rfl) (d_join (d_str) (d_lc false (own := [("_law_turn", 5)]) rfl sc__law_names.nd (di_rng1 B.range (da_cons (d_add false (d_int) (d_call' g__law_take (hr.mono (by omega)) (da_cons (dv 0 (pv 0)) (da_cons (d_int) (da_nil))) (fun _ _ _ _ _ _ us hl => match us, hl with | [_, _], _ => rfl))) (da_nil))) (blkOk_by (N := N__law_names) (sc := defScope s__law_names) (by decide +kernel)) (fun _ _ _ _ _ => dg_name 5 (pg_name (i := 5) sc__law_names.nd rfl (Or.inl rfl))) (fun _ _ _ _ _ => dts_nil) (fun _ _ _ _ _ => d_call' g__law_pick (hr.mono (by omega)) (da_cons (dv 0 (pv 0)) (da_cons (d_str) (da_nil))) (fun _ _ _ _ _ _ us hl => match us, hl with | [_, _], _ => rfl)) (by decide)))))
    (ds_one (ds_set (ps_set (i := 3) sc__law_names.nd rfl (Or.inl rfl) (d_sortS hr rfl false B.sorted B.set (da_cons (d_add false (dv 3 (pv 3)) (d_lst false (da_cons (d_add false (dv 4 (pv 4)) (d_idx hr.room (d_str) (d_len B.len (da_cons (dv 3 (pv 3)) (da_nil))) (fun _ _ => rfl))) (da_nil)))) (da_nil))))))))
    (ds_one (ds_ret (dv 3 (pv 3)))))
abbrev s_falls : Stmt := topS 7
abbrev N_falls : List Str := ["one", "other", "places", "name", "place", "later"]
theorem sc_falls : FnScope N_falls ["one", "other"] (defScope s_falls) := ⟨rfl, rfl, rfl, by decide +kernel, rfl, by decide +kernel, by decide +kernel⟩
theorem ok_falls (f : Addr) (fd : FuncData) (F : Fun K "falls" "falls" s_falls f fd) (hm : mg "falls" = some (.ref f)) (B : Bi mg)  (g_look_alike : GD HW.P HW.w K mg base 1 "look_alike" s_look_alike ["one", "other"] m_look_alike) (g_place_of : GD HW.P HW.w K mg base 3 "place_of" s_place_of ["row", "name"] m_place_of) : GD HW.P HW.w K mg base 4 "falls" s_falls ["one", "other"] m_falls := gd_ok false F hm sc_falls fun cdv A outer s H E hr =>
    ds_cons (ds_expr (d_call' g_look_alike (hr.mono (by omega)) (da_cons (dv 0 (pv 0)) (da_cons (dv 1 (pv 1)) (da_nil))) (fun _ _ _ _ _ _ us hl => match us, hl with | [_, _], _ => rfl)))
    (ds_cons (ds_setLc false (own := [("name", 3)]) (i := 2) rfl sc_falls.nd rfl rfl (sw_true rfl rfl rfl (by decide +kernel)) (di_seq (dv 1 (pv 1))) (blkOk_by (N := N_falls) (sc := defScope s_falls) (by decide +kernel)) (fun _ _ _ _ _ => dg_name 3 (pg_name (i := 3) sc_falls.nd rfl (Or.inl rfl))) (fun _ _ _ _ _ => dts_nil) (fun _ _ _ _ _ => d_call' g_place_of (hr.mono (by omega)) (da_cons (dv 0 (pv 0)) (da_cons (dv 3 (pv 3)) (da_nil))) (fun _ _ _ _ _ _ us hl => match us, hl with | [_, _], _ => rfl)) (by decide))
    (ds_one (ds_ret (d_len B.len (da_cons (d_lc false (own := [("place", 4), ("later", 5)]) rfl sc_falls.nd (di_zip B.zip (da_cons (dv 2 (pv 2)) (da_cons (d_slice false (dv 2 (pv 2)) (do_some (d_int)) (do_none)) (da_nil)))) (blkOk_by (N := N_falls) (sc := defScope s_falls) (by decide +kernel)) (fun _ _ _ _ _ => dg_tup rfl (dgs_cons (dg_name 4 (pg_name (i := 4) sc_falls.nd rfl (Or.inl rfl))) (dgs_cons (dg_name 5 (pg_name (i := 5) sc_falls.nd rfl (Or.inl rfl))) (dgs_nil)))) (fun _ _ _ _ _ => dts_one (t_gt (dv 4 (pv 4)) (dv 5 (pv 5)))) (fun _ _ _ _ _ => dv 4 (pv 4)) (by decide)) (da_nil))))))
abbrev s_words_many : Stmt := topS 10
abbrev N_words_many : List Str := ["one", "other", "many", "fallen", "turn", "size", "rows"]
theorem sc_words_many : FnScope N_words_many ["one", "other", "many"] (defScope s_words_many) := ⟨rfl, rfl, rfl, by decide +kernel, rfl, by decide +kernel, by decide +kernel⟩
theorem ok_words_many (f : Addr) (fd : FuncData) (F : Fun K "words_many" "words_many" s_words_many f fd) (hm : mg "words_many" = some (.ref f)) (B : Bi mg)  (g_falls : GD HW.P HW.w K mg base 4 "falls" s_falls ["one", "other"] m_falls) (g_choices : GD HW.P HW.w K mg base 1 "choices" s_choices ["many", "few"] m_choices) : GD HW.P HW.w K mg base 5 "words_many" s_words_many ["one", "other", "many"] m_words_many := gd_ok false F hm sc_words_many fun cdv A outer s H E hr =>
    ds_cons (ds_par2 (ps_par (i := 5) (j := 6) rfl sc_words_many.nd rfl rfl (by decide) rfl rfl (da_cons (d_len B.len (da_cons (dv 0 (pv 0)) (da_nil))) (da_cons (d_int) (da_nil))) (by rfl)))
    (ds_cons (ds_set (ps_set (i := 3) sc_words_many.nd rfl (Or.inl rfl) (d_call' g_falls (hr.mono (by omega)) (da_cons (dv 0 (pv 0)) (da_cons (dv 1 (pv 1)) (da_nil))) (fun _ _ _ _ _ _ us hl => match us, hl with | [_, _], _ => rfl))))
    (ds_cons (ds_for rfl PassesOwn.never (di_rng1 B.range (da_cons (dv 2 (pv 2)) (da_nil))) (dg_name 4 (pg_name (i := 4) sc_words_many.nd rfl (Or.inl rfl)))
    (ds_one (ds_aug (ps_aug (i := 6) sc_words_many.nd rfl (Or.inl rfl) (dv 5 (pv 5)) ip_gMul))))
    (ds_one (ds_ret (d_call' g_choices (hr.mono (by omega)) (da_cons (d_sub (d_sub (d_add false (dv 6 (pv 6)) (dv 5 (pv 5))) (d_int)) (dv 3 (pv 3))) (da_cons (dv 5 (pv 5)) (da_nil))) (fun _ _ _ _ _ _ us hl => match us, hl with | [_, _], _ => rfl))))))
abbrev s__law_same : Stmt := topS 15
abbrev N__law_same : List Str := ["_law_found", "_law_due", "_law_first_one", "_law_two"]
theorem sc__law_same : FnScope N__law_same ["_law_found", "_law_due"] (defScope s__law_same) := ⟨rfl, rfl, rfl, by decide +kernel, rfl, by decide +kernel, by decide +kernel⟩
theorem ok__law_same (f : Addr) (fd : FuncData) (F : Fun K "_law_same" "_law_same" s__law_same f fd) (hm : mg "_law_same" = some (.ref f)) (B : Bi mg)   : ∀ n : Nat, GD HW.P HW.w K mg base (n) "_law_same" s__law_same ["_law_found", "_law_due"] (m__law_same n)
  | 0 => GD.no F hm
  | n + 1 => have ih := ok__law_same f fd F hm B  n
    gd_ok false F hm sc__law_same fun cdv A outer s H E hr =>
    ds_cons (ds_if (dt_val (d_isi2 B.isinstance B.list bt_list (.inr (.inr (.inr (.inl rfl)))) B.tuple bt_tuple (.inr (.inr (.inr (.inr (.inl rfl))))) (dv 1 (pv 1)))) (ds_cons (ds_if (PW.pt (dw_or (t_ne hr.room (d_isi B.isinstance B.list bt_list (.inr (.inr (.inr (.inl rfl)))) (dv 0 (pv 0))) (d_isi B.isinstance B.list bt_list (.inr (.inr (.inr (.inl rfl)))) (dv 1 (pv 1)))) (dw_or1 (t_ne hr.room (d_isi B.isinstance B.tuple bt_tuple (.inr (.inr (.inr (.inr (.inl rfl))))) (dv 0 (pv 0))) (d_isi B.isinstance B.tuple bt_tuple (.inr (.inr (.inr (.inr (.inl rfl))))) (dv 1 (pv 1))))))) (ds_one (ds_ret (d_bl))) (ds_nil))
    (ds_cons (ds_if (t_ne hr.room (d_len B.len (da_cons (dv 0 (pv 0)) (da_nil))) (d_len B.len (da_cons (dv 1 (pv 1)) (da_nil)))) (ds_one (ds_ret (d_bl))) (ds_nil))
    (ds_one (ds_ret (d_all rfl B.all (da_cons (d_lc false (own := [("_law_first_one", 2), ("_law_two", 3)]) rfl sc__law_same.nd (di_zip B.zip (da_cons (dv 0 (pv 0)) (da_cons (dv 1 (pv 1)) (da_nil)))) (blkOk_by (N := N__law_same) (sc := defScope s__law_same) (by decide +kernel)) (fun _ _ _ _ _ => dg_tup rfl (dgs_cons (dg_name 2 (pg_name (i := 2) sc__law_same.nd rfl (Or.inl rfl))) (dgs_cons (dg_name 3 (pg_name (i := 3) sc__law_same.nd rfl (Or.inl rfl))) (dgs_nil)))) (fun _ _ _ _ _ => dts_nil) (fun _ _ _ _ _ => d_call' ih hr (da_cons (dv 2 (pv 2)) (da_cons (dv 3 (pv 3)) (da_nil))) (fun _ _ _ _ _ _ us hl => match us, hl with | [_, _], _ => rfl)) (by decide)) (da_nil))))))) (ds_nil))
    (ds_cons (ds_if (PW.pt (dw_or (t_is (dv 1 (pv 1)) (d_non)) (dw_or1 (dt_val (d_isi B.isinstance B.str bt_str (.inr (.inr (.inl rfl))) (dv 1 (pv 1))))))) (ds_one (ds_ret (d_and (d_eq hr.room (dv 0 (pv 0)) (dv 1 (pv 1))) (d_one (d_eq hr.room (d_isi B.isinstance B.str bt_str (.inr (.inr (.inl rfl))) (dv 0 (pv 0))) (d_isi B.isinstance B.str bt_str (.inr (.inr (.inl rfl))) (dv 1 (pv 1)))))))) (ds_nil))
    (ds_one (ds_ret (d_and (d_isi B.isinstance B.int bt_int (.inl rfl) (dv 0 (pv 0))) (d_and (d_eq hr.room (d_isi B.isinstance B.bool bt_bool (.inr (.inl rfl)) (dv 0 (pv 0))) (d_isi B.isinstance B.bool bt_bool (.inr (.inl rfl)) (dv 1 (pv 1)))) (d_one (d_eq hr.room (dv 0 (pv 0)) (dv 1 (pv 1)))))))))
abbrev s__law_right : Stmt := topS 22
abbrev N__law_right : List Str := ["_law_box_here", "_law_names_due", "_law_leads", "_law_some", "_law_first", "_law_ways", "_law_turn", "_law_end", "_law_every", "_law_cries", "_law_cry", "_law_later"]
theorem sc__law_right : FnScope N__law_right ["_law_box_here"] (defScope s__law_right) := ⟨rfl, rfl, rfl, by decide +kernel, rfl, by decide +kernel, by decide +kernel⟩
theorem ok__law_right (f : Addr) (fd : FuncData) (F : Fun K "_law_right" "_law_right" s__law_right f fd) (hm : mg "_law_right" = some (.ref f)) (B : Bi mg)  (g__law_names : GD HW.P HW.w K mg base 3 "_law_names" s__law_names ["_law_box_here", "_law_most"] m__law_names) (g__law_pick : GD HW.P HW.w K mg base 2 "_law_pick" s__law_pick ["_law_box_here", "_law_some"] m__law_pick) (g__law_same : GD HW.P HW.w K mg base 12 "_law_same" s__law_same ["_law_found", "_law_due"] (m__law_same 12)) (g__law_all_rows : GD HW.P HW.w K mg base 1 "_law_all_rows" s__law_all_rows ["_law_names_due"] m__law_all_rows) (g__law_all_calls : GD HW.P HW.w K mg base 1 "_law_all_calls" s__law_all_calls ["_law_names_due"] m__law_all_calls) (g_words_many : GD HW.P HW.w K mg base 5 "words_many" s_words_many ["one", "other", "many"] m_words_many) (g__law_called : GD HW.P HW.w K mg base 1 "_law_called" s__law_called ["_law_row_due", "_law_cry"] m__law_called) (g__law_take : GD HW.P HW.w K mg base 1 "_law_take" s__law_take ["_law_box_here", "_law_size"] m__law_take) (g__law_power : GD HW.P HW.w K mg base 1 "_law_power" s__law_power ["_law_base", "_law_times"] m__law_power) : GD HW.P HW.w K mg base 13 "_law_right" s__law_right ["_law_box_here"] m__law_right := gd_ok false F hm sc__law_right fun cdv A outer s H E hr =>
    ds_cons (ds_set (ps_set (i := 1) sc__law_right.nd rfl (Or.inl rfl) (d_call' g__law_names (hr.mono (by omega)) (da_cons (dv 0 (pv 0)) (da_cons (d_int) (da_nil))) (fun _ _ _ _ _ _ us hl => match us, hl with | [_, _], _ => rfl))))
    (ds_cons (ds_par2 (ps_par (i := 8) (j := 9) rfl sc__law_right.nd rfl rfl (by decide) rfl rfl (da_cons (d_call' g__law_all_rows (hr.mono (by omega)) (da_cons (dv 1 (pv 1)) (da_nil)) (fun _ _ _ _ _ _ us hl => match us, hl with | [_], _ => rfl)) (da_cons (d_call' g__law_all_calls (hr.mono (by omega)) (da_cons (dv 1 (pv 1)) (da_nil)) (fun _ _ _ _ _ _ us hl => match us, hl with | [_], _ => rfl)) (da_nil))) (by rfl)))
    (ds_cons (ds_set (ps_set (i := 2) sc__law_right.nd rfl (Or.inl rfl) (d_dictK hr rfl B.dict (own := [("_law_some", 3)]) sc__law_right.nd (di_seq (dv 8 (pv 8))) (blkOk_by (N := N__law_right) (sc := defScope s__law_right) (by decide +kernel)) (fun _ _ _ _ _ => dg_name 3 (pg_name (i := 3) sc__law_right.nd rfl (Or.inl rfl))) (fun _ _ _ _ _ => d_tupX (da_cons (dv 3 (pv 3)) (da_cons (d_dnewT) (da_nil)))) (by decide))))
    (ds_cons (ds_for rfl PassesOwn.never (di_seq (dv 8 (pv 8))) (dg_name 3 (pg_name (i := 3) sc__law_right.nd rfl (Or.inl rfl)))
    (ds_one (ds_for rfl PassesOwn.never (di_seq (dv 9 (pv 9))) (dg_name 10 (pg_name (i := 10) sc__law_right.nd rfl (Or.inl rfl)))
    (ds_cons (ds_set (ps_set (i := 7) sc__law_right.nd rfl (Or.inl rfl) (d_call' g__law_called (hr.mono (by omega)) (da_cons (dv 3 (pv 3)) (da_cons (dv 10 (pv 10)) (da_nil))) (fun _ _ _ _ _ _ us hl => match us, hl with | [_, _], _ => rfl))))
    (ds_one (ds_putT hr (d_add false (d_dget hr (d_idxK hr.room (dv 2 (pv 2)) (dv 3 (pv 3)) (fun _ _ => rfl)) (dv 7 (pv 7)) (d_int) ⟨rfl, rfl, rfl, rfl⟩) (d_int)) (d_idxK hr.room (dv 2 (pv 2)) (dv 3 (pv 3)) (fun _ _ => rfl)) (dv 7 (pv 7)) (fun hu => ps_asg (d_add false (d_dget hr (d_idxK hr.room (dv 2 (pv 2)) (dv 3 (pv 3)) (fun _ _ => rfl)) (dv 7 (pv 7)) (d_int) ⟨rfl, rfl, rfl, rfl⟩) (d_int)) (pg_sub (d_idxK hr.room (dv 2 (pv 2)) (dv 3 (pv 3)) (fun _ _ => rfl)) (dv 7 (pv 7)) (set_dictX hu ⟨rfl, rfl⟩)))))))))
    (ds_frzK 2 (ds_cons (ds_set (ps_set (i := 4) sc__law_right.nd rfl (Or.inr rfl) (d_call' g__law_pick (hr.mono (by omega)) (da_cons (dv 0 (pv 0)) (da_cons (dv 8 (pv 8)) (da_nil))) (fun _ _ _ _ _ _ us hl => match us, hl with | [_, _], _ => rfl))))
    (ds_cons (ds_set (ps_set (i := 5) sc__law_right.nd rfl (Or.inr rfl) (d_dictT hr rfl B.dict (da_cons (d_lc false (own := [("_law_some", 3)]) rfl sc__law_right.nd (di_seq (dv 8 (pv 8))) (blkOk_by (N := N__law_right) (sc := defScope s__law_right) (by decide +kernel)) (fun _ _ _ _ _ => dg_name 3 (pg_name (i := 3) sc__law_right.nd rfl (Or.inl rfl))) (fun _ _ _ _ _ => dts_nil) (fun _ _ _ _ _ => d_tup (da_cons (dv 3 (pv 3)) (da_cons (d_intC B.int (da_cons (d_eq hr.room (dv 3 (pv 3)) (dv 4 (pv 4))) (da_nil))) (da_nil)))) (by decide)) (da_nil)))))
    (ds_cons (ds_for rfl PassesOwn.never (di_rng1 B.range (da_cons (d_add false (d_int) (d_call' g__law_take (hr.mono (by omega)) (da_cons (dv 0 (pv 0)) (da_cons (d_int) (da_nil))) (fun _ _ _ _ _ _ us hl => match us, hl with | [_, _], _ => rfl))) (da_nil))) (dg_name 6 (pg_name (i := 6) sc__law_right.nd rfl (Or.inr rfl)))
    (ds_cons (ds_if (dt_not (dt_val (d_call' g__law_same (hr.mono (by omega)) (da_cons (d_lc false (own := [("_law_some", 3)]) rfl sc__law_right.nd (di_seq (dv 8 (pv 8))) (blkOk_by (N := N__law_right) (sc := defScope s__law_right) (by decide +kernel)) (fun _ _ _ _ _ => dg_name 3 (pg_name (i := 3) sc__law_right.nd rfl (Or.inl rfl))) (fun _ _ _ _ _ => dts_nil) (fun _ _ _ _ _ => d_call' g_words_many (hr.mono (by omega)) (da_cons (dv 4 (pv 4)) (da_cons (dv 3 (pv 3)) (da_cons (dv 6 (pv 6)) (da_nil)))) (fun _ _ _ _ _ _ us hl => match us, hl with | [_, _, _], _ => rfl)) (by decide)) (da_cons (d_lc false (own := [("_law_some", 3)]) rfl sc__law_right.nd (di_seq (dv 8 (pv 8))) (blkOk_by (N := N__law_right) (sc := defScope s__law_right) (by decide +kernel)) (fun _ _ _ _ _ => dg_name 3 (pg_name (i := 3) sc__law_right.nd rfl (Or.inl rfl))) (fun _ _ _ _ _ => dts_nil) (fun _ _ _ _ _ => d_idx hr.room (dv 5 (pv 5)) (dv 3 (pv 3)) (fun _ _ => rfl)) (by decide)) (da_nil))) (fun _ _ _ _ _ _ us hl => match us, hl with | [_, _], _ => rfl)))) (ds_one (ds_ret (d_bl))) (ds_nil))
    (ds_cons (ds_if (t_ne hr.room (d_sum rfl B.sum (da_cons (d_listVX rfl false B.list (dv 5 (pv 5))) (da_nil))) (d_call' g__law_power (hr.mono (by omega)) (da_cons (d_len B.len (da_cons (dv 9 (pv 9)) (da_nil))) (da_cons (dv 6 (pv 6)) (da_nil))) (fun _ _ _ _ _ _ us hl => match us, hl with | [_, _], _ => rfl))) (ds_one (ds_ret (d_bl))) (ds_nil))
    (ds_cons (ds_set (ps_set (i := 11) sc__law_right.nd rfl (Or.inl rfl) (d_dictT hr rfl B.dict (da_cons (d_lc false (own := [("_law_some", 3)]) rfl sc__law_right.nd (di_seq (dv 8 (pv 8))) (blkOk_by (N := N__law_right) (sc := defScope s__law_right) (by decide +kernel)) (fun _ _ _ _ _ => dg_name 3 (pg_name (i := 3) sc__law_right.nd rfl (Or.inl rfl))) (fun _ _ _ _ _ => dts_nil) (fun _ _ _ _ _ => d_tup (da_cons (dv 3 (pv 3)) (da_cons (d_int) (da_nil)))) (by decide)) (da_nil)))))
    (ds_cons (ds_for rfl PassesOwn.never (di_seq (dv 8 (pv 8))) (dg_name 3 (pg_name (i := 3) sc__law_right.nd rfl (Or.inl rfl)))
    (ds_one (ds_for rfl PassesOwn.never (di_keysT (d_idxK hr.room (dv 2 (pv 2)) (dv 3 (pv 3)) (fun _ _ => rfl))) (dg_name 7 (pg_name (i := 7) sc__law_right.nd rfl (Or.inl rfl)))
    (ds_one (ds_putT hr (d_add false (d_idx hr.room (dv 11 (pv 11)) (dv 7 (pv 7)) (fun _ _ => rfl)) (d_mul false (d_idx hr.room (dv 5 (pv 5)) (dv 3 (pv 3)) (fun _ _ => rfl)) (d_idx hr.room (d_idxK hr.room (dv 2 (pv 2)) (dv 3 (pv 3)) (fun _ _ => rfl)) (dv 7 (pv 7)) (fun _ _ => rfl)))) (dv 11 (pv 11)) (dv 7 (pv 7)) (fun hu => ps_asg (d_add false (d_idx hr.room (dv 11 (pv 11)) (dv 7 (pv 7)) (fun _ _ => rfl)) (d_mul false (d_idx hr.room (dv 5 (pv 5)) (dv 3 (pv 3)) (fun _ _ => rfl)) (d_idx hr.room (d_idxK hr.room (dv 2 (pv 2)) (dv 3 (pv 3)) (fun _ _ => rfl)) (dv 7 (pv 7)) (fun _ _ => rfl)))) (pg_sub (dv 11 (pv 11)) (dv 7 (pv 7)) (set_dictX hu ⟨rfl, rfl⟩))))))))
    (ds_one (ds_set (ps_set (i := 5) sc__law_right.nd rfl (Or.inr rfl) (dv 11 (pv 11))))))))))
    (ds_cons (ds_set (ps_set (i := 7) sc__law_right.nd rfl (Or.inl rfl) (d_call' g__law_pick (hr.mono (by omega)) (da_cons (dv 0 (pv 0)) (da_cons (dv 8 (pv 8)) (da_nil))) (fun _ _ _ _ _ _ us hl => match us, hl with | [_, _], _ => rfl))))
    (ds_one (ds_ret (d_call' g__law_same (hr.mono (by omega)) (da_cons (d_callK (ks := ["many", "other", "one"]) g_words_many (hr.mono (by omega)) (dk_cons (d_int) (dk_cons (d_list false B.list (da_cons (dv 7 (pv 7)) (da_nil))) (dk_cons (d_list false B.list (da_cons (dv 4 (pv 4)) (da_nil))) (dk_nil)))) (fun _ _ _ _ _ _ us l hl hp => match us, hl with | [_, _, _], _ => by cases hp; rfl) rfl) (da_cons (d_dget hr (d_idxK hr.room (dv 2 (pv 2)) (dv 4 (pv 4)) (fun _ _ => rfl)) (dv 7 (pv 7)) (d_int) ⟨rfl, rfl, rfl, rfl⟩) (da_nil))) (fun _ _ _ _ _ _ us hl => match us, hl with | [_, _], _ => rfl))))))))))))
abbrev s_law : Stmt := topS 23
abbrev N_law : List Str := ["_law_script", "_law_cells", "_law_k"]
theorem sc_law : FnScope N_law ["_law_script"] (defScope s_law) := ⟨rfl, rfl, rfl, by decide +kernel, rfl, by decide +kernel, by decide +kernel⟩
theorem ok_law (f : Addr) (fd : FuncData) (F : Fun K "law" "law" s_law f fd) (hm : mg "law" = some (.ref f)) (B : Bi mg)  (g__law_folded : GD HW.P HW.w K mg base 1 "_law_folded" s__law_folded ["_law_script", "_law_size"] m__law_folded) (g__law_right : GD HW.P HW.w K mg base 13 "_law_right" s__law_right ["_law_box_here"] m__law_right) (g__law_box : GD HW.P HW.w K mg base 1 "_law_box" s__law_box ["_law_script", "_law_k"] m__law_box) : FnG HW.P HW.w K mg base CX0 14 f fd ["_law_script"] (spD m_law) := fng_ok false F sc_law fun cdv A outer s H E hr =>
    ds_cons (ds_set (ps_set (i := 1) sc_law.nd rfl (Or.inr rfl) (d_call' g__law_folded (hr.mono (by omega)) (da_cons (dv 0 (pv 0)) (da_cons (d_int) (da_nil))) (fun _ _ _ _ _ _ us hl => match us, hl with | [_, _], _ => rfl))))
    (ds_one (ds_ret (d_all rfl B.all (da_cons (d_lc false (own := [("_law_k", 2)]) rfl sc_law.nd (di_rng1 B.range (da_cons (d_len B.len (da_cons (dv 1 (pv 1)) (da_nil))) (da_nil))) (blkOk_by (N := N_law) (sc := defScope s_law) (by decide +kernel)) (fun _ _ _ _ _ => dg_name 2 (pg_name (i := 2) sc_law.nd rfl (Or.inl rfl))) (fun _ _ _ _ _ => dts_nil) (fun _ _ _ _ _ => d_call' g__law_right (hr.mono (by omega)) (da_cons (d_call' g__law_box (hr.mono (by omega)) (da_cons (dv 1 (pv 1)) (da_cons (dv 2 (pv 2)) (da_nil))) (fun _ _ _ _ _ _ us hl => match us, hl with | [_, _], _ => rfl)) (da_nil)) (fun _ _ _ _ _ _ us hl => match us, hl with | [_], _ => rfl)) (by decide)) (da_nil)))))
end
theorem all_mk {l : PySem.W.OpenLaw} {w : World} {K : PySem.W.Frag} {h : Heap} {mg : Str → Option Value} {fa f0 f1 f2 f3 f4 f5 f6 f7 f8 f9 f10 f11 f12 f13 f14 f15 f16 f17 : Addr} (X : K.In h) (G : h.Ns mainGlobals mg) (hfa : mg "law" = some (.ref fa))
    {od0 od1 od2 od3 od4 od5 od6 od7 od8 od9 od10 od11 od12 od13 od14 od15 od16 od17 an0 an1 an2 an3 an4 an5 an6 an7 an8 an9 an10 an11 an12 an13 an14 an15 an16 an17 : Option Addr} {sl0 sl1 sl2 sl3 sl4 sl5 sl6 sl7 sl8 sl9 sl10 sl11 sl12 sl13 sl14 sl15 sl16 sl17 : Array (Option Value)} {oc0 oc1 oc2 oc3 oc4 oc5 oc6 oc7 oc8 oc9 oc10 oc11 oc12 oc13 oc14 oc15 oc16 oc17 kV0 kV1 kV2 kV3 kV4 kV5 kV6 kV7 kV8 kV9 kV10 kV11 kV12 kV13 kV14 kV15 kV16 kV17 dc0 dc1 dc2 dc3 dc4 dc5 dc6 dc7 dc8 dc9 dc10 dc11 dc12 dc13 dc14 dc15 dc16 dc17 pm0 pm1 pm2 pm3 pm4 pm5 pm6 pm7 pm8 pm9 pm10 pm11 pm12 pm13 pm14 pm15 pm16 pm17 cd0 cd1 cd2 cd3 cd4 cd5 cd6 cd7 cd8 cd9 cd10 cd11 cd12 cd13 cd14 cd15 cd16 cd17 ct0 ct1 ct2 ct3 ct4 ct5 ct6 ct7 ct8 ct9 ct10 ct11 ct12 ct13 ct14 ct15 ct16 ct17 : Value}
    (a0 : PySem.W.nsIn K mainGlobals "places_of" = some (some (.ref f0))) (l0 : K.lookup f0 = some ⟨oc0, od0, .func (PySem.W.fnOf "places_of" "places_of" (defArgs s_places_of) (defBody s_places_of) (defScope s_places_of) .none kV0 dc0 pm0 an0 cd0 ct0), sl0⟩) (c0 : PySem.W.codeIn K cd0 "places_of" = true) (k0 : PySem.W.keepIn K (.ref f0) = true)
    (a1 : PySem.W.nsIn K mainGlobals "look_alike" = some (some (.ref f1))) (l1 : K.lookup f1 = some ⟨oc1, od1, .func (PySem.W.fnOf "look_alike" "look_alike" (defArgs s_look_alike) (defBody s_look_alike) (defScope s_look_alike) .none kV1 dc1 pm1 an1 cd1 ct1), sl1⟩) (c1 : PySem.W.codeIn K cd1 "look_alike" = true) (k1 : PySem.W.keepIn K (.ref f1) = true)
    (a2 : PySem.W.nsIn K mainGlobals "place_of" = some (some (.ref f2))) (l2 : K.lookup f2 = some ⟨oc2, od2, .func (PySem.W.fnOf "place_of" "place_of" (defArgs s_place_of) (defBody s_place_of) (defScope s_place_of) .none kV2 dc2 pm2 an2 cd2 ct2), sl2⟩) (c2 : PySem.W.codeIn K cd2 "place_of" = true) (k2 : PySem.W.keepIn K (.ref f2) = true)
    (a3 : PySem.W.nsIn K mainGlobals "falls" = some (some (.ref f3))) (l3 : K.lookup f3 = some ⟨oc3, od3, .func (PySem.W.fnOf "falls" "falls" (defArgs s_falls) (defBody s_falls) (defScope s_falls) .none kV3 dc3 pm3 an3 cd3 ct3), sl3⟩) (c3 : PySem.W.codeIn K cd3 "falls" = true) (k3 : PySem.W.keepIn K (.ref f3) = true)
    (a4 : PySem.W.nsIn K mainGlobals "choices" = some (some (.ref f4))) (l4 : K.lookup f4 = some ⟨oc4, od4, .func (PySem.W.fnOf "choices" "choices" (defArgs s_choices) (defBody s_choices) (defScope s_choices) .none kV4 dc4 pm4 an4 cd4 ct4), sl4⟩) (c4 : PySem.W.codeIn K cd4 "choices" = true) (k4 : PySem.W.keepIn K (.ref f4) = true)
    (a5 : PySem.W.nsIn K mainGlobals "words_many" = some (some (.ref f5))) (l5 : K.lookup f5 = some ⟨oc5, od5, .func (PySem.W.fnOf "words_many" "words_many" (defArgs s_words_many) (defBody s_words_many) (defScope s_words_many) .none kV5 dc5 pm5 an5 cd5 ct5), sl5⟩) (c5 : PySem.W.codeIn K cd5 "words_many" = true) (k5 : PySem.W.keepIn K (.ref f5) = true)
    (a6 : PySem.W.nsIn K mainGlobals "_law_box" = some (some (.ref f6))) (l6 : K.lookup f6 = some ⟨oc6, od6, .func (PySem.W.fnOf "_law_box" "_law_box" (defArgs s__law_box) (defBody s__law_box) (defScope s__law_box) .none kV6 dc6 pm6 an6 cd6 ct6), sl6⟩) (c6 : PySem.W.codeIn K cd6 "_law_box" = true) (k6 : PySem.W.keepIn K (.ref f6) = true)
    (a7 : PySem.W.nsIn K mainGlobals "_law_take" = some (some (.ref f7))) (l7 : K.lookup f7 = some ⟨oc7, od7, .func (PySem.W.fnOf "_law_take" "_law_take" (defArgs s__law_take) (defBody s__law_take) (defScope s__law_take) .none kV7 dc7 pm7 an7 cd7 ct7), sl7⟩) (c7 : PySem.W.codeIn K cd7 "_law_take" = true) (k7 : PySem.W.keepIn K (.ref f7) = true)
    (a8 : PySem.W.nsIn K mainGlobals "_law_pick" = some (some (.ref f8))) (l8 : K.lookup f8 = some ⟨oc8, od8, .func (PySem.W.fnOf "_law_pick" "_law_pick" (defArgs s__law_pick) (defBody s__law_pick) (defScope s__law_pick) .none kV8 dc8 pm8 an8 cd8 ct8), sl8⟩) (c8 : PySem.W.codeIn K cd8 "_law_pick" = true) (k8 : PySem.W.keepIn K (.ref f8) = true)
    (a9 : PySem.W.nsIn K mainGlobals "_law_same" = some (some (.ref f9))) (l9 : K.lookup f9 = some ⟨oc9, od9, .func (PySem.W.fnOf "_law_same" "_law_same" (defArgs s__law_same) (defBody s__law_same) (defScope s__law_same) .none kV9 dc9 pm9 an9 cd9 ct9), sl9⟩) (c9 : PySem.W.codeIn K cd9 "_law_same" = true) (k9 : PySem.W.keepIn K (.ref f9) = true)
    (a10 : PySem.W.nsIn K mainGlobals "_law_folded" = some (some (.ref f10))) (l10 : K.lookup f10 = some ⟨oc10, od10, .func (PySem.W.fnOf "_law_folded" "_law_folded" (defArgs s__law_folded) (defBody s__law_folded) (defScope s__law_folded) .none kV10 dc10 pm10 an10 cd10 ct10), sl10⟩) (c10 : PySem.W.codeIn K cd10 "_law_folded" = true) (k10 : PySem.W.keepIn K (.ref f10) = true)
    (a11 : PySem.W.nsIn K mainGlobals "_law_names" = some (some (.ref f11))) (l11 : K.lookup f11 = some ⟨oc11, od11, .func (PySem.W.fnOf "_law_names" "_law_names" (defArgs s__law_names) (defBody s__law_names) (defScope s__law_names) .none kV11 dc11 pm11 an11 cd11 ct11), sl11⟩) (c11 : PySem.W.codeIn K cd11 "_law_names" = true) (k11 : PySem.W.keepIn K (.ref f11) = true)
    (a12 : PySem.W.nsIn K mainGlobals "_law_all_rows" = some (some (.ref f12))) (l12 : K.lookup f12 = some ⟨oc12, od12, .func (PySem.W.fnOf "_law_all_rows" "_law_all_rows" (defArgs s__law_all_rows) (defBody s__law_all_rows) (defScope s__law_all_rows) .none kV12 dc12 pm12 an12 cd12 ct12), sl12⟩) (c12 : PySem.W.codeIn K cd12 "_law_all_rows" = true) (k12 : PySem.W.keepIn K (.ref f12) = true)
    (a13 : PySem.W.nsIn K mainGlobals "_law_all_calls" = some (some (.ref f13))) (l13 : K.lookup f13 = some ⟨oc13, od13, .func (PySem.W.fnOf "_law_all_calls" "_law_all_calls" (defArgs s__law_all_calls) (defBody s__law_all_calls) (defScope s__law_all_calls) .none kV13 dc13 pm13 an13 cd13 ct13), sl13⟩) (c13 : PySem.W.codeIn K cd13 "_law_all_calls" = true) (k13 : PySem.W.keepIn K (.ref f13) = true)
    (a14 : PySem.W.nsIn K mainGlobals "_law_called" = some (some (.ref f14))) (l14 : K.lookup f14 = some ⟨oc14, od14, .func (PySem.W.fnOf "_law_called" "_law_called" (defArgs s__law_called) (defBody s__law_called) (defScope s__law_called) .none kV14 dc14 pm14 an14 cd14 ct14), sl14⟩) (c14 : PySem.W.codeIn K cd14 "_law_called" = true) (k14 : PySem.W.keepIn K (.ref f14) = true)
    (a15 : PySem.W.nsIn K mainGlobals "_law_power" = some (some (.ref f15))) (l15 : K.lookup f15 = some ⟨oc15, od15, .func (PySem.W.fnOf "_law_power" "_law_power" (defArgs s__law_power) (defBody s__law_power) (defScope s__law_power) .none kV15 dc15 pm15 an15 cd15 ct15), sl15⟩) (c15 : PySem.W.codeIn K cd15 "_law_power" = true) (k15 : PySem.W.keepIn K (.ref f15) = true)
    (a16 : PySem.W.nsIn K mainGlobals "_law_right" = some (some (.ref f16))) (l16 : K.lookup f16 = some ⟨oc16, od16, .func (PySem.W.fnOf "_law_right" "_law_right" (defArgs s__law_right) (defBody s__law_right) (defScope s__law_right) .none kV16 dc16 pm16 an16 cd16 ct16), sl16⟩) (c16 : PySem.W.codeIn K cd16 "_law_right" = true) (k16 : PySem.W.keepIn K (.ref f16) = true)
    (a17 : PySem.W.nsIn K mainGlobals "law" = some (some (.ref f17))) (l17 : K.lookup f17 = some ⟨oc17, od17, .func (PySem.W.fnOf "law" "law" (defArgs s_law) (defBody s_law) (defScope s_law) .none kV17 dc17 pm17 an17 cd17 ct17), sl17⟩) (c17 : PySem.W.codeIn K cd17 "law" = true) (k17 : PySem.W.keepIn K (.ref f17) = true)
    (z_len : PySem.W.nsIn K mainGlobals "len" = some none)
    (z_abs : PySem.W.nsIn K mainGlobals "abs" = some none)
    (z_int : PySem.W.nsIn K mainGlobals "int" = some none)
    (z_max : PySem.W.nsIn K mainGlobals "max" = some none)
    (z_min : PySem.W.nsIn K mainGlobals "min" = some none)
    (z_all : PySem.W.nsIn K mainGlobals "all" = some none)
    (z_any : PySem.W.nsIn K mainGlobals "any" = some none)
    (z_sum : PySem.W.nsIn K mainGlobals "sum" = some none)
    (z_tuple : PySem.W.nsIn K mainGlobals "tuple" = some none)
    (z_list : PySem.W.nsIn K mainGlobals "list" = some none)
    (z_dict : PySem.W.nsIn K mainGlobals "dict" = some none)
    (z_sorted : PySem.W.nsIn K mainGlobals "sorted" = some none)
    (z_isinstance : PySem.W.nsIn K mainGlobals "isinstance" = some none)
    (z_str : PySem.W.nsIn K mainGlobals "str" = some none)
    (z_bool : PySem.W.nsIn K mainGlobals "bool" = some none)
    (z_range : PySem.W.nsIn K mainGlobals "range" = some none)
    (z_enumerate : PySem.W.nsIn K mainGlobals "enumerate" = some none)
    (z_zip : PySem.W.nsIn K mainGlobals "zip" = some none)
    (z_reversed : PySem.W.nsIn K mainGlobals "reversed" = some none)
    (z_repr : PySem.W.nsIn K mainGlobals "repr" = some none)
    (z_set : PySem.W.nsIn K mainGlobals "set" = some none)
    : ∃ (fd : FuncData) (os : List (Option (Str × Addr × Addr))) (m : FM), (∀ (s : Shared) (v : Value), BindsTo s fd ⟨[v], []⟩ [("_law_script", v)]) ∧ (∀ t ∈ os.filterMap id, (∃ y ∈ ([] : List Str), PySem.W.tabIn K y = some (t.2.1, t.2.2)) ∧ K.lookup t.2.2 = none) ∧ ((os.filterMap id).map (·.2.2)).Nodup ∧ (∀ base : Heap, K.In base → base.Ns mainGlobals mg → (∀ t ∈ os.filterMap id, LamX.TabB base mg t.2.1 t.2.2) → FnG l.prog w K mg base CX0 14 fa fd ["_law_script"] (@spD (HW.mk l.prog w) m)) ∧ ∀ ns : List Int, ns.length ≤ 63 → ∃ h', m [.scr ns] (tabsO os) = some (.dat (.bool true), h') := by
  letI : HW := HW.mk l.prog w
  have e := hfa.symm.trans (PySem.W.mg_of X G a17)
  cases e
  have B : Bi mg := ⟨PySem.W.mg_none_of X G z_len, PySem.W.mg_none_of X G z_abs, PySem.W.mg_none_of X G z_int, PySem.W.mg_none_of X G z_max, PySem.W.mg_none_of X G z_min, PySem.W.mg_none_of X G z_all, PySem.W.mg_none_of X G z_any, PySem.W.mg_none_of X G z_sum, PySem.W.mg_none_of X G z_tuple, PySem.W.mg_none_of X G z_list, PySem.W.mg_none_of X G z_dict, PySem.W.mg_none_of X G z_sorted, PySem.W.mg_none_of X G z_isinstance, PySem.W.mg_none_of X G z_str, PySem.W.mg_none_of X G z_bool, PySem.W.mg_none_of X G z_range, PySem.W.mg_none_of X G z_enumerate, PySem.W.mg_none_of X G z_zip, PySem.W.mg_none_of X G z_reversed, PySem.W.mg_none_of X G z_repr, PySem.W.mg_none_of X G z_set⟩
  have F0 := fun_mk (st := s_places_of) l0 c0 k0
  have F1 := fun_mk (st := s_look_alike) l1 c1 k1
  have F2 := fun_mk (st := s_place_of) l2 c2 k2
  have F3 := fun_mk (st := s_falls) l3 c3 k3
  have F4 := fun_mk (st := s_choices) l4 c4 k4
  have F5 := fun_mk (st := s_words_many) l5 c5 k5
  have F6 := fun_mk (st := s__law_box) l6 c6 k6
  have F7 := fun_mk (st := s__law_take) l7 c7 k7
  have F8 := fun_mk (st := s__law_pick) l8 c8 k8
  have F9 := fun_mk (st := s__law_same) l9 c9 k9
  have F10 := fun_mk (st := s__law_folded) l10 c10 k10
  have F11 := fun_mk (st := s__law_names) l11 c11 k11
  have F12 := fun_mk (st := s__law_all_rows) l12 c12 k12
  have F13 := fun_mk (st := s__law_all_calls) l13 c13 k13
  have F14 := fun_mk (st := s__law_called) l14 c14 k14
  have F15 := fun_mk (st := s__law_power) l15 c15 k15
  have F16 := fun_mk (st := s__law_right) l16 c16 k16
  have F17 := fun_mk (st := s_law) l17 c17 k17
  refine ⟨PySem.W.fnOf "law" "law" (defArgs s_law) (defBody s_law) (defScope s_law) .none kV17 dc17 pm17 an17 cd17 ct17, [], m_law, fun s v => .of_eq rfl, (fun t ht => by cases ht), List.nodup_nil, fun base _ _ _ => ?_, law_true⟩
  have g__law_folded := ok__law_folded (base := base) _ _ F10 (PySem.W.mg_of X G a10) B 
  have g__law_take := ok__law_take (base := base) _ _ F7 (PySem.W.mg_of X G a7) B 
  have g__law_pick := ok__law_pick (base := base) _ _ F8 (PySem.W.mg_of X G a8) B g__law_take
  have g__law_names := ok__law_names (base := base) _ _ F11 (PySem.W.mg_of X G a11) B g__law_take g__law_pick
  have g__law_all_rows := ok__law_all_rows (base := base) _ _ F12 (PySem.W.mg_of X G a12) B 
  have g__law_all_calls := ok__law_all_calls (base := base) _ _ F13 (PySem.W.mg_of X G a13) B 
  have g__law_called := ok__law_called (base := base) _ _ F14 (PySem.W.mg_of X G a14) B 
  have g__law_same := ok__law_same (base := base) _ _ F9 (PySem.W.mg_of X G a9) B  12
  have g_look_alike := ok_look_alike (base := base) _ _ F1 (PySem.W.mg_of X G a1) B 
  have g_places_of := ok_places_of (base := base) _ _ F0 (PySem.W.mg_of X G a0) B 
  have g_place_of := ok_place_of (base := base) _ _ F2 (PySem.W.mg_of X G a2) B g_places_of
  have g_falls := ok_falls (base := base) _ _ F3 (PySem.W.mg_of X G a3) B g_look_alike g_place_of
  have g_choices := ok_choices (base := base) _ _ F4 (PySem.W.mg_of X G a4) B 
  have g_words_many := ok_words_many (base := base) _ _ F5 (PySem.W.mg_of X G a5) B g_falls g_choices
  have g__law_power := ok__law_power (base := base) _ _ F15 (PySem.W.mg_of X G a15) B 
  have g__law_right := ok__law_right (base := base) _ _ F16 (PySem.W.mg_of X G a16) B g__law_names g__law_pick g__law_same g__law_all_rows g__law_all_calls g_words_many g__law_called g__law_take g__law_power
  have g__law_box := ok__law_box (base := base) _ _ F6 (PySem.W.mg_of X G a6) B 
  exact ok_law (base := base) _ _ F17 (PySem.W.mg_of X G a17) B g__law_folded g__law_right g__law_box
end LW
open PySem PySem.W PyProof.Rows
set_option maxRecDepth 100000 in
set_option maxHeartbeats 0 in
theorem PySem.Challenge.cw_standby_k56_words_from_row_to_row_holds : PySem.Challenge.rw_standby_k56_words_from_row_to_row.Holds := by
  w_on; o_law; k_head; (case hw => w_witness2)
  k_fill
  refine DL.walk_gO (l := PySem.Challenge.rw_standby_k56_words_from_row_to_row) (k := 14) (x := "_law_script") (xs := []) rfl rfl ⟨rfl, by decide, by decide⟩ (fun w h Y => by first | exact PySem.W.kIn_of Y | exact PySem.W.km_in_of Y) ?nl (fun x hx => by cases hx) ?F
  case nl => intro w; first | rfl | kernel_rfl | decide +kernel
  case F =>
    intro w mg fa h KX G hmg
    refine' LW.all_mk KX G hmg ?a0 ?l0 ?c0 ?k0 ?a1 ?l1 ?c1 ?k1 ?a2 ?l2 ?c2 ?k2 ?a3 ?l3 ?c3 ?k3 ?a4 ?l4 ?c4 ?k4 ?a5 ?l5 ?c5 ?k5 ?a6 ?l6 ?c6 ?k6 ?a7 ?l7 ?c7 ?k7 ?a8 ?l8 ?c8 ?k8 ?a9 ?l9 ?c9 ?k9 ?a10 ?l10 ?c10 ?k10 ?a11 ?l11 ?c11 ?k11 ?a12 ?l12 ?c12 ?k12 ?a13 ?l13 ?c13 ?k13 ?a14 ?l14 ?c14 ?k14 ?a15 ?l15 ?c15 ?k15 ?a16 ?l16 ?c16 ?k16 ?a17 ?l17 ?c17 ?k17 ?z_len ?z_abs ?z_int ?z_max ?z_min ?z_all ?z_any ?z_sum ?z_tuple ?z_list ?z_dict ?z_sorted ?z_isinstance ?z_str ?z_bool ?z_range ?z_enumerate ?z_zip ?z_reversed ?z_repr ?z_set
    (case a0 => k_is); (case l0 => k_is); (case c0 => k_is); (case k0 => k_is)
    (case a1 => k_is); (case l1 => k_is); (case c1 => k_is); (case k1 => k_is)
    (case a2 => k_is); (case l2 => k_is); (case c2 => k_is); (case k2 => k_is)
    (case a3 => k_is); (case l3 => k_is); (case c3 => k_is); (case k3 => k_is)
    (case a4 => k_is); (case l4 => k_is); (case c4 => k_is); (case k4 => k_is)
    (case a5 => k_is); (case l5 => k_is); (case c5 => k_is); (case k5 => k_is)
    (case a6 => k_is); (case l6 => k_is); (case c6 => k_is); (case k6 => k_is)
    (case a7 => k_is); (case l7 => k_is); (case c7 => k_is); (case k7 => k_is)
    (case a8 => k_is); (case l8 => k_is); (case c8 => k_is); (case k8 => k_is)
    (case a9 => k_is); (case l9 => k_is); (case c9 => k_is); (case k9 => k_is)
    (case a10 => k_is); (case l10 => k_is); (case c10 => k_is); (case k10 => k_is)
    (case a11 => k_is); (case l11 => k_is); (case c11 => k_is); (case k11 => k_is)
    (case a12 => k_is); (case l12 => k_is); (case c12 => k_is); (case k12 => k_is)
    (case a13 => k_is); (case l13 => k_is); (case c13 => k_is); (case k13 => k_is)
    (case a14 => k_is); (case l14 => k_is); (case c14 => k_is); (case k14 => k_is)
    (case a15 => k_is); (case l15 => k_is); (case c15 => k_is); (case k15 => k_is)
    (case a16 => k_is); (case l16 => k_is); (case c16 => k_is); (case k16 => k_is)
    (case a17 => k_is); (case l17 => k_is); (case c17 => k_is); (case k17 => k_is)
    (case z_len => k_is); (case z_abs => k_is); (case z_int => k_is); (case z_max => k_is); (case z_min => k_is); (case z_all => k_is); (case z_any => k_is); (case z_sum => k_is); (case z_tuple => k_is); (case z_list => k_is); (case z_dict => k_is); (case z_sorted => k_is); (case z_isinstance => k_is); (case z_str => k_is); (case z_bool => k_is); (case z_range => k_is); (case z_enumerate => k_is); (case z_zip => k_is); (case z_reversed => k_is); (case z_repr => k_is); (case z_set => k_is)
