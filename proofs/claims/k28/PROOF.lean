import PyProof.Rows.All
import Wide.All
import OpenK.AllK
import Wide.FinOn
import HandS.Lambda
import HandS.ForMost
import HandS.Small
import HandS.Iter
import HandS.TupAny
import HandS.TupLe
import HandS.More
import HandS.IsInst
import HandS.Strs
import KE.SortData
import HandS.Style
import HandS.Deep
import HandS.Zip
import HandS.Rev
import HandS.NoneIn
import HandS.DictComp
import HandS.Defaults
import PyProof.ReprRoads
import KE.KRevSl
import HandS.Text
import HandS.Ends
import KE.GoesEnum
import KE.KDictZip
import KE.SortKeyHeap
import KE.KSortKey
import HandS.EndTab
import HandS.SetTxt0
import HandS.Set
import HandS.TupSets
import KE.KDictSum
import PyProof.AutoIntOps
import HandS.List
import KE.KDictList
import KE.DataMinMax
import PyProof.Rows.CountFlat
import HandS.RaiseMore
import HandS.Call
import KE.KEqNest
import HandS.DictEq
import HandS.OwnEq
import HandS.Exc
import HandS.ExcOwn
import HandS.ExcIs
import KE.KExcIs
import PySem.Challenge.RW_standby_k28_how_often_two_change
set_option Elab.async false
set_option linter.all false
set_option maxRecDepth 100000
set_option maxRecDepth 100000
set_option maxHeartbeats 4000000
namespace DL
open PySem PySem.Spec PyProof.Rows L2
class HW where
  P : Program
  w : World
def HWX [HW] (X : Cx) : Prop := HW.P = X.prog ∧ HW.w = X.w
abbrev KA := List Key × Addr × V
def KR : List KA → List (List Key × Addr × Value) → Prop := Paired fun p q => p.1 = q.1 ∧ p.2.1 = q.2.1 ∧ RelV p.2.2 q.2.2
def dtP (P : Program) (w : World) (a : Addr) (ks : List KA) (h : Heap) : Prop := ks.length ≤ sizeLine ∧ (a == sysModules) = false ∧ ∃ xs : List (List Key × Addr × Value), KR ks xs ∧
  ∃ o es ep, h.get? a = some o ∧ o.ExactDict ∧ o.data = .dict es ep ∧ es.toList = xs.map (entryOfKey (tupleKind (mixKind P w))) ∧ (xs.map (·.1)).Nodup
abbrev dtO [HW] (a : Addr) (ks : List KA) : HO := .ext (dtP HW.P HW.w a ks)
def KX (H : Hp) (ks : List KA) : Prop := ∀ p ∈ ks, Rd H p.2.1 (.tup (p.1.map kV))
def atA (ks : List KA) (k : List Key) : Option (Addr × V) := (ks.find? fun x => decide (x.1 = k)).map (·.2)
def valA (ks : List KA) (k : List Key) : Option V := (atA ks k).map (·.2)
def replA (k : List Key) (v : V) (p : KA) : KA := if p.1 = k then (p.1, p.2.1, v) else p
def putA (ks : List KA) (k : List Key) (b : Addr) (v : V) : List KA := if (atA ks k).isSome = true then ks.map (replA k v) else ks ++ [(k, b, v)]
section
variable {P : Program} {w : World} {H : Hp} {h : Heap} {a : Addr}
theorem KR.len {ks : List KA} {xs : List (List Key × Addr × Value)} (r : KR ks xs) : ks.length = xs.length := Paired.length r
theorem KR.at_ {k : List Key} : ∀ {ks : List KA} {xs : List (List Key × Addr × Value)}, KR ks xs → RelO (valA ks k) ((atKey xs k).map (·.2)) ∧ (atA ks k).isSome = (atKey xs k).isSome
  | _, _, .nil => ⟨trivial, rfl⟩
  | (k1, q1, v1) :: ks, (k2, q2, u2) :: xs, .cons ⟨e1, e2, r⟩ t => by
    have e1 : k1 = k2 := e1
    subst e1
    have ih := KR.at_ (k := k) t
    unfold valA atA atKey at ih ⊢
    simp only [List.find?_cons]
    by_cases e : k1 = k
    · simp only [e, decide_true, Option.map_some]
      exact ⟨r, rfl⟩
    · simp only [e, decide_false]
      exact ih
theorem key_ofR {ks : List Key} (ok : HOk P w H h) (e : Rd H a (.tup (ks.map kV))) : (tupleKind (mixKind P w)).is h ks a := by
  obtain ⟨_, its, r, o, h1, h2, n, h3⟩ := (show ObjOk P w H h a (.tup (ks.map kV)) from rd_of ok e)
  exact ⟨o, its.toArray, n, h1, h2, h3, by simpa using items_are r⟩
theorem dtx_of {ks : List KA} (ok : HOk P w H h) (e : dtP P w a ks h) (hk : KX H ks) : ks.length ≤ sizeLine ∧ (a == sysModules) = false ∧ ∃ xs, KR ks xs ∧ h.DictOfH (tupleKind (mixKind P w)) a xs := by
  obtain ⟨z, y, xs, r, o, es, ep, h1, h2, h3, h4, h5⟩ := e
  refine ⟨z, y, xs, r, o, es, ep, h1, h2, h3, h4, fun x hx => ?_, h5⟩
  have all : ∀ {l : List KA} {m : List (List Key × Addr × Value)}, KR l m → KX H l → ∀ x ∈ m, (tupleKind (mixKind P w)).is h x.1 x.2.1 := by
    intro l m q
    induction q with
    | nil => intro _ x hx; exact nomatch hx
    | @cons p q ps qs hq t ih =>
      intro hk x hx
      rcases List.mem_cons.mp hx with e | hx
      · subst e
        have := hk p List.mem_cons_self
        rw [hq.1, hq.2.1] at this
        exact key_ofR ok this
      · exact ih (fun p hp => hk p (List.mem_cons_of_mem _ hp)) x hx
  exact all r hk x hx
theorem KR.repl (k : List Key) {v : V} {u : Value} (rv : RelV v u) : ∀ {ks : List KA} {xs : List (List Key × Addr × Value)}, KR ks xs → KR (ks.map (replA k v)) (xs.map (putAt k u))
  | _, _, .nil => .nil
  | p :: ks, q :: xs, .cons ⟨e1, e2, r⟩ t => by
    rw [List.map_cons, List.map_cons]
    refine .cons ?_ (KR.repl k rv t)
    unfold replA putAt
    by_cases e : p.1 = k
    · rw [if_pos e, if_pos (e1.symm.trans e)]; exact ⟨e1, e2, rv⟩
    · rw [if_neg e, if_neg fun z => e (e1.trans z)]; exact ⟨e1, e2, r⟩
theorem KR.put {ks : List KA} {xs : List (List Key × Addr × Value)} (r : KR ks xs) (k : List Key) (b : Addr) {v : V} {u : Value} (rv : RelV v u) : KR (putA ks k b v) (storedH xs k b u) := by
  unfold putA storedH
  rw [(r.at_ (k := k)).2]
  by_cases q : (atKey xs k).isSome = true
  · rw [if_pos q, if_pos q]; exact r.repl k rv
  · rw [if_neg q, if_neg q]; exact Paired.snoc r ⟨rfl, rfl, rv⟩
theorem length_putA (ks : List KA) (k : List Key) (b : Addr) (v : V) : (putA ks k b v).length ≤ ks.length + 1 := by
  unfold putA
  split <;> simp
theorem KX.put {ks : List KA} (hk : KX H ks) {k : List Key} {b : Addr} (v : V) (eb : Rd H b (.tup (k.map kV))) : KX H (putA ks k b v) := by
  intro p hp
  unfold putA at hp
  split at hp
  · obtain ⟨q, hq, rfl⟩ := List.mem_map.mp hp
    have := hk q hq
    unfold replA
    split
    · exact this
    · exact this
  · rcases List.mem_append.mp hp with z | z
    · exact hk p z
    · rcases List.mem_singleton.mp z with rfl
      exact eb
theorem KX.nil : KX H [] := fun p hp => nomatch hp
theorem dtx_empty (h : Heap) (hb : sysModules < h.objs.size) : dtP P w h.objs.size [] (h.push { cls := .type "dict", data := .dict #[] }) :=
  ⟨Nat.zero_le _, beq_eq_false_iff_ne.mpr (Ne.symm (Nat.ne_of_lt hb)), [], .nil, _, #[], 0, Heap.get?_push_size _ rfl, ⟨rfl, rfl, rfl⟩, rfl, rfl, List.nodup_nil⟩
theorem dtx_ok0 {P' : Program} {w' : World} {H' : Hp} {ks : List KA} (e : dtP P w a ks h) : ObjOk P' w' H' h a (.ext (dtP P w a ks)) := by
  refine ⟨e, ?_, fun h1 h2 p k => ?_⟩
  · obtain ⟨_, _, _, _, o, _, _, h1, _⟩ := e
    exact ⟨o, h1⟩
  · obtain ⟨z, y, xs, r, o, es, ep, g1, g2⟩ := p
    exact ⟨z, y, xs, r, o, es, ep, k _ g1, g2⟩
theorem dtx_ok {H' : Hp} {ks : List KA} (e : dtP P w a ks h) : ObjOk P w H' h a (.ext (dtP P w a ks)) := dtx_ok0 e
theorem dtx_rd {φ : Heap → Prop} (ok : HOk P w H h) (e : Rd H a (.ext φ)) : φ h := (show ObjOk P w H h a (.ext φ) from rd_of ok e).1
end
section
variable [HW] {X : Cx} {pins : List (Addr × Obj)} {σ : L2.St} {H : Hp} {s : Shared} {a b : Addr} {ks : List KA} {k : List Key} {v : V} {r : Value} {A : Around} {E : Value → Shared → Prop}
theorem dtxI (W : HWX X) (I : Inv X pins σ H s) (e : Rd H a (dtO a ks)) (hk : KX H ks) : ks.length ≤ sizeLine ∧ (a == sysModules) = false ∧ ∃ xs, KR ks xs ∧ s.heap.DictOfH (tupleKind (mixKind X.prog X.w)) a xs := by
  unfold dtO at e
  rw [W.1, W.2] at e
  exact dtx_of I.hok (dtx_rd I.hok e) hk
theorem dtx_ok' {h : Heap} {H' : Hp} (W : HWX X) (e : dtP HW.P HW.w a ks h) : ObjOk X.prog X.w H' h a (dtO a ks) := dtx_ok0 e
theorem dtx_getItem {Q : Value → Shared → Prop} (hu : A.units + 1 < cLine) (W : HWX X) (I : Inv X pins σ H s) (e : Rd H a (dtO a ks)) (hk : KX H ks) (eb : Rd H b (.tup (k.map kV))) (l : valA ks k = some v) (h : ∀ w' s', Inv X pins σ H s' → RelV v w' → Q w' s') :
    wpAny (model X.prog X.w) A (getItem (.ref a) (.ref b)) Q E s := by
  obtain ⟨z, hd, xs, rel, dd⟩ := dtxI W I e hk
  obtain ⟨w', hw, rw'⟩ := RelO.some_of (v := v) (o := (atKey xs k).map (·.2)) (by have := (rel.at_ (k := k)).1; rw [l] at this; exact this)
  obtain ⟨p, hp, hp2⟩ := Option.map_eq_some_iff.mp hw
  refine wpAny_getItem_heap (tupleKind_room_in1 hu) (key_ofR I.hok eb) dd hp ?_
  rw [hp2]
  exact h w' _ (I.tok _) rw'
theorem valA_some {ks : List KA} {k : List Key} : (valA ks k).isSome = (atA ks k).isSome := by unfold valA; rw [Option.isSome_map]
theorem dtx_notIn {Q : Value → Shared → Prop} (hu : A.units + 1 < cLine) (W : HWX X) (I : Inv X pins σ H s) (e : Rd H a (dtO a ks)) (hk : KX H ks) (eb : Rd H b (.tup (k.map kV))) (h : ∀ s', Inv X pins σ H s' → Q (.bool (!(valA ks k).isSome)) s') :
    wpAny (model X.prog X.w) A (compareOp .NotIn (.ref b) (.ref a)) Q E s := by
  obtain ⟨z, hd, xs, rel, dd⟩ := dtxI W I e hk
  refine wpAny_notIn_heap (tupleKind_room_in1 hu) (key_ofR I.hok eb) hd dd ?_
  rw [← (rel.at_ (k := k)).2, ← valA_some]
  exact h _ (I.tok _)
theorem dtx_write {h' : Heap} {t' : Nat} {xs : List (List Key × Addr × Value)} (W : HWX X) (I : Inv X pins σ H s) (e : H a = some (dtO a ks)) (rv : RelV v r) (hz : ks.length < sizeLine) (hd : (a == sysModules) = false) (rel : KR ks xs)
    (dd' : h'.DictOfH (tupleKind (mixKind X.prog X.w)) a (storedH xs k b r)) (hs : Heap.SameBut a s.heap h') : Inv X pins σ (upd H a (dtO a (putA ks k b v))) { s with heap := h', toks := t' } := by
  obtain ⟨q, es, ep, hq, h2, h3, h4, _, h5⟩ := dd'
  have hl : (putA ks k b v).length ≤ sizeLine := by have := length_putA ks k b v; omega
  refine d_write I (by rw [e]; exact True.intro) hs ⟨q, hq⟩ ?_
  have : dtP X.prog X.w a (putA ks k b v) h' := ⟨hl, hd, _, rel.put k b rv, q, es, ep, hq, h2, h3, h4, h5⟩
  rw [← W.1, ← W.2] at this ⊢
  exact dtx_ok this
theorem dtx_setItem {Q : Unit → Shared → Prop} (hu : A.units + 1 < cLine) (W : HWX X) (I : Inv X pins σ H s) (e : H a = some (dtO a ks)) (hk : KX H ks) (eb : Rd H b (.tup (k.map kV))) (hz : ks.length < sizeLine) (rv : RelV v r)
    (h : ∀ s', Inv X pins σ (upd H a (dtO a (putA ks k b v))) s' → Q () s') : wpAny (model X.prog X.w) A (setItem (.ref a) (.ref b) r) Q E s := by
  obtain ⟨z, hd, xs, rel, dd⟩ := dtxI W I (.inl e) hk
  have hzx : xs.length ≤ sizeLine := by rw [← rel.len]; exact z
  exact wpAny_setItem_heap (hsz := hzx) (tupleKind_room_in1 hu) (key_ofR I.hok eb) dd fun h' dd' hs => h _ (dtx_write W I e rv hz hd rel dd' hs)
theorem dtx_dictSet {Q : Unit → Shared → Prop} (hu : A.units + 1 < cLine) (W : HWX X) (I : Inv X pins σ H s) (e : H a = some (dtO a ks)) (hk : KX H ks) (eb : Rd H b (.tup (k.map kV))) (hz : ks.length < sizeLine) (rv : RelV v r)
    (h : ∀ s', Inv X pins σ (upd H a (dtO a (putA ks k b v))) s' → Q () s') : wpAny (model X.prog X.w) A (dictSet a (.ref b) r) Q E s := by
  obtain ⟨z, hd, xs, rel, dd⟩ := dtxI W I (.inl e) hk
  have hzx : xs.length ≤ sizeLine := by rw [← rel.len]; exact z
  exact wpAny_dictSet_heap (hsz := hzx) (show (tupleKind (mixKind X.prog X.w)).room A from by show A.units < cLine; omega) (key_ofR I.hok eb) dd fun h' dd' hs => h _ (dtx_write W I e rv hz hd rel dd' hs)
theorem KX.to {H' : Hp} (hk : KX H ks) (f : ∀ q o, (∃ p ∈ ks, p.2.1 = q) → H q = some o → H' q = some o) : KX H' ks := fun p hp => by
  rcases hk p hp with e | ⟨o, e⟩
  · exact .inl (f _ _ ⟨p, hp, rfl⟩ e)
  · exact .inr ⟨o, f _ _ ⟨p, hp, rfl⟩ e⟩
def DGetX (H : Hp) (a : Addr) (y : V) (r : Option V) : Prop := DGet H a y r ∨ ∃ ks k b, Rd H a (dtO a ks) ∧ KX H ks ∧ y = .ref b ∧ Rd H b (.tup (k.map kV)) ∧ r = valA ks k
theorem dx_getItem {y : V} {u : Value} {Q : Value → Shared → Prop} (hu : A.units + 1 < cLine) (W : HWX X) (I : Inv X pins σ H s) (g : DGetX H a y (some v)) (ry : RelV y u) (h : ∀ w' s', Inv X pins σ H s' → RelV v w' → Q w' s') :
    wpAny (model X.prog X.w) A (getItem (.ref a) u) Q E s := by
  rcases g with g | ⟨ks, k, b, e, hk, ey, eb, l⟩
  · exact d_getItem hu I g ry h
  · subst ey
    cases (show u = Value.ref b from ry)
    exact dtx_getItem hu W I e hk eb l.symm h
theorem dx_notIn {y : V} {u : Value} {o : Option V} {Q : Value → Shared → Prop} (hu : A.units + 1 < cLine) (W : HWX X) (I : Inv X pins σ H s) (g : DGetX H a y o) (ry : RelV y u) (h : ∀ s', Inv X pins σ H s' → Q (.bool (!o.isSome)) s') :
    wpAny (model X.prog X.w) A (compareOp .NotIn u (.ref a)) Q E s := by
  rcases g with g | ⟨ks, k, b, e, hk, ey, eb, l⟩
  · exact d_notIn hu I g ry h
  · subst ey l
    cases (show u = Value.ref b from ry)
    exact dtx_notIn hu W I e hk eb h
theorem dx_typeIs {y : V} {o : Option V} (W : HWX X) (I : Inv X pins σ H s) (g : DGetX H a y o) : s.TypeIs (.ref a) "dict" := by
  rcases g with g | ⟨ks, k, b, e, hk, _, _, _⟩
  · exact dict_typeIs I g
  · obtain ⟨_, _, xs, _, dd⟩ := dtxI W I e hk
    exact dd.typeIs
end
section
variable [HW] {X : Cx}
def rPutX : TSet := fun o i v H Q => ∃ a ks k b, o = .ref a ∧ i = .ref b ∧ H a = some (dtO a ks) ∧ KX H ks ∧ Rd H b (.tup (k.map kV)) ∧ ks.length < sizeLine ∧ Q (upd H a (dtO a (putA ks k b v)))
theorem set_dictX (hu : X.A.units + 1 < cLine) (W : HWX X) : PSet X rPutX := by
  intro pins s σ H o i v ov iv u Q I ro ri rv h
  obtain ⟨a, ks, k, b, rfl, rfl, e, hk, eb, hz, q⟩ := h
  cases (show ov = Value.ref a from ro)
  cases (show iv = Value.ref b from ri)
  exact dtx_setItem hu W I e hk eb hz rv fun s' I' => ⟨_, I', q⟩
def tDNewX : TE := fun _ H Q => ∀ p, H p = none → Q (.ref p) (upd H p (dtO p []))
theorem pe_dnewX (W : HWX X) {pos : Pos} : PE X (.Dict [] [] pos) tDNewX := ⟨fun pins s σ H Q I h => by
  refine wpAny_Dict_empty ⟨.ref s.heap.objs.size, _, I.laid (a := s.heap.objs.size) (o := dtO s.heap.objs.size []) (t' := s.toks) (fun _ _ q => Heap.get?_push_of_some _ q) (Nat.le_refl _) ?_, rfl, h _ (I.hok.fresh (Nat.le_refl _))⟩
  have := dtx_empty (P := X.prog) (w := X.w) s.heap I.big
  rw [← W.1, ← W.2] at this ⊢
  exact dtx_ok this⟩
variable {o e f : Expr} {apos cpos : Pos} {td ty tx : TE}
end
section
variable [HW] {X : Cx} {pins : List (Addr × Obj)} {σ : L2.St} {H : Hp} {s : Shared} {d : Addr} {o : Obj} {ks : List KA}
theorem KR.get : ∀ {ks : List KA} {xs : List (List Key × Addr × Value)} {i : Nat} {k : List Key} {q : Addr} {v : V}, KR ks xs → ks[i]? = some (k, q, v) → ∃ u, xs[i]? = some (k, q, u) ∧ RelV v u
  | _, _, _, _, _, _, .nil, e => by simp at e
  | _, (k', q', u') :: _, 0, _, _, _, .cons ⟨e1, e2, r⟩ _, e => by
    simp at e; subst e
    have e1 : _ = k' := e1
    have e2 : _ = q' := e2
    subst e1 e2
    exact ⟨u', rfl, r⟩
  | _, _, i + 1, _, _, _, .cons _ t, e => by
    obtain ⟨u, h1, h2⟩ := KR.get (i := i) t (by simpa using e)
    exact ⟨u, by simpa using h1, h2⟩
end
end DL
set_option maxRecDepth 100000
set_option maxHeartbeats 4000000
namespace DL
open PySem PySem.Spec PyProof.Rows L2
variable [HW]
abbrev D := PyData
structure Mm where
  u : List Addr
  m : List (Option Addr)
def Mm.Has (M : Mm) (a : Addr) : Prop := a ∈ M.u ∨ some a ∈ M.m
def kP : Key → D
  | .inl i => .int i
  | .inr s => .str s
def prTx : List D → Option (List (Str × Str))
  | [] => some []
  | .tuple [.str a, .str b] :: ds => (prTx ds).map ((a, b) :: ·)
  | _ :: _ => none
def rowS : List D → Option (List Str)
  | [] => some []
  | .str a :: ds => (rowS ds).map (a :: ·)
  | _ :: _ => none
def pairD (ds : List D) : Bool := match prTx ds with
  | some ps => !ps.isEmpty && decide (ps.map (·.1)).Nodup
  | none => false
def rowD (ds : List D) : Bool := match rowS ds with
  | some l => !l.isEmpty && decide l.Nodup
  | none => false
def callD (ds : List D) : Bool := pairD ds || rowD ds
def TupAt (H : Hp) (a : Addr) (xs : List V) (ds : List D) : Prop := (callD ds = false ∧ H a = some (.tup xs)) ∨ (callD ds = true ∧ ∃ o : Obj, o.dict = none ∧ H a = some (.frz o (.tup xs)))
theorem TupAt.to {H H' : Hp} {a : Addr} {xs : List V} {ds : List D} (t : TupAt H a xs ds) (f : ∀ o, H a = some o → H' a = some o) : TupAt H' a xs ds := by
  rcases t with ⟨c, e⟩ | ⟨c, o, h, e⟩
  · exact .inl ⟨c, f _ e⟩
  · exact .inr ⟨c, o, h, f _ e⟩
theorem TupAt.some_ {H : Hp} {a : Addr} {xs : List V} {ds : List D} (t : TupAt H a xs ds) : ∃ o, H a = some o := by
  rcases t with ⟨c, e⟩ | ⟨c, o, h, e⟩
  · exact ⟨_, e⟩
  · exact ⟨_, e⟩
theorem TupAt.rd {H : Hp} {a : Addr} {xs : List V} {ds : List D} (t : TupAt H a xs ds) : Rd H a (.tup xs) := by
  rcases t with ⟨c, e⟩ | ⟨c, o, h, e⟩
  · exact .inl e
  · exact .inr ⟨o, e⟩
theorem TupAt.sq {K : PySem.W.Frag} {H : Hp} {a : Addr} {xs : List V} {ds : List D} (t : TupAt H a xs ds) : SqT K H a xs := .inl t.rd
theorem TupAt.plain {H : Hp} {a : Addr} {xs : List V} {ds : List D} (t : TupAt H a xs ds) (c : callD ds = false) : H a = some (.tup xs) := by
  rcases t with ⟨_, e⟩ | ⟨c', _⟩
  · exact e
  · rw [c] at c'; cases c'
theorem pairD_not {d : D} (ds : List D) (h : ∀ a b : Str, d ≠ .tuple [.str a, .str b]) : pairD (d :: ds) = false := by
  have e : prTx (d :: ds) = none := by
    unfold prTx
    split
    · rename_i q; cases q
    · rename_i a b ds' q; cases q; exact absurd rfl (h a b)
    · rfl
  unfold pairD
  rw [e]
theorem rowD_not {d : D} (ds : List D) (h : ∀ a : Str, d ≠ .str a) : rowD (d :: ds) = false := by
  have e : rowS (d :: ds) = none := by
    unfold rowS
    split
    · rename_i q; cases q
    · rename_i a ds' q; cases q; exact absurd rfl (h a)
    · rfl
  unfold rowD
  rw [e]
theorem callD_not {d : D} (ds : List D) (h : ∀ a b : Str, d ≠ .tuple [.str a, .str b]) (h' : ∀ a : Str, d ≠ .str a) : callD (d :: ds) = false := by
  unfold callD
  rw [pairD_not ds h, rowD_not ds h']
  rfl
theorem callD_int (z : Int) (ds : List D) : callD (.int z :: ds) = false := callD_not _ (fun _ _ e => by cases e) fun _ e => by cases e
mutual
inductive RD (M : Mm) (H : Hp) : V → D → Prop
  | non : RD M H .non .none
  | bl (b : Bool) : RD M H (.bl b) (.bool b)
  | int (i : Int) : RD M H (.int i) (.int i)
  | str (x : Str) : RD M H (.str x) (.str x)
  | tup {a : Addr} {xs : List V} {ds : List D} : ¬ M.Has a → TupAt H a xs ds → RDs M H xs ds → RD M H (.ref a) (.tuple ds)
  | lst {a : Addr} {xs : List V} {ds : List D} : ¬ M.Has a → H a = some (.lst xs) → RDs M H xs ds → RD M H (.ref a) (.list ds)
  | dic {a : Addr} {kvs : List (Key × V)} {es : List (D × D)} : ¬ M.Has a → H a = some (.dK kvs) → RDk M H kvs es → RD M H (.ref a) (.dict es)
  | dit {a : Addr} {o : Obj} {kvs : List KA} {es : List (D × D)} : ¬ M.Has a → H a = some (.frz o (dtO a kvs)) → RDt M H kvs es → RD M H (.ref a) (.dict ((.none, .none) :: es))
inductive RDs (M : Mm) (H : Hp) : List V → List D → Prop
  | nil : RDs M H [] []
  | cons {v : V} {vs : List V} {d : D} {ds : List D} : RD M H v d → RDs M H vs ds → RDs M H (v :: vs) (d :: ds)
inductive RDk (M : Mm) (H : Hp) : List (Key × V) → List (D × D) → Prop
  | nil : RDk M H [] []
  | cons {k : Key} {v : V} {d : D} {kvs : List (Key × V)} {es : List (D × D)} : RD M H v d → RDk M H kvs es → RDk M H ((k, v) :: kvs) ((kP k, d) :: es)
inductive RDt (M : Mm) (H : Hp) : List KA → List (D × D) → Prop
  | nil : RDt M H [] []
  | cons {k : List Key} {q : Addr} {v : V} {d : D} {kvs : List KA} {es : List (D × D)} : ¬ M.Has q → TupAt H q (k.map kV) (k.map kP) → RD M H v d → RDt M H kvs es → RDt M H ((k, q, v) :: kvs) ((.tuple (k.map kP), d) :: es)
end

structure Ext (M M' : Mm) (H H' : Hp) : Prop where
  us : ∀ a ∈ M'.u, a ∈ M.u ∨ H a = none
  trk : ∀ a o, H a = some o → ∃ o', H' a = some o'
  stab : ∀ a o, H a = some o → some a ∉ M.m → H' a = some o
  fresh : ∀ a, some a ∈ M'.m → some a ∈ M.m ∨ H a = none
  len : M.m.length ≤ M'.m.length
  kill : ∀ i : Nat, i < M.m.length → M'.m[i]? = M.m[i]? ∨ M'.m[i]? = some none
structure ExtE (M M' : Mm) (H H' : Hp) : Prop where
  same : M'.u = M.u
  trk : ∀ a o, H a = some o → ∃ o', H' a = some o'
  stab : ∀ a o, H a = some o → some a ∉ M.m → H' a = some o
  fresh : ∀ a, some a ∈ M'.m → some a ∈ M.m ∨ H a = none
  len : M.m.length ≤ M'.m.length
  pre : ∀ i : Nat, i < M.m.length → M'.m[i]? = M.m[i]?
theorem ExtE.ext {M M' : Mm} {H H' : Hp} (x : ExtE M M' H H') : Ext M M' H H' := ⟨fun a m => .inl (x.same ▸ m), x.trk, x.stab, x.fresh, x.len, fun i h => .inl (x.pre i h)⟩
theorem Ext.outm {M M' : Mm} {H H' : Hp} (x : Ext M M' H H') {a : Addr} {o : HO} (n : some a ∉ M.m) (e : H a = some o) : some a ∉ M'.m := fun m =>
  (x.fresh a m).elim n fun z => by rw [e] at z; cases z
theorem Ext.out {M M' : Mm} {H H' : Hp} (x : Ext M M' H H') {a : Addr} {o : HO} (n : ¬ M.Has a) (e : H a = some o) : ¬ M'.Has a := fun m => by
  rcases m with m | m
  · exact (x.us a m).elim (fun z => n (.inl z)) fun z => by rw [e] at z; cases z
  · exact x.outm (fun z => n (.inr z)) e m
theorem Ext.st {M M' : Mm} {H H' : Hp} (x : Ext M M' H H') {a : Addr} {o : HO} (n : ¬ M.Has a) (e : H a = some o) : H' a = some o := x.stab a o e fun z => n (.inr z)
theorem Ext.refl (M : Mm) (H : Hp) : Ext M M H H := ⟨fun _ m => .inl m, fun a o e => ⟨o, e⟩, fun _ _ e _ => e, fun _ m => .inl m, Nat.le_refl _, fun _ _ => .inl rfl⟩
theorem ExtE.refl (M : Mm) (H : Hp) : ExtE M M H H := ⟨rfl, fun a o e => ⟨o, e⟩, fun _ _ e _ => e, fun _ m => .inl m, Nat.le_refl _, fun _ _ => rfl⟩
theorem Ext.trans {M M1 M2 : Mm} {H H1 H2 : Hp} (x : Ext M M1 H H1) (y : Ext M1 M2 H1 H2) : Ext M M2 H H2 where
  us := fun a m => by
    rcases y.us a m with z | z
    · exact x.us a z
    · right
      cases q : H a with
      | none => rfl
      | some o => obtain ⟨o', e⟩ := x.trk a o q; rw [z] at e; cases e
  trk := fun a o e => by obtain ⟨o', e'⟩ := x.trk a o e; exact y.trk a o' e'
  stab := fun a o e n => y.stab a o (x.stab a o e n) (x.outm n e)
  fresh := fun a m => by
    rcases y.fresh a m with m1 | z
    · exact x.fresh a m1
    · by_cases hm : some a ∈ M.m
      · exact .inl hm
      · right
        cases q : H a with
        | none => rfl
        | some o => rw [x.stab a o q hm] at z; cases z
  len := Nat.le_trans x.len y.len
  kill := fun i h => by
    rcases y.kill i (Nat.lt_of_lt_of_le h x.len) with e | e
    · rw [e]; exact x.kill i h
    · exact .inr e
theorem ExtE.trans {M M1 M2 : Mm} {H H1 H2 : Hp} (x : ExtE M M1 H H1) (y : ExtE M1 M2 H1 H2) : ExtE M M2 H H2 where
  same := y.same.trans x.same
  trk := (x.ext.trans y.ext).trk
  stab := (x.ext.trans y.ext).stab
  fresh := (x.ext.trans y.ext).fresh
  len := Nat.le_trans x.len y.len
  pre := fun i h => by rw [y.pre i (Nat.lt_of_lt_of_le h x.len), x.pre i h]
mutual
theorem RD.mono {M M' : Mm} {H H' : Hp} (x : Ext M M' H H') : ∀ {v : V} {d : D}, RD M H v d → RD M' H' v d
  | _, _, .non => .non
  | _, _, .bl b => .bl b
  | _, _, .int i => .int i
  | _, _, .str s => .str s
  | _, _, .tup n e r => .tup (let ⟨_, q⟩ := e.some_; x.out n q) (e.to fun _ q => x.st n q) (RDs.mono x r)
  | _, _, .lst n e r => .lst (x.out n e) (x.st n e) (RDs.mono x r)
  | _, _, .dic n e r => .dic (x.out n e) (x.st n e) (RDk.mono x r)
  | _, _, .dit n e r => .dit (x.out n e) (x.st n e) (RDt.mono x r)
theorem RDs.mono {M M' : Mm} {H H' : Hp} (x : Ext M M' H H') : ∀ {v : List V} {d : List D}, RDs M H v d → RDs M' H' v d
  | _, _, .nil => .nil
  | _, _, .cons a r => .cons (RD.mono x a) (RDs.mono x r)
theorem RDk.mono {M M' : Mm} {H H' : Hp} (x : Ext M M' H H') : ∀ {v : List (Key × V)} {d : List (D × D)}, RDk M H v d → RDk M' H' v d
  | _, _, .nil => .nil
  | _, _, .cons a r => .cons (RD.mono x a) (RDk.mono x r)
theorem RDt.mono {M M' : Mm} {H H' : Hp} (x : Ext M M' H H') : ∀ {v : List KA} {d : List (D × D)}, RDt M H v d → RDt M' H' v d
  | _, _, .nil => .nil
  | _, _, .cons n e a r => .cons (let ⟨_, q⟩ := e.some_; x.out n q) (e.to fun _ q => x.st n q) (RD.mono x a) (RDt.mono x r)
end

theorem RDt.kx {M : Mm} {H : Hp} : ∀ {ks : List KA} {es : List (D × D)}, RDt M H ks es → KX H ks
  | _, _, .nil => KX.nil
  | _, _, .cons n e a r => fun p hp => by
    rcases List.mem_cons.mp hp with z | z
    · subst z; exact e.rd
    · exact RDt.kx r p z
inductive MO where
  | lst (ds : List D) | dic (es : List (D × D)) | dit (es : List (D × D)) | tab (q : Str) (P : Addr) | ins (C : Addr) (fs : List (Str × D))
abbrev Hh := List (Option MO)
def RF (M : Mm) (H : Hp) (gs : List (Str × V)) (fs : List (Str × D)) : Prop := Paired (fun (p : Str × V) (q : Str × D) => p.1 = q.1 ∧ RD M H p.2 q.2) gs fs
theorem RF.to {M M' : Mm} {H H' : Hp} {gs : List (Str × V)} {fs : List (Str × D)} (r : RF M H gs fs) (h : ∀ v d, RD M H v d → RD M' H' v d) : RF M' H' gs fs := Paired.mapP r fun p q z => ⟨z.1, h _ _ z.2⟩
def RO (M : Mm) (H : Hp) (a : Addr) : MO → Prop
  | .lst ds => ∃ xs, H a = some (.lst xs) ∧ RDs M H xs ds
  | .dic es => ∃ kvs, H a = some (.dK kvs) ∧ RDk M H kvs es
  | .dit es => ∃ kvs, H a = some (dtO a kvs) ∧ RDt M H kvs es
  | .ins C fs => ∃ dx gs, H a = some (.ins C dx gs) ∧ RF M H gs fs
  | .tab q P => a = P ∧ ∃ ps : Array Value, H a = some (.tbl ps) ∧ TriplesOk ps.toList ∧ ∀ pos cv, codeAmong pos ps.toList = some cv → ∃ c, cv = .ref c ∧ ¬ M.Has c ∧ H c = some (LamX.CodeO c q)
def tpO : HO → Bool
  | .tup _ => true
  | .frz _ (.tup _) => true
  | _ => false
structure Rep (M : Mm) (H : Hp) (h : Hh) : Prop where
  us : ∀ a ∈ M.u, some a ∉ M.m ∧ ∃ o, H a = some o ∧ tpO o = false
  len : M.m.length = h.length
  inj : ∀ (i j : Nat) (a : Addr), M.m[i]? = some (some a) → M.m[j]? = some (some a) → i = j
  at_ : ∀ (i : Nat) (a : Addr), M.m[i]? = some (some a) → ∃ o, h[i]? = some (some o) ∧ RO M H a o
  dead : ∀ i : Nat, M.m[i]? = some none → h[i]? = some none
theorem RO.move {M M' : Mm} {H H' : Hp} (x : Ext M M' H H') {a : Addr} {o : MO} (e : H' a = H a) (r : RO M H a o) : RO M' H' a o := by
  cases o with
  | lst ds => obtain ⟨xs, h, r⟩ := r; exact ⟨xs, e.trans h, r.mono x⟩
  | dic ds => obtain ⟨xs, h, r⟩ := r; exact ⟨xs, e.trans h, r.mono x⟩
  | dit ds => obtain ⟨xs, h, r⟩ := r; exact ⟨xs, e.trans h, r.mono x⟩
  | ins C fs => obtain ⟨dx, gs, h, r⟩ := r; exact ⟨dx, gs, e.trans h, r.to fun _ _ => RD.mono x⟩
  | tab q P =>
    obtain ⟨z, ps, h, t, r⟩ := r
    refine ⟨z, ps, e.trans h, t, fun pos cv hc => ?_⟩
    obtain ⟨c, e1, n, e2⟩ := r pos cv hc
    exact ⟨c, e1, x.out n e2, x.st n e2⟩
theorem RO.some_ {M : Mm} {H : Hp} {a : Addr} {o : MO} (r : RO M H a o) : ∃ u, H a = some u := by
  cases o with
  | lst ds => obtain ⟨xs, h, r⟩ := r; exact ⟨_, h⟩
  | dic ds => obtain ⟨xs, h, r⟩ := r; exact ⟨_, h⟩
  | dit ds => obtain ⟨xs, h, r⟩ := r; exact ⟨_, h⟩
  | ins C fs => obtain ⟨dx, gs, h, r⟩ := r; exact ⟨_, h⟩
  | tab q P => obtain ⟨_, ps, h, _⟩ := r; exact ⟨_, h⟩
theorem RO.kind {M : Mm} {H : Hp} {a : Addr} {o : MO} (r : RO M H a o) : ∃ u, H a = some u ∧ tpO u = false := by
  cases o with
  | lst ds => obtain ⟨xs, h, r⟩ := r; exact ⟨_, h, rfl⟩
  | dic ds => obtain ⟨xs, h, r⟩ := r; exact ⟨_, h, rfl⟩
  | dit ds => obtain ⟨xs, h, r⟩ := r; exact ⟨_, h, rfl⟩
  | ins C fs => obtain ⟨dx, gs, h, r⟩ := r; exact ⟨_, h, rfl⟩
  | tab q P => obtain ⟨_, ps, h, _⟩ := r; exact ⟨_, h, rfl⟩
theorem Rep.tracked {M : Mm} {H : Hp} {h : Hh} (r : Rep M H h) {a : Addr} (m : M.Has a) : ∃ u, H a = some u ∧ tpO u = false := by
  rcases m with m | m
  · exact (r.us a m).2
  · obtain ⟨i, hi, e⟩ := List.getElem_of_mem m
    obtain ⟨o, _, ro⟩ := r.at_ i a (by rw [List.getElem?_eq_getElem hi, e])
    exact ro.kind
theorem Rep.new {M : Mm} {H : Hp} {h : Hh} (r : Rep M H h) {p : Addr} (n : H p = none) : ¬ M.Has p := fun m => by
  obtain ⟨u, e, _⟩ := r.tracked m
  rw [n] at e; cases e
theorem trk_upd {H : Hp} {p : Addr} {o : HO} : ∀ a u, H a = some u → ∃ u', upd H p o a = some u' := fun a u e => by
  by_cases h : a = p
  · subst h; exact ⟨o, upd_same⟩
  · exact ⟨u, by rw [upd_ne h]; exact e⟩
theorem ext_new {M : Mm} {H : Hp} {p : Addr} {o : HO} (n : H p = none) : ExtE M M H (upd H p o) :=
  ⟨rfl, trk_upd, fun a u e _ => by rw [upd_ne (ne_of_none e n)]; exact e, fun _ m => .inl m, Nat.le_refl _, fun _ _ => rfl⟩
theorem Rep.upd_new {M : Mm} {H : Hp} {h : Hh} (r : Rep M H h) {p : Addr} {o : HO} (n : H p = none) : Rep M (upd H p o) h :=
  ⟨fun a m => by
    obtain ⟨h1, u, e, ht⟩ := r.us a m
    exact ⟨h1, u, by rw [upd_ne (ne_of_none e n)]; exact e, ht⟩, r.len, r.inj, fun i a e => by
    obtain ⟨u, hu, ro⟩ := r.at_ i a e
    obtain ⟨z, hz⟩ := ro.some_
    exact ⟨u, hu, ro.move (ext_new n).ext (upd_ne (ne_of_none hz n))⟩, r.dead⟩
def Mm.more (M : Mm) (p : Addr) : Mm := ⟨M.u, M.m ++ [some p]⟩
theorem ext_add {M : Mm} {H : Hp} {p : Addr} {o : HO} (n : H p = none) : ExtE M (M.more p) H (upd H p o) :=
  ⟨rfl, trk_upd, fun a u e _ => by rw [upd_ne (ne_of_none e n)]; exact e, fun a m => by
    rcases List.mem_append.mp m with m | m
    · exact .inl m
    · right
      have : a = p := by simpa using m
      rw [this]; exact n, by simp [Mm.more], fun i hi => List.getElem?_append_left hi⟩
theorem Rep.add {M : Mm} {H : Hp} {h : Hh} (r : Rep M H h) {p : Addr} {o : HO} {m : MO} (n : H p = none) (ro : RO (M.more p) (upd H p o) p m) : Rep (M.more p) (upd H p o) (h ++ [some m]) := by
  have nm := r.new n
  have cases_ : ∀ (i : Nat) (z : Option Addr), (M.m ++ [some p])[i]? = some z → (i < M.m.length ∧ M.m[i]? = some z) ∨ (i = M.m.length ∧ z = some p) := fun i z e => by
    by_cases hi : i < M.m.length
    · rw [List.getElem?_append_left hi] at e
      exact .inl ⟨hi, e⟩
    · rw [List.getElem?_append_right (by omega)] at e
      by_cases h0 : i - M.m.length = 0
      · rw [h0] at e
        exact .inr ⟨by omega, by simpa using e.symm⟩
      · rw [List.getElem?_eq_none (by simp; omega)] at e
        cases e
  refine ⟨fun a m => ?_, by simp [Mm.more, r.len], fun i j a e1 e2 => ?_, fun i a e => ?_, fun i e => ?_⟩
  · obtain ⟨h1, u, e, ht⟩ := r.us a m
    refine ⟨fun z => ?_, u, by rw [upd_ne (ne_of_none e n)]; exact e, ht⟩
    rcases List.mem_append.mp z with z | z
    · exact h1 z
    · have : a = p := by simpa using z
      rw [this, n] at e; cases e
  · rcases cases_ i _ e1 with ⟨h1, e1⟩ | ⟨h1, e1⟩ <;> rcases cases_ j _ e2 with ⟨h2, e2⟩ | ⟨h2, e2⟩
    · exact r.inj i j a e1 e2
    · cases e2; exact absurd (Or.inr (List.mem_of_getElem? e1)) nm
    · cases e1; exact absurd (Or.inr (List.mem_of_getElem? e2)) nm
    · omega
  · rcases cases_ i _ e with ⟨h1, e1⟩ | ⟨h1, e1⟩
    · obtain ⟨u, hu, q⟩ := r.at_ i a e1
      obtain ⟨z, hz⟩ := q.some_
      exact ⟨u, by rw [List.getElem?_append_left (by rw [← r.len]; exact h1)]; exact hu, q.move (ext_add n).ext (upd_ne (ne_of_none hz n))⟩
    · cases e1
      subst h1
      exact ⟨m, by rw [r.len]; simp, ro⟩
  · rcases cases_ i _ e with ⟨h1, e1⟩ | ⟨h1, e1⟩
    · rw [List.getElem?_append_left (by rw [← r.len]; exact h1)]
      exact r.dead i e1
    · cases e1
theorem ext_set {M : Mm} {H : Hp} {n : Nat} {a : Addr} {o : HO} (e : M.m[n]? = some (some a)) : ExtE M M H (upd H a o) :=
  ⟨rfl, trk_upd, fun b u q nb => by rw [upd_ne (fun z => nb (by rw [z]; exact List.mem_of_getElem? e))]; exact q, fun _ m => .inl m, Nat.le_refl _, fun _ _ => rfl⟩
theorem Rep.set {M : Mm} {H : Hp} {h : Hh} (r : Rep M H h) {n : Nat} {a : Addr} {o : HO} {m : MO} (e : M.m[n]? = some (some a)) (ro : RO M (upd H a o) a m) : Rep M (upd H a o) (h.set n (some m)) := by
  have hn : n < h.length := by
    obtain ⟨u, hu, _⟩ := r.at_ n a e
    exact (List.getElem?_eq_some_iff.mp hu).1
  refine ⟨fun b mb => ?_, by simpa using r.len, r.inj, fun i b q => ?_, fun i q => ?_⟩
  · obtain ⟨h1, u, q, ht⟩ := r.us b mb
    exact ⟨h1, u, by rw [upd_ne (fun z => h1 (by rw [z]; exact List.mem_of_getElem? e))]; exact q, ht⟩
  · by_cases hi : i = n
    · subst hi
      rw [e] at q; cases q
      exact ⟨m, by rw [List.getElem?_set_self hn], ro⟩
    · obtain ⟨u, hu, q2⟩ := r.at_ i b q
      have hb : b ≠ a := fun z => hi (r.inj i n a (by rw [← z]; exact q) e)
      exact ⟨u, by rw [List.getElem?_set_ne (Ne.symm hi)]; exact hu, q2.move (ext_set e).ext (upd_ne hb)⟩
  · have hi : n ≠ i := fun z => by subst z; rw [e] at q; cases q
    rw [List.getElem?_set_ne hi]
    exact r.dead i q
def XO (C : Addr) (d : Option Addr) (a : Addr) : HO := .ext fun h => ∃ (oe : Obj) (vs : Array Value), h.get? a = some oe ∧ oe.cls = .ref C ∧ oe.dict = d ∧ oe.data = .fields vs
def xk : HO → Bool
  | .ext _ => true
  | .xd _ => true
  | _ => false
def XD (M : Mm) (H : Hp) : Option Addr → List (Str × V) → Prop
  | none, gs => gs = []
  | some d, gs => ¬ M.Has d ∧ H d = some (.xd gs)
theorem XD.to {M M' : Mm} {H H' : Hp} (hn : ∀ b o, H b = some o → ¬ M.Has b → ¬ M'.Has b) (he : ∀ b o, H b = some o → xk o = true → ¬ M.Has b → H' b = some o) : ∀ {d : Option Addr} {gs : List (Str × V)}, XD M H d gs → XD M' H' d gs
  | none, _, e => e
  | some _, _, e => ⟨hn _ _ e.2 e.1, he _ _ e.2 rfl e.1⟩
def RX (M : Mm) (H : Hp) (a C : Addr) (d : Option Addr) (gs : List (Str × V)) (fs : List (Str × D)) : Prop := ¬ M.Has a ∧ H a = some (XO C d a) ∧ XD M H d gs ∧ RF M H gs fs
theorem RX.to {M M' : Mm} {H H' : Hp} {a C : Addr} {d : Option Addr} {gs : List (Str × V)} {fs : List (Str × D)} (r : RX M H a C d gs fs) (hn : ∀ b o, H b = some o → ¬ M.Has b → ¬ M'.Has b) (he : ∀ b o, H b = some o → xk o = true → ¬ M.Has b → H' b = some o) (hd : ∀ v d, RD M H v d → RD M' H' v d) : RX M' H' a C d gs fs :=
  ⟨hn _ _ r.2.1 r.1, he _ _ r.2.1 rfl r.1, r.2.2.1.to hn he, r.2.2.2.to hd⟩
inductive W where
  | dat (d : D) | ref (n : Nat) | scr (ns : List Int) | pack (its : List (Sum Nat D)) | lock (es : List (D × D)) | ins (C : Addr) (fs : List (Str × D)) | exc (k : Nat) (C : Addr) (fs : List (Str × D))
inductive RPs (M : Mm) (H : Hp) : List V → List (Sum Nat D) → Prop
  | nil : RPs M H [] []
  | ref {n : Nat} {a : Addr} {vs : List V} {ds : List (Sum Nat D)} : M.m[n]? = some (some a) → RPs M H vs ds → RPs M H (.ref a :: vs) (.inl n :: ds)
  | dat {v : V} {d : D} {vs : List V} {ds : List (Sum Nat D)} : RD M H v d → RPs M H vs ds → RPs M H (v :: vs) (.inr d :: ds)
theorem RPs.move {M M' : Mm} {H H' : Hp} (hm : ∀ (n : Nat) (a : Addr), M.m[n]? = some (some a) → M'.m[n]? = some (some a)) (hd : ∀ v d, RD M H v d → RD M' H' v d) : ∀ {vs : List V} {ds : List (Sum Nat D)}, RPs M H vs ds → RPs M' H' vs ds
  | _, _, .nil => .nil
  | _, _, .ref e r => .ref (hm _ _ e) (r.move hm hd)
  | _, _, .dat e r => .dat (hd _ _ e) (r.move hm hd)
abbrev Env := List (Option W)
def RV (M : Mm) (H : Hp) (v : V) : W → Prop
  | .dat d => RD M H v d
  | .ref n => ∃ a, M.m[n]? = some (some a) ∧ v = .ref a
  | .scr ns => ∃ a o, v = .ref a ∧ ¬ M.Has a ∧ H a = some (.frz o (.lst (ns.map V.int)))
  | .pack its => ∃ a xs, v = .ref a ∧ ¬ M.Has a ∧ H a = some (.lst xs) ∧ RPs M H xs its
  | .lock es => ∃ a o kvs, v = .ref a ∧ ¬ M.Has a ∧ H a = some (.frz o (.dK kvs)) ∧ RDk M H kvs es
  | .ins C fs => ∃ a dx gs, v = .ref a ∧ ¬ M.Has a ∧ H a = some (.ins C dx gs) ∧ RF M H gs fs
  | .exc _ C fs => ∃ a d gs, v = .ref a ∧ RX M H a C d gs fs
theorem lt_of_get {α : Type} {l : List α} {i : Nat} {x : α} (e : l[i]? = some x) : i < l.length := (List.getElem?_eq_some_iff.mp e).1
theorem RV.mono {M M' : Mm} {H H' : Hp} (x : ExtE M M' H H') {v : V} : ∀ {w : W}, RV M H v w → RV M' H' v w
  | .dat _, r => RD.mono x.ext r
  | .ref n, ⟨a, e, r⟩ => ⟨a, by rw [x.pre n (lt_of_get e)]; exact e, r⟩
  | .scr ns, ⟨a, o, e, n, q⟩ => ⟨a, o, e, x.ext.out n q, x.ext.st n q⟩
  | .pack its, ⟨a, xs, e, n, q, r⟩ => ⟨a, xs, e, x.ext.out n q, x.ext.st n q, r.move (fun i b z => by rw [x.pre i (lt_of_get z)]; exact z) fun _ _ => RD.mono x.ext⟩
  | .lock es, ⟨a, o, kvs, e, n, q, r⟩ => ⟨a, o, kvs, e, x.ext.out n q, x.ext.st n q, r.mono x.ext⟩
  | .ins C fs, ⟨a, dx, gs, e, n, q, r⟩ => ⟨a, dx, gs, e, x.ext.out n q, x.ext.st n q, r.to fun _ _ => RD.mono x.ext⟩
  | .exc _ C fs, ⟨a, d, gs, e, r⟩ => ⟨a, d, gs, e, r.to (fun _ _ q n => x.ext.out n q) (fun _ _ q _ n => x.ext.st n q) fun _ _ => RD.mono x.ext⟩
inductive RVs (M : Mm) (H : Hp) : List V → List W → Prop
  | nil : RVs M H [] []
  | cons {v : V} {vs : List V} {d : W} {ds : List W} : RV M H v d → RVs M H vs ds → RVs M H (v :: vs) (d :: ds)
theorem RVs.mono {M M' : Mm} {H H' : Hp} (x : ExtE M M' H H') : ∀ {vs : List V} {ws : List W}, RVs M H vs ws → RVs M' H' vs ws
  | _, _, .nil => .nil
  | _, _, .cons a r => .cons (a.mono x) (r.mono x)
theorem RVs.length {M : Mm} {H : Hp} : ∀ {vs : List V} {ws : List W}, RVs M H vs ws → vs.length = ws.length
  | _, _, .nil => rfl
  | _, _, .cons _ r => by rw [List.length_cons, List.length_cons, r.length]
theorem RDs.length {M : Mm} {H : Hp} : ∀ {vs : List V} {ws : List D}, RDs M H vs ws → vs.length = ws.length
  | _, _, .nil => rfl
  | _, _, .cons _ r => by rw [List.length_cons, List.length_cons, r.length]
def RS (M : Mm) (H : Hp) (ρ : Env) (σ : L2.St) : Prop := ρ.length = σ.length ∧ ∀ (i : Nat) (w : W), ρ[i]? = some (some w) → ∃ v, σ[i]? = some (some v) ∧ RV M H v w
theorem RS.mono {M M' : Mm} {H H' : Hp} (x : ExtE M M' H H') {ρ : Env} {σ : L2.St} (r : RS M H ρ σ) : RS M' H' ρ σ := ⟨r.1, fun i w e => by
  obtain ⟨v, e1, q⟩ := r.2 i w e
  exact ⟨v, e1, q.mono x⟩⟩
theorem RS.set {M : Mm} {H : Hp} {ρ : Env} {σ : L2.St} (r : RS M H ρ σ) {i : Nat} {v : V} {w : W} (q : RV M H v w) : RS M H (ρ.set i (some w)) (σ.set i (some v)) := by
  refine ⟨by simp [r.1], fun j u e => ?_⟩
  by_cases hj : i = j
  · subst hj
    by_cases hi : i < ρ.length
    · rw [List.getElem?_set_self hi] at e
      cases e
      exact ⟨v, by rw [List.getElem?_set_self (by rw [← r.1]; exact hi)], q⟩
    · rw [List.getElem?_eq_none (by simpa using hi)] at e; cases e
  · rw [List.getElem?_set_ne hj] at e ⊢
    exact r.2 j u e
def obnd {α β : Type} (r : Option (α × Hh)) (k : α → Hh → Option (β × Hh)) : Option (β × Hh) := match r with
  | some (a, h) => k a h
  | none => none
@[simp] theorem obnd_some {α β : Type} (a : α) (h : Hh) (k : α → Hh → Option (β × Hh)) : obnd (some (a, h)) k = k a h := rfl
@[simp] theorem obnd_none {α β : Type} (k : α → Hh → Option (β × Hh)) : obnd none k = none := rfl
def Cont {α β : Type} (rel : Mm → Hp → β → α → Prop) (r : Option (α × Hh)) (M : Mm) (H : Hp) (Q : β → Hp → Prop) : Prop :=
  ∃ w h', r = some (w, h') ∧ ∀ M' H' v, ExtE M M' H H' → Rep M' H' h' → rel M' H' v w → Q v H'
theorem Cont.bind {α β γ δ : Type} {rel : Mm → Hp → β → α → Prop} {r : Option (γ × Hh)} {k : γ → Hh → Option (α × Hh)} {M : Mm} {H : Hp} {Q : β → Hp → Prop} (c : Cont rel (obnd r k) M H Q) :
    ∃ a h1, r = some (a, h1) ∧ ∀ M1 H1, ExtE M M1 H H1 → Cont rel (k a h1) M1 H1 Q := by
  obtain ⟨w, h', e, q⟩ := c
  cases r with
  | none => cases e
  | some p =>
    obtain ⟨a, h1⟩ := p
    exact ⟨a, h1, rfl, fun M1 H1 x => ⟨w, h', e, fun M' H' v y => q M' H' v (x.trans y)⟩⟩
theorem Cont.fin {α β : Type} {rel : Mm → Hp → β → α → Prop} {w : α} {h : Hh} {M : Mm} {H : Hp} {Q : β → Hp → Prop} (c : Cont rel (some (w, h)) M H Q) {M' : Mm} {H' : Hp} {v : β} (x : ExtE M M' H H') (r : Rep M' H' h) (q : rel M' H' v w) : Q v H' := by
  obtain ⟨w', h', e, k⟩ := c
  cases e
  exact k M' H' v x r q
def tX {α β : Type} (rel : Mm → Hp → β → α → Prop) (f : Env → Hh → Option (α × Hh)) : L2.St → Hp → (β → Hp → Prop) → Prop := fun σ H Q => ∃ M h ρ, Rep M H h ∧ RS M H ρ σ ∧ Cont rel (f ρ h) M H Q
abbrev EM := Env → Hh → Option (W × Hh)
abbrev tE : EM → TE := tX RV
abbrev BM := Env → Hh → Option (Bool × Hh)
abbrev tT : BM → TT := tX fun _ _ (b : Bool) (c : Bool) => b = c
abbrev AM := Env → Hh → Option (List W × Hh)
abbrev tA : AM → TA := tX RVs
abbrev OM := Env → Hh → Option (Option Int × Hh)
abbrev tO : OM → TO := tX fun _ _ (b : Option Int) (c : Option Int) => b = c
abbrev DE (X : Cx) (e : Expr) (f : EM) : Prop := PE X e (tE f)
abbrev DT (X : Cx) (e : Expr) (f : BM) : Prop := PT X e (tT f)
abbrev DA (X : Cx) (es : List Expr) (f : AM) : Prop := PA X es (tA f)
abbrev DK (X : Cx) (es : List Keyword) (f : AM) : Prop := PK X es (tA f)
theorem _root_.L2.PE.weak {X : Cx} {e : Expr} {t t' : TE} (h : PE X e t) (i : ∀ σ H Q, t' σ H Q → t σ H Q) : PE X e t' := ⟨fun pins s σ H Q I q => h.run pins s σ H Q I (i σ H Q q)⟩
theorem _root_.L2.PT.weak {X : Cx} {e : Expr} {t t' : TT} (h : PT X e t) (i : ∀ σ H Q, t' σ H Q → t σ H Q) : PT X e t' := ⟨fun pins s σ H Q I q => h.run pins s σ H Q I (i σ H Q q)⟩
theorem _root_.L2.PA.weak {X : Cx} {e : List Expr} {t t' : TA} (h : PA X e t) (i : ∀ σ H Q, t' σ H Q → t σ H Q) : PA X e t' := ⟨fun pos pins s σ H Q I q => h.run pos pins s σ H Q I (i σ H Q q)⟩
theorem _root_.L2.PK.weak {X : Cx} {e : List Keyword} {t t' : TA} (h : PK X e t) (i : ∀ σ H Q, t' σ H Q → t σ H Q) : PK X e t' := ⟨fun pos pins s σ H Q I q => h.run pos pins s σ H Q I (i σ H Q q)⟩
theorem _root_.L2.PS.weak {X : Cx} {e : Stmt} {t t' : TS} (h : PS X e t) (i : ∀ D σ H, t' D σ H → t D σ H) : PS X e t' := ⟨fun pins s σ H Q I q => h.run pins s σ H Q I (i Q σ H q)⟩
theorem _root_.L2.PSs.weak {X : Cx} {e : List Stmt} {t t' : TS} (h : PSs X e t) (i : ∀ D σ H, t' D σ H → t D σ H) : PSs X e t' := ⟨fun pins s σ H Q I q => h.run pins s σ H Q I (i Q σ H q)⟩
theorem _root_.L2.PG.weak {X : Cx} {e : Expr} {t t' : TG} (h : PG X e t) (i : ∀ v σ H Q, t' v σ H Q → t v σ H Q) : PG X e t' := ⟨fun pins s σ H v u Q I r q => h.run pins s σ H v u Q I r (i v σ H Q q)⟩
theorem _root_.L2.PI.weak {X : Cx} {tg e : Expr} {t t' : TI} (h : PI X tg e t) (i : ∀ σ H Q, t' σ H Q → t σ H Q) : PI X tg e t' := ⟨fun pins s σ H R I q => h.run pins s σ H R I (i σ H R q)⟩
section
variable {X : Cx}
def fVar (i : Nat) : EM := fun ρ h => match ρ[i]? with
  | some (some w) => some (w, h)
  | _ => none
theorem dv (i : Nat) {x : Str} {pos : Pos} (h : PE X (.Name x pos) (tVar i)) : DE X (.Name x pos) (fVar i) := h.weak fun σ H Q => by
  rintro ⟨M, h, ρ, r, rs, c⟩
  unfold fVar at c
  split at c
  · rename_i w e
    obtain ⟨v, e1, rv⟩ := rs.2 i w e
    exact ⟨v, e1, c.fin (.refl _ _) r rv⟩
  · obtain ⟨_, _, e, _⟩ := c; cases e
def fC (d : D) : EM := fun _ h => some (.dat d, h)
theorem d_const {e : Expr} {v : V} {d : D} (h : PE X e (tC v)) (q : ∀ M H, RD M H v d) : DE X e (fC d) := h.weak fun σ H Q => by
  rintro ⟨M, h, ρ, r, rs, c⟩
  exact c.fin (.refl _ _) r (q M H)
theorem d_int {i j pos} : DE X (.Constant (.int i) j pos) (fC (.int i)) := d_const pe_int fun _ _ => .int i
theorem d_bl {i j pos} : DE X (.Constant (.bool i) j pos) (fC (.bool i)) := d_const pe_bl fun _ _ => .bl i
theorem d_non {j pos} : DE X (.Constant .none j pos) (fC .none) := d_const pe_non fun _ _ => .non
theorem d_str {i j pos} : DE X (.Constant (.str i) j pos) (fC (.str i)) := d_const pe_str fun _ _ => .str i
def fNil : AM := fun _ h => some ([], h)
def fCons (f : EM) (g : AM) : AM := fun ρ h => obnd (f ρ h) fun w h1 => obnd (g ρ h1) fun ws h2 => some (w :: ws, h2)
theorem da_nil : DA X [] fNil := pa_nil.weak fun σ H Q => by
  rintro ⟨M, h, ρ, r, rs, c⟩
  exact c.fin (.refl _ _) r .nil
theorem cons_imp {f : EM} {g : AM} : ∀ σ H Q, tA (fCons f g) σ H Q → tCons (tE f) (tA g) σ H Q := fun σ H Q => by
  rintro ⟨M, h, ρ, r, rs, c⟩
  obtain ⟨w, h1, e1, c1⟩ := Cont.bind (δ := Unit) c
  refine ⟨M, h, ρ, r, rs, w, h1, e1, fun M1 H1 v x1 r1 v1 => ⟨M1, h1, ρ, r1, rs.mono x1, ?_⟩⟩
  obtain ⟨ws, h2, e2, c2⟩ := Cont.bind (δ := Unit) (c1 M1 H1 x1)
  exact ⟨ws, h2, e2, fun M2 H2 vs x2 r2 v2 => (c2 M2 H2 x2).fin (.refl _ _) r2 (.cons (v1.mono x2) v2)⟩
theorem da_cons {e : Expr} {es : List Expr} {f : EM} {g : AM} (he : DE X e f) (hr : DA X es g) (hs : starEach (e :: es) X.env = (false, eval e X.env) :: starEach es X.env := by rfl) : DA X (e :: es) (fCons f g) :=
  (pa_cons he hr hs).weak cons_imp
theorem dk_nil : DK X [] fNil := pk_nil.weak fun σ H Q => by
  rintro ⟨M, h, ρ, r, rs, c⟩
  exact c.fin (.refl _ _) r .nil
theorem dk_cons {nm : Option Str} {kpos : Pos} {e : Expr} {es : List Keyword} {f : EM} {g : AM} (he : DE X e f) (hr : DK X es g) : DK X (⟨nm, e, kpos⟩ :: es) (fCons f g) :=
  (pk_cons he hr).weak cons_imp
def Sem2 (r : R2) (sem : W → W → Hh → Option (W × Hh)) : Prop := ∀ (M : Mm) (H : Hp) (h : Hh) (x y : V) (wx wy : W) (Q : VK), Rep M H h → RV M H x wx → RV M H y wy → Cont RV (sem wx wy h) M H Q → r x y H Q
def f2 (sem : W → W → Hh → Option (W × Hh)) (f g : EM) : EM := fun ρ h => obnd (f ρ h) fun a h1 => obnd (g ρ h1) fun b h2 => sem a b h2
theorem op_imp {r : R2} {sem : W → W → Hh → Option (W × Hh)} {f g : EM} (hs : Sem2 r sem) : ∀ σ H Q, tE (f2 sem f g) σ H Q → tOp r (tE f) (tE g) σ H Q := fun σ H Q => by
  rintro ⟨M, h, ρ, r, rs, c⟩
  obtain ⟨w, h1, e1, c1⟩ := Cont.bind (δ := Unit) c
  refine ⟨M, h, ρ, r, rs, w, h1, e1, fun M1 H1 v x1 r1 v1 => ⟨M1, h1, ρ, r1, rs.mono x1, ?_⟩⟩
  obtain ⟨w2, h2, e2, c2⟩ := Cont.bind (δ := Unit) (c1 M1 H1 x1)
  exact ⟨w2, h2, e2, fun M2 H2 v2 x2 r2 q2 => hs M2 H2 h2 _ _ w w2 Q r2 (v1.mono x2) q2 (c2 M2 H2 x2)⟩
theorem d_op {a b : Expr} {op : Operator} {pos : Pos} {r : R2} {sem : W → W → Hh → Option (W × Hh)} {f g : EM} (ho : OpR X (binaryOp op) r) (hs : Sem2 r sem) (ha : DE X a f) (hb : DE X b g) : DE X (.BinOp a op b pos) (f2 sem f g) :=
  (pe_op ho ha hb).weak (op_imp hs)
theorem d_cmp {a b : Expr} {op : CmpOp} {pos : Pos} {r : R2} {sem : W → W → Hh → Option (W × Hh)} {f g : EM} (ho : OpR X (compareOp op) r) (hs : Sem2 r sem) (ha : DE X a f) (hb : DE X b g) (hm : behindInMarks op b = false) : DE X (.Compare a [op] [b] pos) (f2 sem f g) :=
  (pe_cmpR ho ha hb hm).weak (op_imp hs)
end
end DL
set_option maxRecDepth 100000
set_option maxHeartbeats 4000000
namespace DL
open PySem PySem.Spec PyProof.Rows L2
variable [HW]
def deref (h : Hh) : W → Option D
  | .dat d => some d
  | .ref n => match h[n]? with
    | some (some (.lst ds)) => some (.list ds)
    | some (some (.dic es)) => some (.dict es)
    | some (some (.dit es)) => some (.dict ((.none, .none) :: es))
    | _ => none
  | .scr _ => none
  | .pack _ => none
  | .lock _ => none
  | .ins _ _ => none
  | .exc _ _ _ => none
@[simp] theorem deref_dat (h : Hh) (d : D) : deref h (.dat d) = some d := rfl
def RR (M : Mm) (H : Hp) (v : V) : D → Prop
  | .list ds => ∃ a xs, v = .ref a ∧ H a = some (.lst xs) ∧ RDs M H xs ds
  | .dict es => (∃ a kvs, v = .ref a ∧ H a = some (.dK kvs) ∧ RDk M H kvs es) ∨ ∃ a kvs es', es = (.none, .none) :: es' ∧ v = .ref a ∧ Rd H a (dtO a kvs) ∧ RDt M H kvs es'
  | d => RD M H v d
theorem RD.rr {M : Mm} {H : Hp} {v : V} : ∀ {d : D}, RD M H v d → RR M H v d
  | .none, r => r
  | .bool _, r => r
  | .int _, r => r
  | .str _, r => r
  | .tuple _, r => r
  | .list _, .lst _ e r => ⟨_, _, rfl, e, r⟩
  | .dict _, .dic _ e r => .inl ⟨_, _, rfl, e, r⟩
  | .dict _, .dit _ e r => .inr ⟨_, _, _, rfl, rfl, .inr ⟨_, e⟩, r⟩
theorem deref_rr {M : Mm} {H : Hp} {h : Hh} {v : V} {w : W} {d : D} (rep : Rep M H h) (r : RV M H v w) (e : deref h w = some d) : RR M H v d := by
  cases w with
  | dat d' => cases e; exact r.rr
  | scr ns => cases e
  | pack its => cases e
  | lock its => cases e
  | ins C fs => cases e
  | exc k C fs => cases e
  | ref n =>
    obtain ⟨a, ea, rfl⟩ := r
    obtain ⟨o, ho, ro⟩ := rep.at_ n a ea
    simp only [deref, ho] at e
    cases o with
    | lst ds => cases e; obtain ⟨xs, h1, h2⟩ := ro; exact ⟨a, xs, rfl, h1, h2⟩
    | dic ds => cases e; obtain ⟨xs, h1, h2⟩ := ro; exact .inl ⟨a, xs, rfl, h1, h2⟩
    | dit ds => cases e; obtain ⟨xs, h1, h2⟩ := ro; exact .inr ⟨a, xs, _, rfl, rfl, .inl h1, h2⟩
    | tab q P => cases e
    | ins C fs => cases e
section
variable {M : Mm} {H : Hp} {h : Hh} {v : V}
theorem rr_int {i : Int} (r : RR M H v (.int i)) : v = .int i := by cases (show RD M H v _ from r); rfl
theorem rr_str {i : Str} (r : RR M H v (.str i)) : v = .str i := by cases (show RD M H v _ from r); rfl
theorem rr_bl {i : Bool} (r : RR M H v (.bool i)) : v = .bl i := by cases (show RD M H v _ from r); rfl
theorem rr_non (r : RR M H v .none) : v = .non := by cases (show RD M H v _ from r); rfl
theorem rr_tup {ds : List D} (r : RR M H v (.tuple ds)) : ∃ a xs, v = .ref a ∧ ¬ M.Has a ∧ TupAt H a xs ds ∧ RDs M H xs ds := by
  cases (show RD M H v _ from r) with
  | tup n e q => exact ⟨_, _, rfl, n, e, q⟩
theorem RDs.get : ∀ {xs : List V} {ds : List D} {i : Nat} {d : D}, RDs M H xs ds → ds[i]? = some d → ∃ v, xs[i]? = some v ∧ RD M H v d
  | _, _, _, _, .nil, e => by simp at e
  | _, _, 0, _, .cons r _, e => by simp at e; subst e; exact ⟨_, rfl, r⟩
  | _, _, i + 1, _, .cons _ t, e => by
    obtain ⟨u, h1, h2⟩ := RDs.get (i := i) t (by simpa using e)
    exact ⟨u, by simpa using h1, h2⟩
theorem RDs.app : ∀ {xs : List V} {ds : List D} {ys : List V} {es : List D}, RDs M H xs ds → RDs M H ys es → RDs M H (xs ++ ys) (ds ++ es)
  | _, _, _, _, .nil, q => q
  | _, _, _, _, .cons r t, q => .cons r (RDs.app t q)
theorem RDs.take : ∀ {xs : List V} {ds : List D} (n : Nat), RDs M H xs ds → RDs M H (xs.take n) (ds.take n)
  | _, _, 0, _ => .nil
  | _, _, _ + 1, .nil => .nil
  | _, _, n + 1, .cons r t => .cons r (RDs.take n t)
theorem RDs.drop : ∀ {xs : List V} {ds : List D} (n : Nat), RDs M H xs ds → RDs M H (xs.drop n) (ds.drop n)
  | _, _, 0, r => r
  | _, _, _ + 1, .nil => .nil
  | _, _, n + 1, .cons _ t => RDs.drop n t
theorem RDs.rev : ∀ {xs : List V} {ds : List D}, RDs M H xs ds → RDs M H xs.reverse ds.reverse
  | _, _, .nil => .nil
  | _, _, .cons r t => by rw [List.reverse_cons, List.reverse_cons]; exact RDs.app (RDs.rev t) (.cons r .nil)
theorem RDs.set : ∀ {xs : List V} {ds : List D} (n : Nat) {v : V} {d : D}, RDs M H xs ds → RD M H v d → RDs M H (xs.set n v) (ds.set n d)
  | _, _, _, _, _, .nil, _ => .nil
  | _, _, 0, _, _, .cons r t, q => .cons q t
  | _, _, n + 1, _, _, .cons r t, q => .cons r (RDs.set n t q)
theorem RDs.erase : ∀ {xs : List V} {ds : List D} (n : Nat), RDs M H xs ds → RDs M H (xs.eraseIdx n) (ds.eraseIdx n)
  | _, _, _, .nil => .nil
  | _, _, 0, .cons r t => t
  | _, _, n + 1, .cons r t => .cons r (RDs.erase n t)
theorem RDs.rep {xs : List V} {ds : List D} (r : RDs M H xs ds) : ∀ k : Nat, RDs M H (List.replicate k xs).flatten (List.replicate k ds).flatten
  | 0 => .nil
  | k + 1 => by rw [List.replicate_succ, List.replicate_succ, List.flatten_cons, List.flatten_cons]; exact RDs.app r (RDs.rep r k)
theorem RDs.atI {xs : List V} {ds : List D} {i : Int} {d : D} (r : RDs M H xs ds) (e : L2.atI ds i = some d) : ∃ v, L2.atI xs i = some v ∧ RD M H v d := by
  unfold L2.atI at e ⊢
  rw [r.length]
  cases q : ixN ds.length i with
  | none => rw [q] at e; cases e
  | some j => rw [q] at e; exact r.get e
end
def mkL (m : Bool) (ds : List D) (h : Hh) : Option (W × Hh) := if m = true then some (.ref h.length, h ++ [some (.lst ds)]) else some (.dat (.list ds), h)
@[simp] theorem mkL_false (ds : List D) (h : Hh) : mkL false ds h = some (.dat (.list ds), h) := rfl
@[simp] theorem mkL_true (ds : List D) (h : Hh) : mkL true ds h = some (.ref h.length, h ++ [some (.lst ds)]) := rfl
theorem mkL_fin {m : Bool} {ds : List D} {h : Hh} {M : Mm} {H : Hp} {Q : VK} {p : Addr} {xs : List V} (rep : Rep M H h) (n : H p = none) (r : RDs M H xs ds) (c : Cont RV (mkL m ds h) M H Q) : Q (.ref p) (upd H p (.lst xs)) := by
  cases m with
  | false => exact c.fin (ext_new n) (rep.upd_new n) (RD.lst (rep.new n) upd_same (r.mono (ext_new n).ext))
  | true => exact c.fin (ext_add n) (rep.add n ⟨xs, upd_same, r.mono (ext_add n).ext⟩) ⟨p, by simp [Mm.more, ← rep.len], rfl⟩
theorem mkT_fin {ds : List D} {h : Hh} {M : Mm} {H : Hp} {Q : VK} {p : Addr} {xs : List V} (rep : Rep M H h) (n : H p = none) (r : RDs M H xs ds) (hd : callD ds = false) (c : Cont RV (some (.dat (.tuple ds), h)) M H Q) : Q (.ref p) (upd H p (.tup xs)) :=
  c.fin (ext_new n) (rep.upd_new n) (RD.tup (rep.new n) (.inl ⟨hd, upd_same⟩) (r.mono (ext_new n).ext))
def bareO (b : Bool) (o : Obj) (xs : List V) : HO := if b = true then .frz o (.tup xs) else .tup xs
theorem mkB_fin {ds : List D} {h : Hh} {M : Mm} {H : Hp} {Q : VK} {p : Addr} {xs : List V} {o : Obj} (rep : Rep M H h) (n : H p = none) (r : RDs M H xs ds) (ho : o.dict = none) (c : Cont RV (some (.dat (.tuple ds), h)) M H Q) : Q (.ref p) (upd H p (bareO (callD ds) o xs)) := by
  cases hd : callD ds with
  | false => exact mkT_fin rep n r hd c
  | true => exact c.fin (ext_new n) (rep.upd_new n) (RD.tup (rep.new n) (.inr ⟨hd, o, ho, upd_same⟩) (r.mono (ext_new n).ext))
theorem bare_ok {P : Program} {w : World} {H : Hp} {h' : Heap} {a : Addr} {xs : List V} {o : Obj} (b : Bool) (e : h'.get? a = some o) (ok : ∀ G, ObjOk P w G h' a (.tup xs)) : ObjOk P w H h' a (bareO b o xs) := by
  cases b with
  | false => exact ok _
  | true => exact ⟨e, ok _⟩
theorem Cont.here {d : D} {h : Hh} {M : Mm} {H : Hp} {Q : VK} {v : V} (c : Cont RV (some (.dat d, h)) M H Q) (rep : Rep M H h) (r : RD M H v d) : Q v H := c.fin (.refl _ _) rep r
theorem Cont.no {α β : Type} {rel : Mm → Hp → β → α → Prop} {M : Mm} {H : Hp} {Q : β → Hp → Prop} (c : Cont rel none M H Q) : False := by obtain ⟨_, _, e, _⟩ := c; cases e
def ok (d : D) (h : Hh) : Option (W × Hh) := some (.dat d, h)
def addW (m : Bool) (x y : W) (h : Hh) : Option (W × Hh) := match deref h x, deref h y with
  | some (.int i), some (.int j) => ok (.int (i + j)) h
  | some (.str a), some (.str b) => if a.length + b.length ≤ sizeLine then ok (.str (a ++ b)) h else none
  | some (.tuple a), some (.tuple b) => if a.length + b.length ≤ sizeLine then ok (.tuple (a ++ b)) h else none
  | some (.list a), some (.list b) => if a.length + b.length ≤ sizeLine then mkL m (a ++ b) h else none
  | _, _ => none
section
variable {X : Cx}
def rCatB (K : PySem.W.Frag) : R2 := fun x y H Q => ∃ a b vs ws, x = .ref a ∧ y = .ref b ∧ SqT K H a vs ∧ SqT K H b ws ∧ vs.length + ws.length ≤ sizeLine ∧
  (vs = [] → Q (.ref b) H) ∧ (vs ≠ [] → ws = [] → Q (.ref a) H) ∧ (vs ≠ [] → ws ≠ [] → ∃ bb : Bool, ∀ p o, H p = none → o.dict = none → Q (.ref p) (upd H p (bareO bb o (vs ++ ws))))
theorem op_catB : OpR X (binaryOp .Add) (rCatB X.K) := by
  rintro pins s σ H x y v u Q I rx ry ⟨a, b, vs, ws, rfl, rfl, ha, hb, hz, f0, f1, f2⟩
  by_cases e : vs = [] ∨ ws = []
  · exact op_catA pins s σ H _ _ v u Q I rx ry ⟨a, b, vs, ws, rfl, rfl, ha, hb, hz, f0, f1, fun n1 n2 => (e.elim n1 n2).elim⟩
  · have n1 : vs ≠ [] := fun z => e (.inl z)
    have n2 : ws ≠ [] := fun z => e (.inr z)
    obtain ⟨bb, f⟩ := f2 n1 n2
    cases rx
    cases ry
    obtain ⟨l1, r1, p1, _⟩ := I.tuple ha
    obtain ⟨l2, r2, p2, _⟩ := I.tuple hb
    apply HT.cat_tup p1 p2 (fun z => n1 (r1.nil_iff.mp z)) (fun z => absurd (r2.nil_iff.mp z) n2)
    · intro _
      refine ⟨.ref s.heap.objs.size, _, I.laid (t' := s.toks) (o := bareO bb _ (vs ++ ws)) (fun _ _ q => Heap.get?_push_of_some _ q) (Nat.le_refl _) (bare_ok bb (Heap.get?_push_size _ rfl) fun G => ⟨?_, _, r1.append r2, IsTup.new _ _⟩), rfl, f _ _ (I.hok.fresh (Nat.le_refl _)) rfl⟩
      rw [List.length_append]
      exact hz
    · rw [← r1.length, ← r2.length]
      exact hz
theorem s_add (m : Bool) : Sem2 (fun x y H Q => rI0 (fun i j => .int (i + j)) x y H Q ∨ (∃ i j, x = .str i ∧ y = .str j ∧ i.length + j.length ≤ sizeLine ∧ Q (.str (i ++ j)) H) ∨ rCatB X.K x y H Q ∨ rCat x y H Q) (addW m) := by
  intro M H h x y wx wy Q rep rx ry c
  unfold addW at c
  split at c
  · rename_i i j h1 h2
    obtain rfl := rr_int (deref_rr rep rx h1)
    obtain rfl := rr_int (deref_rr rep ry h2)
    exact .inl ⟨i, j, rfl, rfl, c.here rep (.int _)⟩
  · rename_i i j h1 h2
    obtain rfl := rr_str (deref_rr rep rx h1)
    obtain rfl := rr_str (deref_rr rep ry h2)
    split at c
    · rename_i hz
      exact .inr (.inl ⟨i, j, rfl, rfl, hz, c.here rep (.str _)⟩)
    · exact c.no.elim
  · rename_i i j h1 h2
    obtain ⟨a, xs, rfl, na, ha, qa⟩ := rr_tup (deref_rr rep rx h1)
    obtain ⟨b, ys, rfl, nb, hb, qb⟩ := rr_tup (deref_rr rep ry h2)
    split at c
    · rename_i hz
      refine .inr (.inr (.inl ⟨a, b, xs, ys, rfl, rfl, .inl ha.rd, .inl hb.rd, by rw [qa.length, qb.length]; exact hz, fun e => ?_, fun _ e => ?_, fun _ _ => ⟨callD (i ++ j), fun p o np ho => ?_⟩⟩))
      · subst e; cases qa
        exact c.here rep (.tup nb hb qb)
      · subst e; cases qb; rw [List.append_nil] at c
        exact c.here rep (.tup na ha qa)
      · exact mkB_fin rep np (qa.app qb) ho c
    · exact c.no.elim
  · rename_i i j h1 h2
    obtain ⟨a, xs, rfl, ha, qa⟩ := deref_rr rep rx h1
    obtain ⟨b, ys, rfl, hb, qb⟩ := deref_rr rep ry h2
    split at c
    · rename_i hz
      exact .inr (.inr (.inr ⟨a, b, xs, ys, rfl, rfl, ha, hb, by rw [qa.length, qb.length]; exact hz, fun p np => mkL_fin rep np (qa.app qb) c⟩))
    · exact c.no.elim
  · exact c.no.elim
theorem d_add (m : Bool) {a b : Expr} {pos : Pos} {f g : EM} (ha : DE X a f) (hb : DE X b g) : DE X (.BinOp a .Add b pos) (f2 (addW m) f g) :=
  d_op (op_add.or (op_add_str.or (op_catB.or op_cat))) (s_add m) ha hb
def intW (C : Int → Int → Bool) (g : Int → Int → Int) (x y : W) (h : Hh) : Option (W × Hh) := match deref h x, deref h y with
  | some (.int i), some (.int j) => if C i j = true then ok (.int (g i j)) h else none
  | _, _ => none
theorem s_int {C : Int → Int → Prop} {Cb : Int → Int → Bool} {g : Int → Int → Int} (hc : ∀ i j, Cb i j = true → C i j) : Sem2 (rI C fun i j => .int (g i j)) (intW Cb g) := by
  intro M H h x y wx wy Q rep rx ry c
  unfold intW at c
  split at c
  · rename_i i j h1 h2
    obtain rfl := rr_int (deref_rr rep rx h1)
    obtain rfl := rr_int (deref_rr rep ry h2)
    split at c
    · rename_i hz
      exact ⟨i, j, rfl, rfl, hc i j hz, c.here rep (.int _)⟩
    · exact c.no.elim
  · exact c.no.elim
theorem op_subC : OpR X (binaryOp .Sub) (rI (fun _ _ => True) fun i j => .int (i - j)) := fun pins s σ H x y v u Q I rx ry ⟨i, j, e1, e2, _, q⟩ => op_sub pins s σ H x y v u Q I rx ry ⟨i, j, e1, e2, q⟩
def subW := intW (fun _ _ => true) fun i j => i - j
theorem d_sub {a b : Expr} {pos : Pos} {f g : EM} (ha : DE X a f) (hb : DE X b g) : DE X (.BinOp a .Sub b pos) (f2 subW f g) := d_op op_subC (s_int fun _ _ _ => trivial) ha hb
def modW := intW (fun _ j => decide (0 < j)) fun i j => i % j
theorem d_mod {a b : Expr} {pos : Pos} {f g : EM} (ha : DE X a f) (hb : DE X b g) : DE X (.BinOp a .Mod b pos) (f2 modW f g) := d_op op_mod (s_int fun _ _ h => of_decide_eq_true h) ha hb
def divW := intW (fun _ j => decide (0 < j ∧ j < 1073741824)) fun i j => i / j
theorem d_div {a b : Expr} {pos : Pos} {f g : EM} (ha : DE X a f) (hb : DE X b g) : DE X (.BinOp a .FloorDiv b pos) (f2 divW f g) := d_op op_fdiv (s_int fun _ _ h => by simpa [CDiv] using h) ha hb
def powW := intW (fun i j => decide (0 ≤ j ∧ j ≤ 1000000 ∧ i.natAbs < 18446744073709551616)) fun i j => i ^ j.toNat
theorem d_pow {a b : Expr} {pos : Pos} {f g : EM} (ha : DE X a f) (hb : DE X b g) : DE X (.BinOp a .Pow b pos) (f2 powW f g) := d_op op_pow (s_int fun _ _ h => by simpa [CPow] using h) ha hb
def mulW (m : Bool) (x y : W) (h : Hh) : Option (W × Hh) := match deref h x, deref h y with
  | some (.int i), some (.int j) => if ((-18446744073709551616 < i && i < 18446744073709551616) || (-18446744073709551616 < j && j < 18446744073709551616)) = true then ok (.int (i * j)) h else none
  | some (.list a), some (.int k) => if (0 ≤ k && k < 1000000 && a.length * k.toNat ≤ sizeLine) = true then mkL m (List.replicate k.toNat a).flatten h else none
  | _, _ => none
theorem s_mul (m : Bool) : Sem2 (fun x y H Q => rI CMul (fun i j => .int (i * j)) x y H Q ∨ rRep x y H Q) (mulW m) := by
  intro M H h x y wx wy Q rep rx ry c
  unfold mulW at c
  split at c
  · rename_i i j h1 h2
    obtain rfl := rr_int (deref_rr rep rx h1)
    obtain rfl := rr_int (deref_rr rep ry h2)
    split at c
    · rename_i hz
      refine .inl ⟨i, j, rfl, rfl, ?_, c.here rep (.int _)⟩
      simpa [CMul] using hz
    · exact c.no.elim
  · rename_i i j h1 h2
    obtain ⟨a, xs, rfl, ha, qa⟩ := deref_rr rep rx h1
    obtain rfl := rr_int (deref_rr rep ry h2)
    split at c
    · rename_i hz
      simp only [Bool.and_eq_true, decide_eq_true_eq] at hz
      refine .inr ⟨a, j, xs, rfl, rfl, ha, by omega, by omega, by rw [qa.length]; exact hz.2, fun p np => mkL_fin rep np (qa.rep _) c⟩
    · exact c.no.elim
  · exact c.no.elim
theorem d_mul (m : Bool) {a b : Expr} {pos : Pos} {f g : EM} (ha : DE X a f) (hb : DE X b g) : DE X (.BinOp a .Mult b pos) (f2 (mulW m) f g) := d_op (op_mul.or op_rep) (s_mul m) ha hb
def fNeg (f : EM) : EM := fun ρ h => obnd (f ρ h) fun w h1 => match w with
  | .dat (.int i) => ok (.int (-i)) h1
  | _ => none
theorem d_neg {a : Expr} {pos : Pos} {f : EM} (ha : DE X a f) : DE X (.UnaryOp .USub a pos) (fNeg f) := (pe_un un_neg ha).weak fun σ H Q => by
  rintro ⟨M, h, ρ, r, rs, c⟩
  obtain ⟨w, h1, e1, c1⟩ := Cont.bind (δ := Unit) c
  refine ⟨M, h, ρ, r, rs, w, h1, e1, fun M1 H1 v x1 r1 v1 => ?_⟩
  have c2 := c1 M1 H1 x1
  split at c2
  · cases v1; exact ⟨_, rfl, c2.here r1 (.int _)⟩
  · exact c2.no.elim
def bok (b : Bool) (h : Hh) : Option (W × Hh) := some (.dat (.bool b), h)
def ltW (g : Int → Int → Bool) (k : List Nat → List Nat → Bool) (x y : W) (h : Hh) : Option (W × Hh) := match deref h x, deref h y with
  | some (.int i), some (.int j) => bok (g i j) h
  | some (.str i), some (.str j) => bok (k i.cps.toList j.cps.toList) h
  | _, _ => none
theorem s_lt {g : Int → Int → Bool} {k : List Nat → List Nat → Bool} : Sem2 (fun x y H Q => rI0 (fun i j => .bl (g i j)) x y H Q ∨ ∃ i j, x = .str i ∧ y = .str j ∧ Q (.bl (k i.cps.toList j.cps.toList)) H) (ltW g k) := by
  intro M H h x y wx wy Q rep rx ry c
  unfold ltW at c
  split at c
  · rename_i i j h1 h2
    obtain rfl := rr_int (deref_rr rep rx h1)
    obtain rfl := rr_int (deref_rr rep ry h2)
    exact .inl ⟨i, j, rfl, rfl, c.here rep (.bl _)⟩
  · rename_i i j h1 h2
    obtain rfl := rr_str (deref_rr rep rx h1)
    obtain rfl := rr_str (deref_rr rep ry h2)
    exact .inr ⟨i, j, rfl, rfl, c.here rep (.bl _)⟩
  · exact c.no.elim
def lt_W := ltW (fun i j => decide (i < j)) fun i j => decide (i < j)
def gt_W := ltW (fun i j => decide (j < i)) fun i j => decide (j < i)
def le_W := ltW (fun i j => decide (i ≤ j)) fun i j => !decide (j < i)
def ge_W := ltW (fun i j => decide (j ≤ i)) fun i j => !decide (i < j)
theorem d_lt {a b : Expr} {pos : Pos} {f g : EM} (ha : DE X a f) (hb : DE X b g) : DE X (.Compare a [.Lt] [b] pos) (f2 lt_W f g) := d_cmp (op_lt.or op_lt_str) s_lt ha hb (nomark _)
theorem d_ge {a b : Expr} {pos : Pos} {f g : EM} (ha : DE X a f) (hb : DE X b g) : DE X (.Compare a [.GtE] [b] pos) (f2 ge_W f g) := d_cmp (op_ge.or op_ge_str) s_lt ha hb (nomark _)
end
mutual
theorem RD.dp {K : PySem.W.Frag} {M : Mm} {H : Hp} : ∀ {v : V} {d : D}, RD M H v d → d.canLay0 = true → Dp K H v d
  | _, _, .non, _ => .non
  | _, _, .bl b, _ => .bl b
  | _, _, .int i, _ => .int i
  | _, _, .str x, _ => .str x
  | _, _, .tup _ e r, h => .tup e.sq (RDs.dp r (by simpa [PyData.canLay0] using h))
  | _, _, .lst _ e r, h => .lst (.of e) (RDs.dp r (by simpa [PyData.canLay0] using h))
  | _, _, .dic _ _ _, h => by simp [PyData.canLay0] at h
  | _, _, .dit _ _ _, h => by simp [PyData.canLay0] at h
theorem RDs.dp {K : PySem.W.Frag} {M : Mm} {H : Hp} : ∀ {v : List V} {d : List D}, RDs M H v d → PyData.canLayAll0 d = true → DpAll K H v d
  | _, _, .nil, _ => .nil
  | _, _, .cons a r, h => by
    simp only [PyData.canLayAll0, Bool.and_eq_true] at h
    exact .cons (RD.dp a h.1) (RDs.dp r h.2)
end
theorem rr_dp {K : PySem.W.Frag} {M : Mm} {H : Hp} {v : V} : ∀ {d : D}, RR M H v d → d.canLay0 = true → Dp K H v d
  | .none, r, h => RD.dp r h
  | .bool _, r, h => RD.dp r h
  | .int _, r, h => RD.dp r h
  | .str _, r, h => RD.dp r h
  | .tuple _, r, h => RD.dp r h
  | .list _, ⟨_, _, e, h1, h2⟩, h => by subst e; exact .lst (.of h1) (h2.dp (by simpa [PyData.canLay0] using h))
  | .dict _, _, h => by simp [PyData.canLay0] at h
def eqS : D → D → Option Bool
  | .int i, .int j => some (decide (i = j))
  | .str i, .str j => some (decide (i = j))
  | .bool i, .bool j => some (decide (i = j))
  | .none, .none => some true
  | .none, .int _ => some false
  | .none, .str _ => some false
  | .none, .bool _ => some false
  | .int _, .none => some false
  | .str _, .none => some false
  | .bool _, .none => some false
  | .int _, .str _ => some false
  | .str _, .int _ => some false
  | .bool _, .str _ => some false
  | .str _, .bool _ => some false
  | _, _ => none
theorem eqS_ok {M : Mm} {H : Hp} {x y : V} {a b : D} {r : Bool} (ra : RR M H x a) (rb : RR M H y b) (e : eqS a b = some r) : scal x y = true ∧ r = decide (x = y) := by
  cases a <;> cases b <;> simp only [eqS, Option.some.injEq, reduceCtorEq] at e <;> subst e <;> cases (show RD M H x _ from ra) <;> cases (show RD M H y _ from rb) <;> simp [scal]
def shp (d : D) : Bool := d.canLay0 && decide (d.depth ≤ 64)
def eqW (neg : Bool) (x y : W) (h : Hh) : Option (W × Hh) := match deref h x, deref h y with
  | some a, some b => match eqS a b with
    | some r => bok (if neg = true then !r else r) h
    | none => if shp a && shp b then bok (if neg = true then !PyData.eqv a b else PyData.eqv a b) h else none
  | _, _ => none
section
variable {X : Cx}
theorem s_eq : Sem2 (fun x y H Q => rEq x y H Q ∨ rEqD X.K x y H Q) (eqW false) := by
  intro M H h x y wx wy Q rep rx ry c
  unfold eqW at c
  split at c
  · rename_i a b h1 h2
    have ra := deref_rr rep rx h1
    have rb := deref_rr rep ry h2
    split at c
    · rename_i r e
      obtain ⟨e1, e2⟩ := eqS_ok ra rb e
      subst e2
      exact .inl ⟨e1, c.here rep (.bl _)⟩
    · split at c
      · rename_i hz
        rw [Bool.and_eq_true] at hz
        exact .inr ⟨a, b, rr_dp ra (SeqAt.canLay_of_shaped hz.1), rr_dp rb (SeqAt.canLay_of_shaped hz.2), hz.1, hz.2, c.here rep (.bl _)⟩
      · exact c.no.elim
  · exact c.no.elim
theorem s_ne : Sem2 (fun x y H Q => rNe x y H Q ∨ rNeD X.K x y H Q) (eqW true) := by
  intro M H h x y wx wy Q rep rx ry c
  unfold eqW at c
  split at c
  · rename_i a b h1 h2
    have ra := deref_rr rep rx h1
    have rb := deref_rr rep ry h2
    split at c
    · rename_i r e
      obtain ⟨e1, e2⟩ := eqS_ok ra rb e
      subst e2
      exact .inl ⟨e1, c.here rep (.bl _)⟩
    · split at c
      · rename_i hz
        rw [Bool.and_eq_true] at hz
        exact .inr ⟨a, b, rr_dp ra (SeqAt.canLay_of_shaped hz.1), rr_dp rb (SeqAt.canLay_of_shaped hz.2), hz.1, hz.2, c.here rep (.bl _)⟩
      · exact c.no.elim
  · exact c.no.elim
theorem d_eq {k : Nat} (hr : Room k X.A) {a b : Expr} {pos : Pos} {f g : EM} (ha : DE X a f) (hb : DE X b g) : DE X (.Compare a [.Eq] [b] pos) (f2 (eqW false) f g) := d_cmp (op_eq.or (op_eqD hr.units)) s_eq ha hb (nomark _)
theorem d_ne {k : Nat} (hr : Room k X.A) {a b : Expr} {pos : Pos} {f g : EM} (ha : DE X a f) (hb : DE X b g) : DE X (.Compare a [.NotEq] [b] pos) (f2 (eqW true) f g) := d_cmp (op_ne.or (op_neD hr.units)) s_ne ha hb (nomark _)
def isW (neg : Bool) (x y : W) (h : Hh) : Option (W × Hh) := match x, y with
  | .dat (.bool a), .dat (.bool b) => bok (if neg = true then !decide (a = b) else decide (a = b)) h
  | .dat .none, .dat .none => bok (!neg) h
  | _, .dat .none => bok neg h
  | _, _ => none
theorem rv_non {M : Mm} {H : Hp} {w : W} (r : RV M H .non w) : w = .dat .none := by
  cases w with
  | dat d => cases (show RD M H _ d from r); rfl
  | ref n => obtain ⟨_, _, e⟩ := r; cases e
  | scr n => obtain ⟨_, _, e, _⟩ := r; cases e
  | pack its => obtain ⟨_, _, e, _⟩ := r; cases e
  | lock its => obtain ⟨_, _, _, e, _⟩ := r; cases e
  | ins C fs => obtain ⟨_, _, _, e, _⟩ := r; cases e
  | exc k C fs => obtain ⟨_, _, _, e, _⟩ := r; cases e
theorem s_is : Sem2 (fun x y H Q => (y = .non ∧ Q (.bl (decide (x = .non))) H) ∨ ∃ a b, x = .bl a ∧ y = .bl b ∧ Q (.bl (decide (a = b))) H) (isW false) := by
  intro M H h x y wx wy Q rep rx ry c
  unfold isW at c
  split at c
  · cases (show RD M H _ _ from rx); cases (show RD M H _ _ from ry)
    exact .inr ⟨_, _, rfl, rfl, c.here rep (.bl _)⟩
  · cases (show RD M H _ _ from rx); cases (show RD M H _ _ from ry)
    exact .inl ⟨rfl, c.here rep (.bl _)⟩
  · rename_i hn
    cases (show RD M H _ _ from ry)
    refine .inl ⟨rfl, ?_⟩
    have e : decide (x = V.non) = false := decide_eq_false fun z => by subst z; exact hn (rv_non rx)
    rw [e]
    exact c.here rep (.bl _)
  · exact c.no.elim
def fB (f : EM) : BM := fun ρ h => obnd (f ρ h) fun w h1 => match w with
  | .dat (.bool b) => some (b, h1)
  | _ => none
theorem test_imp {f : EM} : ∀ σ H Q, tT (fB f) σ H Q → tTest (tE f) σ H Q := fun σ H Q => by
  rintro ⟨M, h, ρ, r, rs, c⟩
  obtain ⟨w, h1, e1, c1⟩ := Cont.bind (δ := Unit) c
  refine ⟨M, h, ρ, r, rs, w, h1, e1, fun M1 H1 v x1 r1 v1 => ?_⟩
  have c2 := c1 M1 H1 x1
  split at c2
  · cases v1; exact ⟨_, rfl, c2.fin (.refl _ _) r1 rfl⟩
  · exact c2.no.elim
theorem dt_val {e : Expr} {f : EM} (h : DE X e f) (he : ∀ whole, isTrue e X.env whole = (do let v ← whole; standAt e.pos; holding [v] (truthy v)) := by intro _; rfl) : DT X e (fB f) := (pt_val h he).weak test_imp
theorem dt_of_cmp {a b : Expr} {op : CmpOp} {pos : Pos} {r : R2} {sem : W → W → Hh → Option (W × Hh)} {f g : EM} (ho : OpR X (compareOp op) r) (hs : Sem2 r sem) (ha : DE X a f) (hb : DE X b g) (hm : behindInMarks op b = false) : DT X (.Compare a [op] [b] pos) (fB (f2 sem f g)) :=
  (pt_cmpR ho ha hb hm).weak fun σ H Q q => by
    obtain ⟨M, h, ρ, r, rs, c⟩ := q
    obtain ⟨w, h1, e1, c1⟩ := Cont.bind (δ := Unit) c
    refine op_imp hs σ H _ ⟨M, h, ρ, r, rs, w, h1, e1, fun M1 H1 v x1 r1 v1 => ?_⟩
    have c2 := c1 M1 H1 x1
    split at c2
    · cases v1; exact ⟨_, rfl, c2.fin (.refl _ _) r1 rfl⟩
    · exact c2.no.elim
theorem t_lt {a b : Expr} {pos : Pos} {f g : EM} (ha : DE X a f) (hb : DE X b g) : DT X (.Compare a [.Lt] [b] pos) (fB (f2 lt_W f g)) := dt_of_cmp (op_lt.or op_lt_str) s_lt ha hb (nomark _)
theorem t_le {a b : Expr} {pos : Pos} {f g : EM} (ha : DE X a f) (hb : DE X b g) : DT X (.Compare a [.LtE] [b] pos) (fB (f2 le_W f g)) := dt_of_cmp (op_le.or op_le_str) s_lt ha hb (nomark _)
theorem t_gt {a b : Expr} {pos : Pos} {f g : EM} (ha : DE X a f) (hb : DE X b g) : DT X (.Compare a [.Gt] [b] pos) (fB (f2 gt_W f g)) := dt_of_cmp (op_gt.or op_gt_str) s_lt ha hb (nomark _)
theorem t_eq {k : Nat} (hr : Room k X.A) {a b : Expr} {pos : Pos} {f g : EM} (ha : DE X a f) (hb : DE X b g) : DT X (.Compare a [.Eq] [b] pos) (fB (f2 (eqW false) f g)) := dt_of_cmp (op_eq.or (op_eqD hr.units)) s_eq ha hb (nomark _)
theorem t_ne {k : Nat} (hr : Room k X.A) {a b : Expr} {pos : Pos} {f g : EM} (ha : DE X a f) (hb : DE X b g) : DT X (.Compare a [.NotEq] [b] pos) (fB (f2 (eqW true) f g)) := dt_of_cmp (op_ne.or (op_neD hr.units)) s_ne ha hb (nomark _)
theorem t_is {a b : Expr} {pos : Pos} {f g : EM} (ha : DE X a f) (hb : DE X b g) : DT X (.Compare a [.Is] [b] pos) (fB (f2 (isW false) f g)) := dt_of_cmp (op_isN.or op_is_bl) s_is ha hb (nomark _)
def bAnd (f g : BM) : BM := fun ρ h => obnd (f ρ h) fun b h1 => if b = true then g ρ h1 else some (false, h1)
def bOr (f g : BM) : BM := fun ρ h => obnd (f ρ h) fun b h1 => if b = true then some (true, h1) else g ρ h1
def bNot (f : BM) : BM := fun ρ h => obnd (f ρ h) fun b h1 => some (!b, h1)
abbrev DW (X : Cx) (e : Expr) (f : BM) : Prop := PW X e (tT f)
theorem _root_.L2.PW.weak {X : Cx} {e : Expr} {t t' : TT} (h : PW X e t) (i : ∀ σ H Q, t' σ H Q → t σ H Q) : PW X e t' := ⟨fun wh pins s σ H Q I q => h.run wh pins s σ H Q I (i σ H Q q)⟩
theorem dw_and1 {a : Expr} {pos : Pos} {f : BM} (ha : DT X a f) : DW X (.BoolOp .And [a] pos) f := pw_and1 ha
theorem dw_or1 {a : Expr} {pos : Pos} {f : BM} (ha : DT X a f) : DW X (.BoolOp .Or [a] pos) f := pw_or1 ha
theorem dw_and {a b : Expr} {rest : List Expr} {pos : Pos} {f g : BM} (ha : DT X a f) (hb : DW X (.BoolOp .And (b :: rest) pos) g) : DW X (.BoolOp .And (a :: b :: rest) pos) (bAnd f g) := (pw_and ha hb).weak fun σ H Q => by
  rintro ⟨M, h, ρ, r, rs, c⟩
  obtain ⟨w, h1, e1, c1⟩ := Cont.bind (δ := Unit) c
  refine ⟨M, h, ρ, r, rs, w, h1, e1, fun M1 H1 v x1 r1 v1 => ?_⟩
  subst v1
  have c2 := c1 M1 H1 x1
  cases v with
  | true => exact iteT ⟨M1, h1, ρ, r1, rs.mono x1, c2⟩
  | false => exact iteF (c2.fin (.refl _ _) r1 rfl)
theorem dw_or {a b : Expr} {rest : List Expr} {pos : Pos} {f g : BM} (ha : DT X a f) (hb : DW X (.BoolOp .Or (b :: rest) pos) g) : DW X (.BoolOp .Or (a :: b :: rest) pos) (bOr f g) := (pw_or ha hb).weak fun σ H Q => by
  rintro ⟨M, h, ρ, r, rs, c⟩
  obtain ⟨w, h1, e1, c1⟩ := Cont.bind (δ := Unit) c
  refine ⟨M, h, ρ, r, rs, w, h1, e1, fun M1 H1 v x1 r1 v1 => ?_⟩
  subst v1
  have c2 := c1 M1 H1 x1
  cases v with
  | true => exact iteT (c2.fin (.refl _ _) r1 rfl)
  | false => exact iteF ⟨M1, h1, ρ, r1, rs.mono x1, c2⟩
theorem dt_not {a : Expr} {pos : Pos} {f : BM} (ha : DT X a f) : DT X (.UnaryOp .Not a pos) (bNot f) := (pt_not ha).weak fun σ H Q => by
  rintro ⟨M, h, ρ, r, rs, c⟩
  obtain ⟨w, h1, e1, c1⟩ := Cont.bind (δ := Unit) c
  refine ⟨M, h, ρ, r, rs, w, h1, e1, fun M1 H1 v x1 r1 v1 => ?_⟩
  subst v1
  exact (c1 M1 H1 x1).fin (.refl _ _) r1 rfl
def fAnd (f g : EM) : EM := fun ρ h => obnd (f ρ h) fun w h1 => match w with
  | .dat (.bool true) => g ρ h1
  | .dat (.bool false) => bok false h1
  | _ => none
def fOr (f g : EM) : EM := fun ρ h => obnd (f ρ h) fun w h1 => match w with
  | .dat (.bool true) => bok true h1
  | .dat (.bool false) => g ρ h1
  | _ => none
def fNot (f : EM) : EM := fun ρ h => obnd (f ρ h) fun w h1 => match w with
  | .dat (.bool b) => bok (!b) h1
  | _ => none
theorem d_one {op} {a : Expr} {pos : Pos} {f : EM} (ha : DE X a f) : DE X (.BoolOp op [a] pos) f := pe_one ha
theorem d_and {a b : Expr} {rest : List Expr} {pos : Pos} {f g : EM} (ha : DE X a f) (hb : DE X (.BoolOp .And (b :: rest) pos) g) : DE X (.BoolOp .And (a :: b :: rest) pos) (fAnd f g) := (pe_and ha hb).weak fun σ H Q => by
  rintro ⟨M, h, ρ, r, rs, c⟩
  obtain ⟨w, h1, e1, c1⟩ := Cont.bind (δ := Unit) c
  refine ⟨M, h, ρ, r, rs, w, h1, e1, fun M1 H1 v x1 r1 v1 => ?_⟩
  have c2 := c1 M1 H1 x1
  split at c2
  · cases v1; exact ⟨true, rfl, iteT ⟨M1, h1, ρ, r1, rs.mono x1, c2⟩⟩
  · cases v1; exact ⟨false, rfl, iteF (c2.here r1 (.bl _))⟩
  · exact c2.no.elim
def fIf (t : BM) (f g : EM) : EM := fun ρ h => obnd (t ρ h) fun b h1 => if b = true then f ρ h1 else g ρ h1
theorem d_if {c a b : Expr} {pos : Pos} {t : BM} {f g : EM} (hc : DT X c t) (ha : DE X a f) (hb : DE X b g) : DE X (.IfExp c a b pos) (fIf t f g) := (pe_ifExp hc ha hb).weak fun σ H Q => by
  rintro ⟨M, h, ρ, r, rs, c⟩
  obtain ⟨w, h1, e1, c1⟩ := Cont.bind (δ := Unit) c
  refine ⟨M, h, ρ, r, rs, w, h1, e1, fun M1 H1 v x1 r1 v1 => ?_⟩
  subst v1
  have c2 := c1 M1 H1 x1
  cases v with
  | true => exact iteT ⟨M1, h1, ρ, r1, rs.mono x1, c2⟩
  | false => exact iteF ⟨M1, h1, ρ, r1, rs.mono x1, c2⟩
end
end DL
set_option maxRecDepth 100000
set_option maxHeartbeats 4000000
namespace DL
open PySem PySem.Spec PyProof.Rows L2
variable [HW]
def dKey : D → Option Key
  | .int i => some (.inl i)
  | .str s => some (.inr s)
  | _ => none
def dKeys : List D → Option (List Key)
  | [] => some []
  | d :: ds => match dKey d, dKeys ds with
    | some k, some ks => some (k :: ks)
    | _, _ => none
def tKey : D → Option (List Key)
  | .tuple ds => dKeys ds
  | _ => none
def getK (es : List (D × D)) (k : Key) : Option D := (es.find? fun e => decide (dKey e.1 = some k)).map (·.2)
def getT (es : List (D × D)) (k : List Key) : Option D := (es.find? fun e => decide (tKey e.1 = some k)).map (·.2)
def isT : List (D × D) → Bool
  | (.none, .none) :: _ => true
  | _ => false
def bareK : D → Bool
  | .tuple ds => pairD ds
  | _ => false
def getD (es : List (D × D)) (k : D) : Option (Option D) := if isT es = true then (if bareK k = true then none else (tKey k).map (getT es.tail)) else (dKey k).map (getK es)
theorem dKey_kP (k : Key) : dKey (kP k) = some k := by cases k <;> rfl
theorem dKeys_kP : ∀ ks : List Key, dKeys (ks.map kP) = some ks
  | [] => rfl
  | k :: ks => by simp only [List.map_cons, dKeys, dKey_kP, dKeys_kP ks]
theorem kP_dKey {d : D} {k : Key} (e : dKey d = some k) : d = kP k := by
  cases d <;> simp only [dKey, Option.some.injEq, reduceCtorEq] at e <;> subst e <;> rfl
theorem kP_dKeys : ∀ {ds : List D} {ks : List Key}, dKeys ds = some ks → ds = ks.map kP
  | [], ks, e => by cases e; rfl
  | d :: ds, ks, e => by
    simp only [dKeys] at e
    split at e
    · rename_i k ks' h1 h2
      cases e
      rw [List.map_cons, ← kP_dKey h1, ← kP_dKeys h2]
    · cases e
section
variable {M : Mm} {H : Hp}
theorem rd_kP {v : V} {k : Key} (r : RD M H v (kP k)) : v = kV k := by
  cases k <;> (cases r; rfl)
theorem rds_kP : ∀ {vs : List V} {ks : List Key}, RDs M H vs (ks.map kP) → vs = ks.map kV
  | _, [], r => by cases r; rfl
  | _, k :: ks, r => by
    cases r with
    | cons a t => rw [List.map_cons, ← rd_kP a, ← rds_kP t]
def RDo (M : Mm) (H : Hp) : Option V → Option D → Prop
  | some v, some d => RD M H v d
  | none, none => True
  | _, _ => False
theorem RDk.val (k : Key) : ∀ {kvs : List (Key × V)} {es : List (D × D)}, RDk M H kvs es → RDo M H (valV kvs k) (getK es k)
  | _, _, .nil => trivial
  | _, _, .cons (k := j) r t => by
    by_cases e : j = k
    · subst e
      rw [valV_pos rfl]
      unfold getK
      simp only [List.find?_cons, dKey_kP, decide_true, Option.map_some]
      exact r
    · rw [valV_neg e]
      have ih := RDk.val k t
      unfold getK at ih ⊢
      simp only [List.find?_cons, dKey_kP, Option.some.injEq, e, decide_false]
      exact ih
theorem RDt.val (k : List Key) : ∀ {kvs : List KA} {es : List (D × D)}, RDt M H kvs es → RDo M H (valA kvs k) (getT es k)
  | _, _, .nil => trivial
  | _, _, .cons (k := j) _ _ r t => by
    have ih := RDt.val k t
    unfold getT valA atA at ih ⊢
    by_cases e : j = k
    · subst e
      simp only [List.find?_cons, tKey, dKeys_kP, decide_true, Option.map_some]
      exact r
    · simp only [List.find?_cons, tKey, dKeys_kP, Option.some.injEq, e, decide_false]
      exact ih
theorem isT_rdk : ∀ {kvs : List (Key × V)} {es : List (D × D)}, RDk M H kvs es → isT es = false
  | _, _, .nil => rfl
  | _, _, .cons (k := k) r t => by cases k <;> rfl
theorem get_ok {x y : V} {es : List (D × D)} {k : D} {o : Option D} (rx : RR M H x (.dict es)) (ry : RD M H y k) (e : getD es k = some o) : ∃ a ov, x = .ref a ∧ DGetX H a y ov ∧ RDo M H ov o := by
  rcases rx with ⟨a, kvs, rfl, ha, r⟩ | ⟨a, kvs, es', rfl, rfl, ha, r⟩
  · unfold getD at e
    rw [isT_rdk r] at e
    simp only [Bool.false_eq_true, if_false, Option.map_eq_some_iff] at e
    obtain ⟨k', e1, e2⟩ := e
    have := kP_dKey e1
    subst this
    rw [rd_kP ry]
    exact ⟨a, _, rfl, .inl (DGet.k ha), e2 ▸ r.val k'⟩
  · unfold getD at e
    simp only [isT, if_true] at e
    split at e
    · cases e
    simp only [Option.map_eq_some_iff, List.tail_cons] at e
    obtain ⟨k', e1, e2⟩ := e
    cases k with
    | tuple ds =>
      have := kP_dKeys (show dKeys ds = some k' from e1)
      subst this
      cases ry with
      | tup _ hb rb =>
        rw [rds_kP rb] at hb
        exact ⟨a, _, rfl, .inr ⟨_, _, _, ha, r.kx, rfl, hb.rd, rfl⟩, e2 ▸ r.val k'⟩
    | _ => cases e1
end
def idxW (x y : W) (h : Hh) : Option (W × Hh) := match x, y with
  | .scr ns, .dat (.int i) => match atI ns i with
    | some n => ok (.int n) h
    | none => none
  | x, .dat k => match deref h x, k with
    | some (.list ds), .int i => match atI ds i with
      | some d => ok d h
      | none => none
    | some (.tuple ds), .int i => match atI ds i with
      | some d => ok d h
      | none => none
    | some (.str z), .int i => if z.length ≤ sizeLine then match atI z.cps.toList i with
        | some c => ok (.str ⟨#[c]⟩) h
        | none => none
      else none
    | some (.dict es), k => match getD es k with
      | some (some d) => ok d h
      | _ => none
    | _, _ => none
  | _, _ => none
section
variable {X : Cx}
def rIxDict : R2 := fun x y H Q => ∃ a v, x = .ref a ∧ DGetX H a y (some v) ∧ Q v H
theorem ix_dict (hu : X.A.units + 1 < cLine) (W : HWX X) : IxR X rIxDict := by
  intro value slice pins s σ H x y v u Q I rx ry q hs
  obtain ⟨a, z, rfl, g, q⟩ := q
  obtain rfl : v = Value.ref a := rx
  have tis := dx_typeIs W I g
  unfold subscriptTail
  refine wpAny_bind ?_
  rw [getitemInPython_of_ne tis.not_modules]
  refine wpAny_bind (wpAny_specialOf tis F.slot_dict_getitem.lookup ?_)
  have gi := dx_getItem (A := X.A) (E := X.xe) hu W I g ry fun w' s3 I3 rw' => (⟨z, H, I3, rw', q⟩ : EP X pins σ Q w' s3)
  have done : wpAny (model X.prog X.w) X.A (subscripted slice false (.ref a) u) (fun r s₃ => wpAny (model X.prog X.w) X.A (letTemporaryGo value (.ref a) r >>= fun _ => pure r) (EP X pins σ Q) X.xe s₃) X.xe s := by
    rw [hs]; exact wpAny_operating (wpAny_mono gi (fun r s₃ k => wpAny_bind (wpAny_letTemporaryGo (wpAny_pure k))) fun _ _ k => k)
  first | exact wpAny_pure (wpAny_bind done) | exact wpAny_bind (wpAny_pure (wpAny_bind done)) | exact wpAny_bind done
theorem scr_atI {ns : List Int} {i : Int} {n : Int} (e : atI ns i = some n) : atI (ns.map V.int) i = some (.int n) := by
  unfold atI at e ⊢
  rw [List.length_map]
  cases q : ixN ns.length i with
  | none => rw [q] at e; cases e
  | some j => rw [q] at e; simp only [Option.bind_some] at e ⊢; rw [List.getElem?_map, e]; rfl
theorem s_idx : Sem2 (fun x y H Q => rIx X.K x y H Q ∨ rIxDict x y H Q) idxW := by
  intro M H h x y wx wy Q rep rx ry c
  unfold idxW at c
  split at c
  · rename_i ns i
    obtain ⟨a, o, rfl, _, ha⟩ := rx
    cases (show RD M H _ _ from ry)
    split at c
    · rename_i n e
      exact .inl (.inl ⟨a, _, i, _, rfl, rfl, .inl (.inr ⟨o, ha⟩), scr_atI e, c.here rep (.int _)⟩)
    · exact c.no.elim
  · split at c
    · rename_i ds i e1 hn
      obtain ⟨a, xs, rfl, ha, qa⟩ := deref_rr rep rx e1
      cases (show RD M H _ _ from ry)
      split at c
      · rename_i d e
        obtain ⟨v, ev, rv⟩ := qa.atI e
        exact .inl (.inl ⟨a, _, i, v, rfl, rfl, .of ha, ev, c.here rep rv⟩)
      · exact c.no.elim
    · rename_i ds i e1 hn
      obtain ⟨a, xs, rfl, _, ha, qa⟩ := rr_tup (deref_rr rep rx e1)
      cases (show RD M H _ _ from ry)
      split at c
      · rename_i d e
        obtain ⟨v, ev, rv⟩ := qa.atI e
        exact .inl (.inr (.inl ⟨a, _, i, v, rfl, rfl, ha.sq, ev, c.here rep rv⟩))
      · exact c.no.elim
    · rename_i z i e1 hn
      obtain rfl := rr_str (deref_rr rep rx e1)
      cases (show RD M H _ _ from ry)
      split at c
      · rename_i hz
        split at c
        · rename_i d e
          exact .inl (.inr (.inr ⟨z, i, d, rfl, rfl, hz, e, c.here rep (.str _)⟩))
        · exact c.no.elim
      · exact c.no.elim
    · rename_i es e1 hn
      split at c
      · rename_i d e
        obtain ⟨a, ov, rfl, g, ro⟩ := get_ok (deref_rr rep rx e1) ry e
        cases ov with
        | none => exact ro.elim
        | some v => exact .inr ⟨a, v, rfl, g, c.here rep ro⟩
      · exact c.no.elim
    · exact c.no.elim
  · exact c.no.elim
theorem d_idx {k : Nat} (hr : Room k X.A) {a b : Expr} {pos : Pos} {f g : EM} (ha : DE X a f) (hb : DE X b g) (hs : PlainIx b) (W : HWX X := by exact ⟨rfl, rfl⟩) : DE X (.Subscript a b pos) (f2 idxW f g) :=
  (pe_ix (ix_seq.or (ix_dict (hu_of hr) W)) ha hb hs).weak (op_imp s_idx)
def cutG {α : Type} (xs : List α) (lo hi : Option Int) : List α := (xs.drop (HT.sIx xs.length 0 lo)).take (HT.sIx xs.length xs.length hi - HT.sIx xs.length 0 lo)
theorem RDs.cut {M : Mm} {H : Hp} {xs : List V} {ds : List D} (r : RDs M H xs ds) (lo hi : Option Int) : RDs M H (cutV xs lo hi) (cutG ds lo hi) := by
  unfold cutV cutG
  rw [r.length]
  exact (r.drop _).take _
def oNone : OM := fun _ h => some (none, h)
def oSome (f : EM) : OM := fun ρ h => obnd (f ρ h) fun w h1 => match w with
  | .dat (.int i) => some (some i, h1)
  | _ => none
abbrev DO (X : Cx) (e : Option Expr) (f : OM) : Prop := PO X e (tO f)
theorem _root_.L2.PO.weak {X : Cx} {e : Option Expr} {t t' : TO} (h : PO X e t) (i : ∀ σ H Q, t' σ H Q → t σ H Q) : PO X e t' := ⟨fun pins s σ H Q I q => h.run pins s σ H Q I (i σ H Q q)⟩
theorem do_none : DO X none oNone := po_none.weak fun σ H Q => by
  rintro ⟨M, h, ρ, r, rs, c⟩
  exact c.fin (.refl _ _) r rfl
theorem do_some {e : Expr} {f : EM} (he : DE X e f) : DO X (some e) (oSome f) := (po_some he).weak fun σ H Q => by
  rintro ⟨M, h, ρ, r, rs, c⟩
  obtain ⟨w, h1, e1, c1⟩ := Cont.bind (δ := Unit) c
  refine ⟨M, h, ρ, r, rs, w, h1, e1, fun M1 H1 v x1 r1 v1 => ?_⟩
  have c2 := c1 M1 H1 x1
  split at c2
  · cases v1; exact ⟨_, rfl, c2.fin (.refl _ _) r1 rfl⟩
  · exact c2.no.elim
def cutW (m : Bool) (x : W) (lo hi : Option Int) (h : Hh) : Option (W × Hh) := match x with
  | .scr ns => mkL m ((cutG ns lo hi).map .int) h
  | x => match deref h x with
    | some (.list ds) => mkL m (cutG ds lo hi) h
    | some (.tuple ds) => ok (.tuple (cutG ds lo hi)) h
    | some (.str z) => if z.length ≤ sizeLine then ok (.str (cutS z lo hi)) h else none
    | _ => none
def fSl (m : Bool) (f : EM) (lo hi : OM) : EM := fun ρ h => obnd (f ρ h) fun w h1 => obnd (lo ρ h1) fun a h2 => obnd (hi ρ h2) fun b h3 => cutW m w a b h3
theorem cut_ints (ns : List Int) (lo hi : Option Int) {M : Mm} {H : Hp} : RDs M H (cutV (ns.map V.int) lo hi) ((cutG ns lo hi).map .int) := by
  have e : cutV (ns.map V.int) lo hi = (cutG ns lo hi).map V.int := by
    unfold cutV cutG
    rw [List.length_map, List.map_take, List.map_drop]
  rw [e]
  generalize cutG ns lo hi = l
  induction l with
  | nil => exact .nil
  | cons a t ih => exact .cons (.int a) ih
theorem cut_whole {α : Type} {xs : List α} {lo hi : Option Int} (e : HT.sIx xs.length 0 lo = 0 ∧ HT.sIx xs.length xs.length hi = xs.length) : cutG xs lo hi = xs := by
  unfold cutG
  rw [e.1, e.2]
  simp
def rSlB (K : PySem.W.Frag) : V → Option Int → Option Int → Hp → VK → Prop := fun x lo hi H Q => ∃ a vs, x = .ref a ∧ SqT K H a vs ∧
  ((HT.sIx vs.length 0 lo = 0 ∧ HT.sIx vs.length vs.length hi = vs.length → Q (.ref a) H) ∧ ∃ bb : Bool, ∀ p o, H p = none → o.dict = none → Q (.ref p) (upd H p (bareO bb o (cutV vs lo hi))))
theorem sl_tupB : SlR X (rSlB X.K) := by
  rintro pins s σ H x v vl vu lo hi sl Q I rx hs pl pu ⟨a, vs, rfl, hx, f1, bb, f2⟩
  by_cases hw : HT.sIx vs.length 0 lo = 0 ∧ HT.sIx vs.length vs.length hi = vs.length
  · exact sl_tupA pins s σ H _ v vl vu lo hi sl Q I rx hs pl pu ⟨a, vs, rfl, hx, f1, fun n => absurd hw n⟩
  · cases rx
    obtain ⟨l, r, ht, hz⟩ := I.tuple hx
    have hn : l.toArray.size = vs.length := by rw [List.size_toArray, r.length]
    refine ⟨"tuple", _, PyProof.Rows.slot_tuple_getitem.lookup, ht.typeIs, HT.getItem_tuple_cut ht hs pl pu (by rwa [hn]) ?_ (by rwa [hn])⟩
    rw [hn]
    exact ⟨.ref s.heap.objs.size, _, I.laid (t' := s.toks) (o := bareO bb _ (cutV vs lo hi)) (fun _ _ q => Heap.get?_push_of_some _ q) (Nat.le_refl _)
      (bare_ok bb (Heap.get?_push_size _ rfl) fun G => ⟨Nat.le_trans (cutV_length vs lo hi) hz, _, (r.drop _).take _, IsTup.new _ _⟩), rfl, f2 _ _ (I.hok.fresh (Nat.le_refl _)) rfl⟩
theorem d_slice (m : Bool) {a : Expr} {lo hi : Option Expr} {p2 pos : Pos} {f : EM} {fl fh : OM} (ha : DE X a f) (hl : DO X lo fl) (hh : DO X hi fh) : DE X (.Subscript a (.Slice lo hi none p2) pos) (fSl m f fl fh) :=
  (pe_slice (sl_list.or (sl_tupB.or sl_str)) ha hl hh).weak fun σ H Q => by
    rintro ⟨M, h, ρ, r, rs, c⟩
    obtain ⟨w, h1, e1, c1⟩ := Cont.bind (δ := Unit) c
    refine ⟨M, h, ρ, r, rs, w, h1, e1, fun M1 H1 v x1 r1 v1 => ⟨M1, h1, ρ, r1, rs.mono x1, ?_⟩⟩
    obtain ⟨w2, h2, e2, c2⟩ := Cont.bind (δ := Unit) (c1 M1 H1 x1)
    refine ⟨w2, h2, e2, fun M2 H2 v2 x2 r2 q2 => ⟨M2, h2, ρ, r2, (rs.mono x1).mono x2, ?_⟩⟩
    subst q2
    obtain ⟨w3, h3, e3, c3⟩ := Cont.bind (δ := Unit) (c2 M2 H2 x2)
    refine ⟨w3, h3, e3, fun M3 H3 v3 x3 r3 q3 => ?_⟩
    subst q3
    have c4 := c3 M3 H3 x3
    have v3' := (v1.mono x2).mono x3
    unfold cutW at c4
    split at c4
    · obtain ⟨b, o, rfl, _, hb⟩ := v3'
      exact .inl ⟨b, _, rfl, .inl (.inr ⟨o, hb⟩), fun p np => mkL_fin r3 np (cut_ints _ _ _) c4⟩
    · split at c4
      · rename_i ds e4
        obtain ⟨b, xs, rfl, hb, qb⟩ := deref_rr r3 v3' e4
        exact .inl ⟨b, xs, rfl, .of hb, fun p np => mkL_fin r3 np (qb.cut _ _) c4⟩
      · rename_i ds e4
        obtain ⟨b, xs, rfl, nb, hb, qb⟩ := rr_tup (deref_rr r3 v3' e4)
        refine .inr (.inl ⟨b, xs, rfl, hb.sq, fun e => ?_, _, fun p o np ho => mkB_fin r3 np (qb.cut _ _) ho c4⟩)
        rw [qb.length] at e
        rw [cut_whole e] at c4
        exact c4.here r3 (.tup nb hb qb)
      · rename_i z e4
        obtain rfl := rr_str (deref_rr r3 v3' e4)
        split at c4
        · rename_i hz
          exact .inr (.inr ⟨z, rfl, hz, c4.here r3 (.str _)⟩)
        · exact c4.no.elim
      · exact c4.no.elim
def dats : List W → Option (List D)
  | [] => some []
  | .dat d :: ws => (dats ws).map (d :: ·)
  | _ :: _ => none
@[simp] theorem dats_nil : dats [] = some [] := rfl
@[simp] theorem dats_cons (d : D) (ws : List W) : dats (.dat d :: ws) = (dats ws).map (d :: ·) := rfl
theorem rvs_dats {M : Mm} {H : Hp} : ∀ {vs : List V} {ws : List W} {ds : List D}, RVs M H vs ws → dats ws = some ds → RDs M H vs ds
  | _, _, _, .nil, e => by cases e; exact .nil
  | _, .dat d :: ws, _, .cons a t, e => by
    simp only [dats_cons, Option.map_eq_some_iff] at e
    obtain ⟨ds', e1, rfl⟩ := e
    exact .cons a (rvs_dats t e1)
  | _, .ref n :: ws, _, .cons a t, e => by cases e
  | _, .scr n :: ws, _, .cons a t, e => by cases e
  | _, .pack n :: ws, _, .cons a t, e => by cases e
  | _, .lock n :: ws, _, .cons a t, e => by cases e
  | _, .ins C fs :: ws, _, .cons a t, e => by cases e
  | _, .exc k C fs :: ws, _, .cons a t, e => by cases e
def lstW (m : Bool) (ws : List W) (h : Hh) : Option (W × Hh) := match dats ws with
  | some ds => if ds.length ≤ sizeLine then mkL m ds h else none
  | none => none
def tupW (ws : List W) (h : Hh) : Option (W × Hh) := match dats ws with
  | some ds => if ds.length ≤ sizeLine then ok (.tuple ds) h else none
  | none => none
def fA (sem : List W → Hh → Option (W × Hh)) (g : AM) : EM := fun ρ h => obnd (g ρ h) sem
theorem d_lst (m : Bool) {es : List Expr} {pos : Pos} {g : AM} (hg : DA X es g) : DE X (.List es pos) (fA (lstW m) g) := (pe_lst hg).weak fun σ H Q => by
  rintro ⟨M, h, ρ, r, rs, c⟩
  obtain ⟨w, h1, e1, c1⟩ := Cont.bind (δ := Unit) c
  refine ⟨M, h, ρ, r, rs, w, h1, e1, fun M1 H1 v x1 r1 v1 => ?_⟩
  have c2 := c1 M1 H1 x1
  unfold lstW at c2
  split at c2
  · rename_i ds e
    have q := rvs_dats v1 e
    split at c2
    · rename_i hz
      exact ⟨by rw [q.length]; exact hz, fun p np => mkL_fin r1 np q c2⟩
    · exact c2.no.elim
  · exact c2.no.elim
def tTupB (t : TA) : TE := fun σ H Q => t σ H fun xs H1 => xs.length ≤ sizeLine ∧ ∃ b : Bool, ∀ p o, H1 p = none → o.dict = none → Q (.ref p) (upd H1 p (bareO b o xs))
theorem pe_tupB {x1} {es : List Expr} {t : TA} {pos : Pos} (h : PA X es t) : PE X (.Tuple es x1 pos) (tTupB t) := by
  constructor
  intro pins s σ H Q I hq
  apply wpAny_Tuple_spliced
  refine thn (h.run pos pins s σ H _ I hq) fun us s1 ⟨xs, H1, I1, r, z, b, q⟩ => ⟨r.length ▸ z, ?_⟩
  have hn := I1.hok.fresh (Nat.le_refl s1.heap.objs.size)
  exact ⟨.ref s1.heap.objs.size, _, I1.laid (t' := s1.toks) (o := bareO b _ xs) (fun _ _ e => Heap.get?_push_of_some _ e) (Nat.le_refl _) (bare_ok b (Heap.get?_push_size _ rfl) fun G => ⟨z, us, r, IsTup.new _ _⟩), rfl, q _ _ hn rfl⟩
theorem d_tup {x1} {es : List Expr} {pos : Pos} {g : AM} (hg : DA X es g) : DE X (.Tuple es x1 pos) (fA tupW g) := (pe_tupB hg).weak fun σ H Q => by
  rintro ⟨M, h, ρ, r, rs, c⟩
  obtain ⟨w, h1, e1, c1⟩ := Cont.bind (δ := Unit) c
  refine ⟨M, h, ρ, r, rs, w, h1, e1, fun M1 H1 v x1 r1 v1 => ?_⟩
  have c2 := c1 M1 H1 x1
  unfold tupW at c2
  split at c2
  · rename_i ds e
    have q := rvs_dats v1 e
    split at c2
    · rename_i hz
      exact ⟨by rw [q.length]; exact hz, callD ds, fun p o np ho => mkB_fin r1 np q ho c2⟩
    · exact c2.no.elim
  · exact c2.no.elim
end
end DL
set_option maxRecDepth 100000
set_option maxHeartbeats 4000000
namespace DL
open PySem PySem.Spec PyProof.Rows L2
variable [HW]
def SemA (r : List V → Hp → VK → Prop) (sem : List W → Hh → Option (W × Hh)) : Prop := ∀ (M : Mm) (H : Hp) (h : Hh) (vs : List V) (ws : List W) (Q : VK), Rep M H h → RVs M H vs ws → Cont RV (sem ws h) M H Q → r vs H Q
theorem call_imp {r : List V → Hp → VK → Prop} {sem : List W → Hh → Option (W × Hh)} {g : AM} (hs : SemA r sem) : ∀ σ H Q, tE (fA sem g) σ H Q → tCB r (tA g) σ H Q := fun σ H Q => by
  rintro ⟨M, h, ρ, r, rs, c⟩
  obtain ⟨w, h1, e1, c1⟩ := Cont.bind (δ := Unit) c
  exact ⟨M, h, ρ, r, rs, w, h1, e1, fun M1 H1 v x1 r1 v1 => hs M1 H1 h1 v w Q r1 v1 (c1 M1 H1 x1)⟩
section
variable {X : Cx}
theorem d_callB {x : Str} {p pos : Pos} {e : Expr} {es : List Expr} {id : String} {r : List V → Hp → VK → Prop} {sem : List W → Hh → Option (W × Hh)} {g : AM} (hc : CallR X (.builtin id) r) (hs : SemA r sem) (hm : X.mg x = none) (hv : bootBuiltins x = some (.builtin id)) (ha : DA X (e :: es) g)
    (hg : Gl X x := by rfl) (hn : x ≠ "__name__" := by decide) (hdb : (x == ("__debug__" : Str)) = false := by decide) (he : starEach (e :: es) X.env = (false, eval e X.env) :: starEach es X.env := by rfl) (hpl : (backTo pos (starEach es X.env)).any (·.1) = false := by rfl) :
    DE X (.Call (.Name x p) (e :: es) [] pos) (fA sem g) := (pe_callB hc hg hm hv ha hn hdb he hpl).weak (call_imp hs)
theorem d_callT {x : Str} {p pos : Pos} {e : Expr} {es : List Expr} {T : String} {r : List V → Hp → VK → Prop} {sem : List W → Hh → Option (W × Hh)} {g : AM} (hc : CallR X (.type T) r) (hs : SemA r sem) (hm : X.mg x = none) (hv : bootBuiltins x = some (.type T)) (ha : DA X (e :: es) g)
    (hg : Gl X x := by rfl) (hn : x ≠ "__name__" := by decide) (hdb : (x == ("__debug__" : Str)) = false := by decide) (he : starEach (e :: es) X.env = (false, eval e X.env) :: starEach es X.env := by rfl) (hpl : (backTo pos (starEach es X.env)).any (·.1) = false := by rfl) :
    DE X (.Call (.Name x p) (e :: es) [] pos) (fA sem g) := (pe_callTy hc hg hm hv ha hn hdb he hpl).weak (call_imp hs)
theorem rvs1 {M : Mm} {H : Hp} {vs : List V} {w : W} (r : RVs M H vs [w]) : ∃ v, vs = [v] ∧ RV M H v w := by
  cases r with
  | cons a t => cases t; exact ⟨_, rfl, a⟩
theorem rvs2 {M : Mm} {H : Hp} {vs : List V} {w u : W} (r : RVs M H vs [w, u]) : ∃ v v', vs = [v, v'] ∧ RV M H v w ∧ RV M H v' u := by
  cases r with
  | cons a t => cases t with
    | cons b t => cases t; exact ⟨_, _, rfl, a, b⟩
def lenW (ws : List W) (h : Hh) : Option (W × Hh) := match ws with
  | [.scr ns] => ok (.int ns.length) h
  | [w] => match deref h w with
    | some (.list ds) => ok (.int ds.length) h
    | some (.tuple ds) => ok (.int ds.length) h
    | some (.str z) => if z.length ≤ sizeLine then ok (.int z.length) h else none
    | some (.dict es) => if isT es = true then none else ok (.int es.length) h
    | _ => none
  | _ => none
theorem RDk.length {M : Mm} {H : Hp} : ∀ {kvs : List (Key × V)} {es : List (D × D)}, RDk M H kvs es → kvs.length = es.length
  | _, _, .nil => rfl
  | _, _, .cons _ r => by rw [List.length_cons, List.length_cons, r.length]
theorem s_len : SemA (fun xs H Q => (∃ x n, xs = [x] ∧ LenV X.K x H n ∧ Q (.int n) H) ∨ ∃ d kvs, xs = [.ref d] ∧ H d = some (.dK kvs) ∧ Q (.int (kvs.length : Nat)) H) lenW := by
  intro M H h vs ws Q rep rv c
  unfold lenW at c
  split at c
  · rename_i ns
    obtain ⟨v, rfl, r⟩ := rvs1 rv
    obtain ⟨a, o, rfl, _, ha⟩ := r
    exact .inl ⟨_, ns.length, rfl, .inl ⟨_, .inl (.inr ⟨o, ha⟩), by simp⟩, c.here rep (.int _)⟩
  · obtain ⟨v, rfl, r⟩ := rvs1 rv
    split at c
    · rename_i ds e
      obtain ⟨a, xs, rfl, ha, q⟩ := deref_rr rep r e
      exact .inl ⟨_, ds.length, rfl, .inl ⟨_, .of ha, q.length.symm⟩, c.here rep (.int _)⟩
    · rename_i ds e
      obtain ⟨a, xs, rfl, _, ha, q⟩ := rr_tup (deref_rr rep r e)
      exact .inl ⟨_, ds.length, rfl, .inr ⟨_, ha.sq, q.length.symm⟩, c.here rep (.int _)⟩
    · rename_i z e
      obtain rfl := rr_str (deref_rr rep r e)
      split at c
      · rename_i hz
        exact .inl ⟨_, z.length, rfl, ⟨hz, rfl⟩, c.here rep (.int _)⟩
      · exact c.no.elim
    · rename_i es e
      split at c
      · exact c.no.elim
      · rename_i ht
        rcases deref_rr rep r e with ⟨a, kvs, rfl, ha, q⟩ | ⟨a, kvs, es', rfl, rfl, ha, q⟩
        · rw [← q.length] at c
          exact .inr ⟨a, kvs, rfl, ha, c.here rep (.int _)⟩
        · exact absurd rfl ht
    · exact c.no.elim
  · exact c.no.elim
theorem d_len (hm : X.mg "len" = none) {p pos : Pos} {e : Expr} {g : AM} (ha : DA X [e] g) (hg : Gl X "len" := by rfl) (he : starEach [e] X.env = (false, eval e X.env) :: starEach [] X.env := by rfl) (hpl : (backTo pos (starEach [] X.env)).any (·.1) = false := by rfl) : DE X (.Call (.Name "len" p) [e] [] pos) (fA lenW g) :=
  d_callB (call_len.or call_lenD) s_len hm boot_len ha hg (by decide) (by decide) he hpl
def absW (ws : List W) (h : Hh) : Option (W × Hh) := match ws with
  | [.dat (.int i)] => ok (.int (if i < 0 then -i else i)) h
  | _ => none
theorem s_abs : SemA (fun xs H Q => ∃ i, xs = [.int i] ∧ Q (.int (if i < 0 then -i else i)) H) absW := by
  intro M H h vs ws Q rep rv c
  unfold absW at c
  split at c
  · obtain ⟨v, rfl, r⟩ := rvs1 rv
    cases (show RD M H _ _ from r)
    exact ⟨_, rfl, c.here rep (.int _)⟩
  · exact c.no.elim
def intC (ws : List W) (h : Hh) : Option (W × Hh) := match ws with
  | [.dat (.int i)] => ok (.int i) h
  | [.dat (.bool b)] => ok (.int (if b = true then 1 else 0)) h
  | _ => none
theorem s_intC : SemA (fun xs H Q => (∃ i, xs = [.int i] ∧ Q (.int i) H) ∨ ∃ k, xs = [.bl k] ∧ Q (.int (if k then 1 else 0)) H) intC := by
  intro M H h vs ws Q rep rv c
  unfold intC at c
  split at c
  · obtain ⟨v, rfl, r⟩ := rvs1 rv
    cases (show RD M H _ _ from r)
    exact .inl ⟨_, rfl, c.here rep (.int _)⟩
  · obtain ⟨v, rfl, r⟩ := rvs1 rv
    cases (show RD M H _ _ from r)
    exact .inr ⟨_, rfl, c.here rep (.int _)⟩
  · exact c.no.elim
def maxW (ws : List W) (h : Hh) : Option (W × Hh) := match ws with
  | [.dat (.int i), .dat (.int j)] => ok (.int (if j > i then j else i)) h
  | _ => none
def minW (ws : List W) (h : Hh) : Option (W × Hh) := match ws with
  | [.dat (.int i), .dat (.int j)] => ok (.int (if j < i then j else i)) h
  | _ => none
def bools : List D → Option (List Bool)
  | [] => some []
  | .bool b :: ds => (bools ds).map (b :: ·)
  | _ :: _ => none
def intsD : List D → Option (List Int)
  | [] => some []
  | .int b :: ds => (intsD ds).map (b :: ·)
  | _ :: _ => none
theorem rds_bools {M : Mm} {H : Hp} : ∀ {vs : List V} {ds : List D} {bs : List Bool}, RDs M H vs ds → bools ds = some bs → vs = bs.map V.bl
  | _, _, _, .nil, e => by cases e; rfl
  | _, .bool b :: ds, _, .cons a t, e => by
    simp only [bools, Option.map_eq_some_iff] at e
    obtain ⟨bs', e1, rfl⟩ := e
    cases a
    rw [List.map_cons, ← rds_bools t e1]
  | _, .none :: ds, _, .cons a t, e => by cases e
  | _, .int _ :: ds, _, .cons a t, e => by cases e
  | _, .str _ :: ds, _, .cons a t, e => by cases e
  | _, .list _ :: ds, _, .cons a t, e => by cases e
  | _, .tuple _ :: ds, _, .cons a t, e => by cases e
  | _, .dict _ :: ds, _, .cons a t, e => by cases e
theorem rds_ints {M : Mm} {H : Hp} : ∀ {vs : List V} {ds : List D} {bs : List Int}, RDs M H vs ds → intsD ds = some bs → vs = bs.map V.int
  | _, _, _, .nil, e => by cases e; rfl
  | _, .int b :: ds, _, .cons a t, e => by
    simp only [intsD, Option.map_eq_some_iff] at e
    obtain ⟨bs', e1, rfl⟩ := e
    cases a
    rw [List.map_cons, ← rds_ints t e1]
  | _, .none :: ds, _, .cons a t, e => by cases e
  | _, .bool _ :: ds, _, .cons a t, e => by cases e
  | _, .str _ :: ds, _, .cons a t, e => by cases e
  | _, .list _ :: ds, _, .cons a t, e => by cases e
  | _, .tuple _ :: ds, _, .cons a t, e => by cases e
  | _, .dict _ :: ds, _, .cons a t, e => by cases e
def lW {α : Type} (cv : List D → Option (List α)) (k : List α → D) (ws : List W) (h : Hh) : Option (W × Hh) := match ws with
  | [w] => match deref h w with
    | some (.list ds) => match cv ds with
      | some bs => ok (k bs) h
      | none => none
    | _ => none
  | _ => none
def allW := lW bools fun bs => .bool (bs.all id)
def anyW := lW bools fun bs => .bool (bs.any id)
def sumW := lW intsD fun bs => .int bs.sum
theorem s_lW {α : Type} {cv : List D → Option (List α)} {k : List α → D} {kv : List α → V} {em : α → V} (h1 : ∀ {M : Mm} {H : Hp} {vs : List V} {ds : List D} {bs : List α}, RDs M H vs ds → cv ds = some bs → vs = bs.map em) (h2 : ∀ M H bs, RD M H (kv bs) (k bs)) :
    SemA (fun vs H Q => ∃ (a : Addr) (bs : List α), vs = [V.ref a] ∧ SqL X.K H a (bs.map em) ∧ Q (kv bs) H) (lW cv k) := by
  intro M H h vs ws Q rep rv c
  unfold lW at c
  split at c
  · obtain ⟨v, rfl, r⟩ := rvs1 rv
    split at c
    · rename_i ds e
      obtain ⟨a, xs, rfl, ha, q⟩ := deref_rr rep r e
      split at c
      · rename_i bs e2
        have e3 := h1 q e2
        subst e3
        exact ⟨a, bs, rfl, .of ha, c.here rep (h2 _ _ _)⟩
      · exact c.no.elim
    · exact c.no.elim
  · exact c.no.elim
theorem s_all : SemA (rAll X.K) allW := s_lW rds_bools fun _ _ _ => .bl _
theorem s_sum : SemA (rSum X.K) sumW := s_lW rds_ints fun _ _ _ => .int _
def tupleW (ws : List W) (h : Hh) : Option (W × Hh) := match ws with
  | [w] => match deref h w with
    | some (.list ds) => ok (.tuple ds) h
    | some (.tuple ds) => ok (.tuple ds) h
    | _ => none
  | _ => none
def rTupB (K : PySem.W.Frag) : List V → Hp → VK → Prop := fun xs H Q => ∃ p ys, xs = [.ref p] ∧ ((SqL K H p ys ∧ ∃ b : Bool, ∀ l o, H l = none → o.dict = none → Q (.ref l) (upd H l (bareO b o ys))) ∨ (SqT K H p ys ∧ Q (.ref p) H))
theorem call_tupB : CallR X (.type "tuple") (rTupB X.K) := by
  intro pins s σ H xs us Q I r h
  obtain ⟨p, ys, rfl, h⟩ := h
  obtain ⟨u, rfl, rx⟩ := vals1 r
  cases rx
  rcases h with ⟨hq, b, q⟩ | ⟨hq, q⟩
  · obtain ⟨its, r', pl, hz⟩ := I.list hq
    have hlen := r'.length
    apply call_tuple_list pl.isList _ (by simp only [List.size_toArray] <;> omega)
    intro h' kp
    have I1 : Inv X pins σ H { s with heap := h' } := I.kept (t' := s.toks) kp
    exact ⟨.ref h'.objs.size, _, I1.laid (t' := s.toks) (o := bareO b _ ys) (fun _ _ e => Heap.get?_push_of_some _ e) (Nat.le_refl _) (bare_ok b (Heap.get?_push_size _ rfl) fun G => ⟨hz, its, r', IsTup.new _ _⟩), rfl, q _ _ (I1.hok.fresh (Nat.le_refl _)) rfl⟩
  · obtain ⟨its, r', pl, hz⟩ := I.tuple hq
    exact call_tuple_same pl ⟨.ref p, H, I, rfl, q⟩
theorem s_tuple : SemA (rTupB X.K) tupleW := by
  intro M H h vs ws Q rep rv c
  unfold tupleW at c
  split at c
  · obtain ⟨v, rfl, r⟩ := rvs1 rv
    split at c
    · rename_i ds e
      obtain ⟨a, xs, rfl, ha, q⟩ := deref_rr rep r e
      exact ⟨a, xs, rfl, .inl ⟨.of ha, callD ds, fun l o nl ho => mkB_fin rep nl q ho c⟩⟩
    · rename_i ds e
      obtain ⟨a, xs, rfl, na, ha, q⟩ := rr_tup (deref_rr rep r e)
      exact ⟨a, xs, rfl, .inr ⟨ha.sq, c.here rep (.tup na ha q)⟩⟩
    · exact c.no.elim
  · exact c.no.elim
def listW (m : Bool) (ws : List W) (h : Hh) : Option (W × Hh) := match ws with
  | [w] => match deref h w with
    | some (.list ds) => mkL m ds h
    | some (.tuple ds) => mkL m ds h
    | _ => none
  | _ => none
theorem s_list (m : Bool) : SemA (fun xs H Q => ∃ p ys, xs = [.ref p] ∧ (SqL X.K H p ys ∨ SqT X.K H p ys) ∧ ∀ l, H l = none → Q (.ref l) (upd H l (.lst ys))) (listW m) := by
  intro M H h vs ws Q rep rv c
  unfold listW at c
  split at c
  · obtain ⟨v, rfl, r⟩ := rvs1 rv
    split at c
    · rename_i ds e
      obtain ⟨a, xs, rfl, ha, q⟩ := deref_rr rep r e
      exact ⟨a, xs, rfl, .inl (.of ha), fun l nl => mkL_fin rep nl q c⟩
    · rename_i ds e
      obtain ⟨a, xs, rfl, na, ha, q⟩ := rr_tup (deref_rr rep r e)
      exact ⟨a, xs, rfl, .inr ha.sq, fun l nl => mkL_fin rep nl q c⟩
    · exact c.no.elim
  · exact c.no.elim
def putK' (es : List (D × D)) (k : Key) (v : D) : List (D × D) := if (getK es k).isSome = true then es.map (fun e => if dKey e.1 = some k then (e.1, v) else e) else es ++ [(kP k, v)]
def pairsK : List D → Option (List (Key × D))
  | [] => some []
  | .tuple [k, v] :: ds => match dKey k, pairsK ds with
    | some k, some r => some ((k, v) :: r)
    | _, _ => none
  | _ :: _ => none
def mergeD (es : List (D × D)) (ps : List (Key × D)) : List (D × D) := ps.foldl (fun acc p => putK' acc p.1 p.2) es
section
variable {M : Mm} {H : Hp}
theorem RDo.some_iff {o : Option V} {p : Option D} (r : RDo M H o p) : o.isSome = p.isSome := by
  cases o <;> cases p <;> first | rfl | exact r.elim
theorem RDk.snoc {k : Key} {v : V} {d : D} (q : RD M H v d) : ∀ {kvs : List (Key × V)} {es : List (D × D)}, RDk M H kvs es → RDk M H (kvs ++ [(k, v)]) (es ++ [(kP k, d)])
  | _, _, .nil => .cons q .nil
  | _, _, .cons a t => .cons a (RDk.snoc q t)
theorem RDk.repl {k : Key} {v : V} {d : D} (q : RD M H v d) : ∀ {kvs : List (Key × V)} {es : List (D × D)}, RDk M H kvs es → RDk M H (kvs.map fun kv => if kv.1 = k then (kv.1, v) else kv) (es.map fun e => if dKey e.1 = some k then (e.1, d) else e)
  | _, _, .nil => .nil
  | _, _, .cons (k := j) a t => by
    simp only [List.map_cons, dKey_kP, Option.some.injEq]
    by_cases e : j = k
    · rw [if_pos e, if_pos e]; exact .cons q (RDk.repl q t)
    · rw [if_neg e, if_neg e]; exact .cons a (RDk.repl q t)
theorem RDk.put {kvs : List (Key × V)} {es : List (D × D)} (r : RDk M H kvs es) (k : Key) {v : V} {d : D} (q : RD M H v d) : RDk M H (putK kvs k v) (putK' es k d) := by
  unfold putK putK'
  rw [valV_any, (r.val k).some_iff]
  split
  · exact r.repl q
  · exact r.snoc q
theorem RDk.merge : ∀ {ps : List (Key × V)} {qs : List (Key × D)} {kvs : List (Key × V)} {es : List (D × D)}, Paired (fun p q => p.1 = q.1 ∧ RD M H p.2 q.2) ps qs → RDk M H kvs es → RDk M H (mergeK kvs ps) (mergeD es qs)
  | _, _, _, _, .nil, r => r
  | (k, v) :: ps, (k', d) :: qs, kvs, es, .cons ⟨e, q⟩ t, r => by
    have e' : k = k' := e
    subst e'
    show RDk M H (mergeK (putK kvs k v) ps) (mergeD (putK' es k d) qs)
    exact RDk.merge t (r.put k q)
theorem pairs_ok : ∀ {xs : List V} {ds : List D} {qs : List (Key × D)}, RDs M H xs ds → pairsK ds = some qs → ∃ (ps : List Addr) (kvs : List (Key × V)), xs = ps.map V.ref ∧ Paired (fun p kv => Rd H p (.tup [kV kv.1, kv.2])) ps kvs ∧ Paired (fun (p : Key × V) (q : Key × D) => p.1 = q.1 ∧ RD M H p.2 q.2) kvs qs
  | _, [], _, r, e => by
    cases e; cases r
    exact ⟨[], [], rfl, .nil, .nil⟩
  | _, d :: ds, qs, r, e => by
    unfold pairsK at e
    split at e
    · cases e
      rename_i h1
      cases h1
    · rename_i k v ds' h0
      cases h0
      split at e
      · rename_i k' r' e1 e2
        cases e
        cases r with
        | cons a t =>
          obtain ⟨ps, kvs, hx, h1, h2⟩ := pairs_ok t e2
          have := kP_dKey e1
          subst this
          cases a with
          | tup n ha ra =>
            cases ra with
            | cons rk rr =>
              cases rr with
              | cons rv rr =>
                cases rr
                have ha := ha.rd
                rw [rd_kP rk] at ha
                exact ⟨_ :: ps, (k', _) :: kvs, by rw [hx]; rfl, .cons ha h1, .cons ⟨rfl, rv⟩ h2⟩
      · cases e
    · cases e
end
def mkK (m : Bool) (es : List (D × D)) (h : Hh) : Option (W × Hh) := if m = true then some (.ref h.length, h ++ [some (.dic es)]) else some (.dat (.dict es), h)
theorem mkK_fin {m : Bool} {es : List (D × D)} {h : Hh} {M : Mm} {H : Hp} {Q : VK} {p : Addr} {kvs : List (Key × V)} (rep : Rep M H h) (n : H p = none) (r : RDk M H kvs es) (c : Cont RV (mkK m es h) M H Q) : Q (.ref p) (upd H p (.dK kvs)) := by
  cases m with
  | false => exact c.fin (ext_new n) (rep.upd_new n) (RD.dic (rep.new n) upd_same (r.mono (ext_new n).ext))
  | true => exact c.fin (ext_add n) (rep.add n ⟨kvs, upd_same, r.mono (ext_add n).ext⟩) ⟨p, by simp [Mm.more, ← rep.len], rfl⟩
def dictW (m : Bool) (ws : List W) (h : Hh) : Option (W × Hh) := match ws with
  | [w] => match deref h w with
    | some (.list ds) => match pairsK ds with
      | some qs => mkK m (mergeD [] qs) h
      | none => none
    | some (.dict es) => if isT es = true then none else mkK m es h
    | _ => none
  | _ => none
section
variable {X : Cx}
theorem s_dict (m : Bool) : SemA (fun xs H Q => (∃ (a : Addr) (ps : List Addr) (kvs : List (Key × V)), xs = [.ref a] ∧ SqL X.K H a (ps.map V.ref) ∧ Paired (fun p kv => SqT X.K H p [kV kv.1, kv.2]) ps kvs ∧
    ∀ p, H p = none → Q (.ref p) (upd H p (.dK (mergeK [] kvs)))) ∨ ∃ (a : Addr) (kvs : List (Key × V)), xs = [.ref a] ∧ Rd H a (.dK kvs) ∧ ∀ p, H p = none → Q (.ref p) (upd H p (.dK kvs))) (dictW m) := by
  intro M H h vs ws Q rep rv c
  unfold dictW at c
  split at c
  · obtain ⟨v, rfl, r⟩ := rvs1 rv
    split at c
    · rename_i ds e
      obtain ⟨a, xs, rfl, ha, q⟩ := deref_rr rep r e
      split at c
      · rename_i qs e2
        obtain ⟨ps, kvs, rfl, h1, h2⟩ := pairs_ok q e2
        exact .inl ⟨a, ps, kvs, rfl, .of ha, Paired.mapP h1 fun _ _ z => .inl z, fun p np => mkK_fin rep np (RDk.merge h2 .nil) c⟩
      · exact c.no.elim
    · rename_i es e
      split at c
      · exact c.no.elim
      · rename_i ht
        rcases deref_rr rep r e with ⟨a, kvs, rfl, ha, q⟩ | ⟨a, kvs, es', rfl, rfl, ha, q⟩
        · exact .inr ⟨a, kvs, rfl, .of ha, fun p np => mkK_fin rep np q c⟩
        · exact absurd rfl ht
    · exact c.no.elim
  · exact c.no.elim
def tyN : D → String
  | .none => "NoneType"
  | .bool _ => "bool"
  | .int _ => "int"
  | .str _ => "str"
  | .list _ => "list"
  | .tuple _ => "tuple"
  | .dict _ => "dict"
def isN (n t : String) : Bool := decide (n = t) || (decide (n = "bool") && decide (t = "int"))
def isT1 (t : String) (d : D) : Bool := isN (tyN d) t
theorem kitN : ∀ n ∈ ["NoneType", "bool", "int", "str", "list", "tuple", "dict"], ∀ t ∈ ["bool", "int", "str", "list", "tuple", "dict"], kitB n t = some (isN n t) := by decide +kernel
theorem rr_ty {K : PySem.W.Frag} {M : Mm} {H : Hp} {v : V} : ∀ {d : D}, (∀ es, d = .dict ((.none, .none) :: es) → False) → RR M H v d → TyX K H v (.type (tyN d))
  | .none, _, r => by rw [rr_non r]; exact .base .non
  | .bool b, _, r => by rw [rr_bl r]; exact .base (.bl b)
  | .int b, _, r => by rw [rr_int r]; exact .base (.int b)
  | .str b, _, r => by rw [rr_str r]; exact .base (.str b)
  | .list b, _, ⟨a, xs, e, h, _⟩ => by rw [e]; exact .base (.lst h)
  | .tuple b, _, r => by
    obtain ⟨a, xs, e, _, h, _⟩ := rr_tup r
    rw [e]
    rcases h with ⟨_, h⟩ | ⟨_, o, _, h⟩
    · exact .base (.tup h)
    · exact .fTuple h
  | .dict b, _, .inl ⟨a, xs, e, h, _⟩ => by rw [e]; exact .base (.dK h)
  | .dict b, n0, .inr ⟨a, xs, es, e0, e, h, _⟩ => by subst e0; exact (n0 _ rfl).elim
theorem kit1 (t : String) (ht : t = "int" ∨ t = "bool" ∨ t = "str" ∨ t = "list" ∨ t = "tuple" ∨ t = "dict") (d : D) : kitB (tyN d) t = some (isT1 t d) := by
  refine kitN (tyN d) ?_ t ?_
  · cases d <;> simp [tyN]
  · rcases ht with rfl | rfl | rfl | rfl | rfl | rfl <;> simp
def isiW (ts : List String) (w : W) (h : Hh) : Option (W × Hh) := match deref h w with
  | some (.dict ((.none, .none) :: _)) => none
  | some d => bok (ts.any fun t => isT1 t d) h
  | none => none
def f1 (sem : W → Hh → Option (W × Hh)) (f : EM) : EM := fun ρ h => obnd (f ρ h) sem
theorem d_isi (hm : X.mg "isinstance" = none) {t : Str} {T : String} (hmt : X.mg t = none) (hv : bootBuiltins t = some (.type T)) (ht : T = "int" ∨ T = "bool" ∨ T = "str" ∨ T = "list" ∨ T = "tuple" ∨ T = "dict") {p pt pos : Pos} {e : Expr} {f : EM} (he : DE X e f)
    (hg : Gl X "isinstance" := by rfl) (hgt : Gl X t := by rfl) (hnt : t ≠ "__name__" := by decide) (hdt : (t == ("__debug__" : Str)) = false := by decide)
    (h1 : starEach [e, .Name t pt] X.env = (false, eval e X.env) :: starEach [.Name t pt] X.env := by rfl) (h2 : starEach [.Name t pt] X.env = (false, eval (.Name t pt) X.env) :: starEach [] X.env := by rfl)
    (hpl : (backTo pos (starEach [.Name t pt] X.env)).any (·.1) = false := by rfl) : DE X (.Call (.Name "isinstance" p) [e, .Name t pt] [] pos) (f1 (isiW [T]) f) :=
  (pe_callB call_isi hg hm boot_isinstance (pa_cons he (pa_cons (pe_bltn (v := .ty T) hgt hmt hv rfl hnt hdt) pa_nil h2) h1) (by decide) (by decide) h1 hpl).weak fun σ H Q => by
    rintro ⟨M, h, ρ, r, rs, c⟩
    obtain ⟨w, h1, e1, c1⟩ := Cont.bind (δ := Unit) c
    refine ⟨M, h, ρ, r, rs, w, h1, e1, fun M1 H1 v x1 r1 v1 => ?_⟩
    have c2 := c1 M1 H1 x1
    unfold isiW at c2
    split at c2
    · exact c2.no.elim
    · rename_i d n0 e
      have q := c2.here r1 (.bl _)
      refine ⟨v, .ty T, _, _, _, rfl, .ty T, (rr_ty n0 (deref_rr r1 v1 e)), kit_ty (kit1 T ht d), ?_⟩
      simpa using q
    · exact c2.no.elim
theorem d_isi2 (hm : X.mg "isinstance" = none) {t t' : Str} {T T' : String} (hmt : X.mg t = none) (hv : bootBuiltins t = some (.type T)) (ht : T = "int" ∨ T = "bool" ∨ T = "str" ∨ T = "list" ∨ T = "tuple" ∨ T = "dict") (hmt' : X.mg t' = none) (hv' : bootBuiltins t' = some (.type T')) (ht' : T' = "int" ∨ T' = "bool" ∨ T' = "str" ∨ T' = "list" ∨ T' = "tuple" ∨ T' = "dict") {p pt pt' ptt pos : Pos} {kt} {e : Expr} {f : EM} (he : DE X e f)
    (hg : Gl X "isinstance" := by rfl) (hgt : Gl X t := by rfl) (hnt : t ≠ "__name__" := by decide) (hdt : (t == ("__debug__" : Str)) = false := by decide) (hgt' : Gl X t' := by rfl) (hnt' : t' ≠ "__name__" := by decide) (hdt' : (t' == ("__debug__" : Str)) = false := by decide)
    (h1 : starEach [e, .Tuple [.Name t pt, .Name t' pt'] kt ptt] X.env = (false, eval e X.env) :: starEach [.Tuple [.Name t pt, .Name t' pt'] kt ptt] X.env := by rfl)
    (h2 : starEach [.Tuple [.Name t pt, .Name t' pt'] kt ptt] X.env = (false, eval (.Tuple [.Name t pt, .Name t' pt'] kt ptt) X.env) :: starEach [] X.env := by rfl)
    (h3 : starEach [.Name t pt, .Name t' pt'] X.env = (false, eval (.Name t pt) X.env) :: starEach [.Name t' pt'] X.env := by rfl) (h4 : starEach [.Name t' pt'] X.env = (false, eval (.Name t' pt') X.env) :: starEach [] X.env := by rfl)
    (hpl : (backTo pos (starEach [.Tuple [.Name t pt, .Name t' pt'] kt ptt] X.env)).any (·.1) = false := by rfl) : DE X (.Call (.Name "isinstance" p) [e, .Tuple [.Name t pt, .Name t' pt'] kt ptt] [] pos) (f1 (isiW [T, T']) f) :=
  (pe_callB call_isiT hg hm boot_isinstance (pa_cons he (pa_cons (pe_tup (pa_cons (pe_bltn (v := .ty T) hgt hmt hv rfl hnt hdt) (pa_cons (pe_bltn (v := .ty T') hgt' hmt' hv' rfl hnt' hdt') pa_nil h4) h3)) pa_nil h2) h1) (by decide) (by decide) h1 hpl).weak fun σ H Q => by
    rintro ⟨M, h, ρ, r, rs, c⟩
    obtain ⟨w, h1, e1, c1⟩ := Cont.bind (δ := Unit) c
    refine ⟨M, h, ρ, r, rs, w, h1, e1, fun M1 H1 v x1 r1 v1 => ⟨by show 2 ≤ sizeLine; decide, fun tp ntp => ?_⟩⟩
    have c2 := c1 M1 H1 x1
    unfold isiW at c2
    split at c2
    · exact c2.no.elim
    · rename_i d n0 e
      have r2 := r1.upd_new (o := .tup [.ty T, .ty T']) ntp
      have q := c2.fin (v := .bl _) (ext_new ntp) r2 (.bl _)
      refine ⟨v, tp, [.ty T, .ty T'], _, [.type T, .type T'], _, rfl, upd_same, .cons (.ty T) (.cons (.ty T') .nil), (rr_ty n0 (deref_rr r2 (v1.mono (ext_new ntp)) e)), ?_, q⟩
      refine kitAny_cons (kit_ty (kit1 T ht d)) (fun hb => kitAny_cons (r := isT1 T' d) (kit_ty (kit1 T' ht' d)) (fun hb' => by rw [hb']; rfl) (fun hb' => hb') |>.trans ?_) (fun hb => ?_)
      · simp [hb]
      · simp [hb]
    · exact c2.no.elim
end
end
end DL
set_option maxRecDepth 100000
set_option maxHeartbeats 4000000
namespace DL
open PySem PySem.Spec PyProof.Rows L2
variable [HW]
def flatD : D → Bool
  | .none => true
  | .bool _ => true
  | .int _ => true
  | .str _ => true
  | _ => false
theorem rd_flat {M : Mm} {H : Hp} {v : V} {d : D} (r : RD M H v d) (f : flatD d = true) : flatV v = true := by
  cases d <;> first | (cases r; rfl) | cases f
theorem rds_flat {M : Mm} {H : Hp} : ∀ {vs : List V} {ds : List D}, RDs M H vs ds → ds.all flatD = true → vs.all flatV = true
  | _, _, .nil, _ => rfl
  | _, _, .cons a t, f => by
    rw [List.all_cons, Bool.and_eq_true] at f
    rw [List.all_cons, rd_flat a f.1, rds_flat t f.2]; rfl
theorem eqV_eqv {M : Mm} {H : Hp} {x y : V} {a b : D} (ra : RD M H x a) (rb : RD M H y b) (fa : flatD a = true) (fb : flatD b = true) : eqV x y = PyData.eqv a b := by
  cases a <;> cases b <;> first | (exfalso; simp [flatD] at fa; done) | (exfalso; simp [flatD] at fb; done) | (cases ra; cases rb; simp [eqV, PyData.eqv])
theorem inV_eq {M : Mm} {H : Hp} {x : V} {d : D} (r : RD M H x d) (f : flatD d = true) : ∀ {vs : List V} {ds : List D}, RDs M H vs ds → ds.all flatD = true → inV x vs = ds.any fun y => PyData.eqv y d
  | _, _, .nil, _ => rfl
  | _, _, .cons a t, q => by
    rw [List.all_cons, Bool.and_eq_true] at q
    have ih := inV_eq r f t q.2
    unfold inV at ih ⊢
    rw [List.any_cons, List.any_cons, ih, eqV_eqv a r q.1 f]
def inW (neg : Bool) (x y : W) (h : Hh) : Option (W × Hh) := match x with
  | .dat d => match deref h y with
    | some (.dict es) => match getD es d with
      | some o => bok (if neg = true then !o.isSome else o.isSome) h
      | none => none
    | some (.list ds) => if (flatD d && ds.all flatD) = true then bok (if neg = true then !ds.any (fun z => PyData.eqv z d) else ds.any fun z => PyData.eqv z d) h
      else if (shp d && shp (.list ds)) = true then bok (if neg = true then !ds.any (fun z => PyData.eqv z d) else ds.any fun z => PyData.eqv z d) h else none
    | some (.tuple ds) => if (flatD d && ds.all flatD) = true then bok (if neg = true then !ds.any (fun z => PyData.eqv z d) else ds.any fun z => PyData.eqv z d) h else none
    | some (.str z) => match d with
      | .str ⟨⟨[c]⟩⟩ => bok (if neg = true then !decide (c ∈ z.cps.toList) else decide (c ∈ z.cps.toList)) h
      | _ => none
    | _ => none
  | _ => none
section
variable {X : Cx}
def rInDict (neg : Bool) : R2 := fun y x H Q => ∃ a o, x = .ref a ∧ DGetX H a y o ∧ Q (.bl (if neg = true then !o.isSome else o.isSome)) H
theorem op_notInDict (hu : X.A.units + 1 < cLine) (W : HWX X) : OpR X (compareOp .NotIn) (rInDict true) := by
  intro pins s σ H x y v u Q I rx ry q
  obtain ⟨a, o, rfl, g, q⟩ := q
  obtain rfl : u = Value.ref a := ry
  exact dx_notIn hu W I g rx fun s' I' => ⟨.bl _, H, I', rfl, q⟩
def rInA (K : PySem.W.Frag) (neg : Bool) : R2 := fun x y H Q => rIn K neg x y H Q ∨ rInDict neg x y H Q ∨
  (∃ d ds, Dp K H x d ∧ Dp K H y (.list ds) ∧ SeqAt.shaped d = true ∧ SeqAt.shaped (.list ds) = true ∧ Q (.bl (if neg = true then !ds.any (fun z => PyData.eqv z d) else ds.any fun z => PyData.eqv z d)) H) ∨
  ∃ c z, x = .str ⟨#[c]⟩ ∧ y = .str z ∧ Q (.bl (if neg = true then !decide (c ∈ z.cps.toList) else decide (c ∈ z.cps.toList))) H
theorem o_notin {k : Nat} (hr : Room k X.A) (W : HWX X := by exact ⟨rfl, rfl⟩) : OpR X (compareOp .NotIn) (rInA X.K true) :=
  op_notIn_seq.or ((op_notInDict (hu_of hr) W).or ((op_notInD (Nat.lt_of_le_of_lt (Nat.add_le_add_left (by decide) _) (show X.A.units + 200 < cLine by have := hr.un; omega))).or op_notIn_sign))
theorem s_in (neg : Bool) : Sem2 (rInA X.K neg) (inW neg) := by
  intro M H h x y wx wy Q rep rx ry c
  unfold inW at c
  split at c
  · rename_i d
    split at c
    · rename_i es e
      split at c
      · rename_i o eo
        obtain ⟨a, ov, rfl, g, ro⟩ := get_ok (deref_rr rep ry e) rx eo
        refine .inr (.inl ⟨a, ov, rfl, g, ?_⟩)
        rw [ro.some_iff]
        exact c.here rep (.bl _)
      · exact c.no.elim
    · rename_i ds e
      obtain ⟨a, xs, rfl, ha, q⟩ := deref_rr rep ry e
      split at c
      · rename_i hz
        rw [Bool.and_eq_true] at hz
        refine .inl ⟨a, xs, rfl, .inl (.of ha), rd_flat rx hz.1, rds_flat q hz.2, ?_⟩
        rw [inV_eq rx hz.1 q hz.2]
        cases neg <;> exact c.here rep (.bl _)
      · split at c
        · rename_i hz
          rw [Bool.and_eq_true] at hz
          exact .inr (.inr (.inl ⟨d, ds, RD.dp rx (SeqAt.canLay_of_shaped hz.1), rr_dp (deref_rr rep ry e) (SeqAt.canLay_of_shaped hz.2), hz.1, hz.2, c.here rep (.bl _)⟩))
        · exact c.no.elim
    · rename_i ds e
      obtain ⟨a, xs, rfl, _, ha, q⟩ := rr_tup (deref_rr rep ry e)
      split at c
      · rename_i hz
        rw [Bool.and_eq_true] at hz
        refine .inl ⟨a, xs, rfl, .inr ha.sq, rd_flat rx hz.1, rds_flat q hz.2, ?_⟩
        rw [inV_eq rx hz.1 q hz.2]
        cases neg <;> exact c.here rep (.bl _)
      · exact c.no.elim
    · rename_i z e
      obtain rfl := rr_str (deref_rr rep ry e)
      split at c
      · rename_i ch
        cases (show RD M H _ _ from rx)
        exact .inr (.inr (.inr ⟨ch, z, rfl, rfl, c.here rep (.bl _)⟩))
      · exact c.no.elim
    · exact c.no.elim
  · exact c.no.elim
theorem t_notin {k : Nat} (hr : Room k X.A) {a b : Expr} {pos : Pos} {f g : EM} (ha : DE X a f) (hb : DE X b g) (hm : behindInMarks .NotIn b = false := by rfl) (W : HWX X := by exact ⟨rfl, rfl⟩) : DT X (.Compare a [.NotIn] [b] pos) (fB (f2 (inW true) f g)) := dt_of_cmp (o_notin hr W) (s_in true) ha hb hm
theorem collect_grown {prog : Program} {w : World} {A : Around} {E : Value → Shared → Prop} {s : Shared} {Q : List Value → Shared → Prop} (it : Addr) {T : String} {o : Obj} {its : Array Value} {n : Nat} (hT : T = "list" ∨ T = "tuple") (ho : s.heap.get? it = some o) (hc : o.cls = .type T) (hd : o.data = .seq its n) (hsz : its.size ≤ sizeLine)
    (hQ : ∀ h', s.heap.objs.size ≤ h'.objs.size → (∀ b o', s.heap.get? b = some o' → h'.get? b = some o') → Q its.toList { s with heap := h' }) : wpAny (model prog w) A (collect (.ref it)) Q E s := by
  let g0 : Heap := s.heap.push { cls := .type "list", data := .seq ([] : List Value).toArray }
  let g1 : Heap := g0.update s.heap.objs.size (Obj.mapSeq (· ++ its))
  have a0 : g0.get? s.heap.objs.size = some { cls := .type "list", data := .seq #[] 0 } := Heap.get?_push_size _ rfl
  have a1 : g1.get? s.heap.objs.size = _ := Heap.get?_update_self (Obj.mapSeq (· ++ its)) a0 rfl
  have last : wpAny (model prog w) A (match Value.ref s.heap.objs.size with
      | Value.ref a => do
        match (← load a).data with
          | Data.seq xs _ => pure xs.toList
          | _ => unsupported "internal:collect"
      | _ => unsupported "internal:collect") Q E { s with heap := g1 } := by
    show wpAny _ A (load s.heap.objs.size >>= _) _ _ _
    refine wpAny_bind (wpAny_load a1 (wpAny_pure ?_))
    have e : ((#[] : Array Value) ++ its).toList = its.toList := by simp
    show Q ((#[] : Array Value) ++ its).toList _
    rw [e]
    refine hQ g1 ?_ fun b o' hb => (Heap.get?_update_other _ _ (Nat.ne_of_gt (Heap.lt_size hb))).trans (Heap.get?_push_of_some _ hb)
    show _ ≤ (g0.update s.heap.objs.size (Obj.mapSeq (· ++ its))).objs.size
    rw [Heap.size_update, size_push']
    exact Nat.le_succ _
  unfold collect
  refine wpAny_bind (wpAny_runValue (codeAny_builtin F.entry_proto_collect ?_))
  rw [Around.under_plainId F.plain_proto_collect _]
  show wpAny _ A.in1 (newList [] >>= fun l => again (.builtin "list.__iadd__" ⟨[l, .ref it], []⟩)) _ _ s
  refine wpAny_bind (wpAny_newObj_type (wpAny_pure ⟨plainId_quiet F.plain_list_iadd _, codeAny_builtin F.entry_list_iadd ?_⟩))
  rw [Around.under_plainId F.plain_list_iadd _]
  show wpAny _ A.in1 (Builtin.List.listExtendWith (.ref s.heap.objs.size) (.ref it) (.ref s.heap.objs.size)) _ _ _
  refine wpAny_mono (wpAny_extend_seq (hsz := hsz) (A := A) (R := fun r s' => r = .ok (.ret (.ref s.heap.objs.size)) ∧ s' = { s with heap := g1 }) (s := { s with heap := g0 }) _ it _ 0 hT a0 (Heap.get?_push_of_some _ ho) hc hd ⟨rfl, rfl⟩) (fun fin s' q => ?_) fun e s' q => absurd q.1 (by simp)
  cases fin with
  | done f => obtain ⟨e, rfl⟩ := q; cases e; exact last
  | again c' => exact ⟨q.1, codeAny_mono q.2 fun r s2 hr => by obtain ⟨rfl, rfl⟩ := hr; exact last⟩
theorem sorted_any {prog : Program} {w : World} {A : Around} {E : Value → Shared → Prop} {s : Shared} {x : Value} {β : Type} {R : Value → β → Prop} {vs : List Value} {bs : List β} {enc : β → PyData} {Q : Value → Shared → Prop}
    (hcol : ∀ (Q' : List Value → Shared → Prop), (∀ h', s.heap.objs.size ≤ h'.objs.size → (∀ b o, s.heap.get? b = some o → h'.get? b = some o) → Q' vs { s with heap := h' }) → wpAny (model prog w) A.in1 (collect x) Q' E s)
    (e : PySem.W.EachIs R vs bs) (er : PySem.W.EachIs (fun v b => ∃ as, Reads s.heap v (enc b) as) vs bs) (hal : PySem.W.AllAlike (bs.map enc)) (hk : PySem.W.Sortable (bs.map enc)) (hL : bs.length ≤ sizeLine) (hu : ∀ b, b ∈ bs → A.units + 2 + (enc b).depth < cLine)
    (h : ∀ out p c h', (∀ b o, s.heap.get? b = some o → h'.get? b = some o) → s.heap.objs.size ≤ p → h'.get? p = some (seqObj "list" (List.toArray out) c) → PySem.W.EachIs R out (bs.mergeSort (PySem.W.dataLe false enc)) → Q (.ref p) { s with heap := h' }) :
    wpAny (model prog w) A (call (.builtin "sorted") [x]) Q E s := by
  refine call_function_entry_kw kind_sorted plain_sorted entry_sorted (args_sorted1 _) ?_
  have hv : vs.length ≤ sizeLine := by rw [e.length]; exact hL
  unfold Builtin.«sorted»
  refine wpAny_bind (m := checkCount "sorted" 1 1 _) (wpAny_pure (wpAny_bind (hcol _ fun g hg kg => wpAny_bind (wpAny_newList ?_ hv))))
  have at_ : (g.push (seqObj "list" vs.toArray 0)).get? g.objs.size = some (seqObj "list" vs.toArray 0) := Heap.get?_push_size _ rfl
  have up : ∀ b o, s.heap.get? b = some o → b ≠ g.objs.size ∧ (g.push (seqObj "list" vs.toArray 0)).get? b = some o := fun b o q => ⟨Nat.ne_of_lt (Heap.lt_size (kg b o q)), Heap.get?_push_of_some _ (kg b o q)⟩
  have er' : PySem.W.EachIs (fun v b => ∃ as, Reads (PySem.W.sortingHeap (g.push (seqObj "list" vs.toArray 0)) g.objs.size vs) v (enc b) as) vs bs := er.mono fun _ _ ⟨as, r⟩ => ⟨as, PyProof.Rows.Reads.keeps (fun b o q => PySem.W.sortingHeap_old (up b o q).1 (up b o q).2) r⟩
  refine wpAny_bind (wpAny_holding (wpAny_call_entry_kw slot_list_sort ⟨_, at_, rfl⟩ entry_list_sort ?_ (args_list_sort _)))
  refine PySem.W.list_sort_vals (s := { s with heap := g.push (seqObj "list" vs.toArray 0) }) at_ (PySem.W.SortsAt.data (s := { s with heap := PySem.W.sortingHeap (g.push (seqObj "list" vs.toArray 0)) g.objs.size vs }) (PySem.W.each_map (R := fun v d => ∃ as, Reads (PySem.W.sortingHeap (g.push (seqObj "list" vs.toArray 0)) g.objs.size vs) v d as) enc er') hal hk (PySem.W.bound_map (A := A.in1.in1) hu)) hv ?_
  refine ⟨_, rfl, wpAny_pure ⟨_, rfl, ?_⟩⟩
  obtain ⟨c, hc⟩ := sortedHeap_at (vs := vs) (out := (PySem.W.sortVals (PySem.W.dataKind (PySem.W.sortingHeap (g.push (seqObj "list" vs.toArray 0)) g.objs.size vs) (bs.map enc)) false vs vs).toArray) at_
  exact h _ _ c _ (fun b o q => by rw [sortedHeap_old (up b o q).1 (Heap.lt_size (up b o q).2)]; exact (up b o q).2) hg hc (PySem.W.sortVals_data false e er' hal)
def rSortedA (K : PySem.W.Frag) : List V → Hp → VK → Prop := fun vs H Q => ∃ (a : Addr) (bs : List (V × D)), vs = [.ref a] ∧ (SqL K H a (bs.map (·.1)) ∨ SqT K H a (bs.map (·.1))) ∧ (∀ b ∈ bs, Dp K H b.1 b.2) ∧ PySem.W.AllAlike (bs.map (·.2)) ∧ PySem.W.Sortable (bs.map (·.2)) ∧
  (∀ b ∈ bs, b.2.depth ≤ 64) ∧ ∀ p, H p = none → Q (.ref p) (upd H p (.lst ((bs.mergeSort (PySem.W.dataLe false (·.2))).map (·.1))))
theorem each_zip {I : Prop} {s : Shared} {K : PySem.W.Frag} {H : Hp} (rd : ∀ (d : D) (v : V) (u : Value), Dp K H v d → RelV v u → ∃ as, Reads s.heap u d as) : ∀ {bs : List (V × D)} {its : List Value}, Vals (bs.map (·.1)) its → (∀ b ∈ bs, Dp K H b.1 b.2) →
    PySem.W.EachIs (fun (u : Value) (b : V × D) => RelV b.1 u) its bs ∧ PySem.W.EachIs (fun (u : Value) (b : V × D) => ∃ as, Reads s.heap u b.2 as) its bs
  | [], _, r, _ => by cases r; exact ⟨.nil, .nil⟩
  | b :: bs, _, r, q => by
    cases r with
    | cons r1 r2 =>
      obtain ⟨h1, h2⟩ := each_zip (I := I) rd r2 fun b hb => q b (List.mem_cons_of_mem _ hb)
      exact ⟨.cons r1 h1, .cons (rd _ _ _ (q b List.mem_cons_self) r1) h2⟩
theorem each_vals : ∀ {out : List Value} {bs : List (V × D)}, PySem.W.EachIs (fun (u : Value) (b : V × D) => RelV b.1 u) out bs → Vals (bs.map (·.1)) out
  | _, _, .nil => .nil
  | _, _, .cons a t => .cons a (each_vals t)
theorem cr_sortedA {k : Nat} (hr : Room k X.A) : CallR X (.builtin "sorted") (rSortedA X.K) := by
  intro pins s σ H vs us Q I rv q
  obtain ⟨a, bs, rfl, hs, hd, hal, hk, hdep, q⟩ := q
  obtain rfl := Vals.ref1 rv
  obtain ⟨its, T, o, n, vl, ho, hc, hdat, hT, hz⟩ : ∃ (its : List Value) (T : String) (o : Obj) (n : Nat), Vals (bs.map (·.1)) its ∧ s.heap.get? a = some o ∧ o.cls = .type T ∧ o.data = .seq its.toArray n ∧ (T = "list" ∨ T = "tuple") ∧ (bs.map (·.1)).length ≤ sizeLine := by
    rcases hs with hs | hs
    · obtain ⟨its, vl, ⟨o, n, h1, h2, _, h3⟩, hz⟩ := I.list hs
      exact ⟨its, "list", o, n, vl, h1, h2, h3, .inl rfl, hz⟩
    · obtain ⟨its, vl, ⟨o, h1, h2, n, h3⟩, hz⟩ := I.tuple hs
      exact ⟨its, "tuple", o, n, vl, h1, h2, h3, .inr rfl, hz⟩
  have hl : bs.length ≤ sizeLine := by rw [List.length_map] at hz; exact hz
  obtain ⟨e1, e2⟩ := each_zip (I := True) (fun d v u => Dp.reads I d v u) vl hd
  refine sorted_any (x := .ref a) (vs := its) (bs := bs) (enc := (·.2)) (fun Q' k => collect_grown a hT ho hc hdat (by have := vl.length; simp only [List.size_toArray]; omega) fun h' hz kh => k h' hz kh) e1 e2 hal hk hl (fun b hb => by have := hr.un; have := hdep b hb; show X.A.units + 2 + b.2.depth < cLine; omega) fun out p c h' kp hp hD eo => ?_
  have vo := each_vals eo
  have hlen : ((bs.mergeSort (PySem.W.dataLe false (·.2))).map (·.1)).length ≤ sizeLine := by rw [List.length_map, List.length_mergeSort]; exact hl
  exact ⟨.ref p, upd H p (.lst ((bs.mergeSort (PySem.W.dataLe false (·.2))).map (·.1))), I.laid (t' := s.toks) kp hp ⟨hlen, out, c, vo, hD⟩, rfl, q p (I.hok.fresh hp)⟩
noncomputable def sortD (ds : List D) : List D := ds.mergeSort (PySem.W.dataLe false fun d => d)
def sortable (ds : List D) : Bool := (ds.all fun d => ds.all fun e => PySem.W.alike d e) && ((ds.all fun d => match d with | .tuple (_ :: _) => true | _ => false) || (ds.all fun d => match d with | .none => false | .tuple _ => false | _ => true)) && ds.all shp
noncomputable def sortW (m : Bool) (ws : List W) (h : Hh) : Option (W × Hh) := match ws with
  | [w] => match deref h w with
    | some (.list ds) => if sortable ds = true then mkL m (sortD ds) h else none
    | some (.tuple ds) => if sortable ds = true then mkL m (sortD ds) h else none
    | _ => none
  | _ => none
theorem rds_zip {M : Mm} {H : Hp} : ∀ {xs : List V} {ds : List D}, RDs M H xs ds → ∃ bs : List (V × D), xs = bs.map (·.1) ∧ ds = bs.map (·.2) ∧ ∀ b ∈ bs, RD M H b.1 b.2
  | _, _, .nil => ⟨[], rfl, rfl, fun b hb => by cases hb⟩
  | x :: xs, d :: ds, .cons a t => by
    obtain ⟨bs, e1, e2, q⟩ := rds_zip t
    refine ⟨(x, d) :: bs, by rw [e1]; rfl, by rw [e2]; rfl, fun b hb => ?_⟩
    rcases List.mem_cons.mp hb with rfl | hb
    · exact a
    · exact q b hb
theorem zip_rds {M : Mm} {H : Hp} : ∀ {bs : List (V × D)}, (∀ b ∈ bs, RD M H b.1 b.2) → RDs M H (bs.map (·.1)) (bs.map (·.2))
  | [], _ => .nil
  | b :: bs, q => .cons (q b List.mem_cons_self) (zip_rds fun c hc => q c (List.mem_cons_of_mem _ hc))
theorem sortable_ok {ds : List D} (h : sortable ds = true) : PySem.W.AllAlike ds ∧ PySem.W.Sortable ds ∧ ∀ d ∈ ds, shp d = true := by
  unfold sortable at h
  simp only [Bool.and_eq_true, Bool.or_eq_true, List.all_eq_true] at h
  obtain ⟨⟨h1, h2⟩, h3⟩ := h
  refine ⟨fun d hd d' hd' => h1 d hd d' hd', ?_, h3⟩
  rcases h2 with h2 | h2
  · refine .inl fun d hd => ?_
    have q := h2 d hd
    split at q
    · exact ⟨_, _, rfl⟩
    · cases q
  · refine .inr fun d hd => ⟨fun e => ?_, fun xs e => ?_⟩
    · subst e; exact absurd (h2 _ hd) (by simp)
    · subst e; exact absurd (h2 _ hd) (by simp)
theorem sort_imp {M : Mm} {H : Hp} {xs : List V} {ds : List D} {a : Addr} {m : Bool} {h : Hh} {Q : VK} (rep : Rep M H h) (q : RDs M H xs ds) (hs : SqL X.K H a xs ∨ SqT X.K H a xs) (hz : sortable ds = true) (c : Cont RV (mkL m (sortD ds) h) M H Q) : rSortedA X.K [.ref a] H Q := by
  obtain ⟨bs, rfl, rfl, qb⟩ := rds_zip q
  obtain ⟨h1, h2, h3⟩ := sortable_ok hz
  have h3' : ∀ b ∈ bs, shp b.2 = true := fun b hb => h3 _ (List.mem_map.mpr ⟨b, hb, rfl⟩)
  refine ⟨a, bs, rfl, hs, fun b hb => RD.dp (qb b hb) (SeqAt.canLay_of_shaped (h3' b hb)), h1, h2, fun b hb => SeqAt.depth_of_shaped (h3' b hb), fun p np => ?_⟩
  have e : sortD (bs.map (·.2)) = (bs.mergeSort (PySem.W.dataLe false (·.2))).map (·.2) := (PySem.W.sort_maps (r := PySem.W.dataLe false fun b : V × D => b.2) (s := PySem.W.dataLe false fun d : D => d) (fun b : V × D => b.2) (l := bs) fun _ _ _ _ => rfl).symm
  rw [e] at c
  exact mkL_fin rep np (zip_rds fun b hb => qb b ((List.mergeSort_perm bs _).mem_iff.mp hb)) c
theorem s_sorted (m : Bool) : SemA (rSortedA X.K) (sortW m) := by
  intro M H h vs ws Q rep rv c
  unfold sortW at c
  split at c
  · obtain ⟨v, rfl, r⟩ := rvs1 rv
    split at c
    · rename_i ds e
      obtain ⟨a, xs, rfl, ha, q⟩ := deref_rr rep r e
      split at c
      · rename_i hz
        exact sort_imp rep q (.inl (.of ha)) hz c
      · exact c.no.elim
    · rename_i ds e
      obtain ⟨a, xs, rfl, _, ha, q⟩ := rr_tup (deref_rr rep r e)
      split at c
      · rename_i hz
        exact sort_imp rep q (.inr ha.sq) hz c
      · exact c.no.elim
    · exact c.no.elim
  · exact c.no.elim
def isL (w : W) (h : Hh) : Bool := match deref h w with
  | some (.list _) => true
  | _ => false
def fM (chk : W → Hh → Bool) (sem : W → List W → Hh → Option (W × Hh)) (f : EM) (g : AM) : EM := fun ρ h => obnd (f ρ h) fun w h1 => if chk w h1 = true then obnd (g ρ h1) fun ws h2 => sem w ws h2 else none
def SemM (r : V → List V → Hp → VK → Prop) (sem : W → List W → Hh → Option (W × Hh)) : Prop := ∀ (M : Mm) (H : Hp) (h : Hh) (x : V) (w : W) (vs : List V) (ws : List W) (Q : VK), Rep M H h → RV M H x w → RVs M H vs ws → Cont RV (sem w ws h) M H Q → r x vs H Q
theorem isL_ty {K : PySem.W.Frag} {M : Mm} {H : Hp} {h : Hh} {v : V} {w : W} (rep : Rep M H h) (r : RV M H v w) (e : isL w h = true) : tyV K "list" v H := by
  unfold isL at e
  split at e
  · rename_i ds q
    obtain ⟨a, xs, rfl, ha, _⟩ := deref_rr rep r q
    exact .inl ⟨rfl, _, .of ha⟩
  · cases e
theorem meth_imp {K : PySem.W.Frag} {r : V → List V → Hp → VK → Prop} {sem : W → List W → Hh → Option (W × Hh)} {f : EM} {g : AM} (hs : SemM r sem) : ∀ σ H Q, tE (fM isL sem f g) σ H Q → tBM K "list" r (tE f) (tA g) σ H Q := fun σ H Q => by
  rintro ⟨M, h, ρ, r, rs, c⟩
  obtain ⟨w, h1, e1, c1⟩ := Cont.bind (δ := Unit) c
  refine ⟨M, h, ρ, r, rs, w, h1, e1, fun M1 H1 v x1 r1 v1 => ?_⟩
  have c2 := c1 M1 H1 x1
  split at c2
  · rename_i hl
    refine ⟨isL_ty r1 v1 hl, M1, h1, ρ, r1, rs.mono x1, ?_⟩
    obtain ⟨w2, h2, e2, c3⟩ := Cont.bind (δ := Unit) c2
    exact ⟨w2, h2, e2, fun M2 H2 v2 x2 r2 q2 => hs M2 H2 h2 _ w _ w2 Q r2 (v1.mono x2) q2 (c3 M2 H2 x2)⟩
  · exact c2.no.elim
def lstAt (h : Hh) (n : Nat) : Option (List D) := match h[n]? with
  | some (some (.lst ds)) => some ds
  | _ => none
theorem lstAt_ok {M : Mm} {H : Hp} {h : Hh} {n : Nat} {ds : List D} {a : Addr} (rep : Rep M H h) (e : lstAt h n = some ds) (ea : M.m[n]? = some (some a)) : ∃ xs, H a = some (.lst xs) ∧ RDs M H xs ds := by
  obtain ⟨o, ho, ro⟩ := rep.at_ n a ea
  unfold lstAt at e
  rw [ho] at e
  cases o with
  | lst ds' => cases e; exact ro
  | dic _ => cases e
  | dit _ => cases e
  | tab _ _ => cases e
  | ins _ _ => cases e
def setL (h : Hh) (n : Nat) (ds : List D) (r : D) : Option (W × Hh) := some (.dat r, h.set n (some (.lst ds)))
theorem setL_fin {M : Mm} {H : Hp} {h : Hh} {n : Nat} {a : Addr} {ds : List D} {d : D} {ys : List V} {v : V} {Q : VK} (rep : Rep M H h) (ea : M.m[n]? = some (some a)) (q : RDs M H ys ds) (rv : RD M H v d) (c : Cont RV (setL h n ds d) M H Q) : Q v (upd H a (.lst ys)) :=
  c.fin (ext_set ea) (rep.set ea ⟨ys, upd_same, q.mono (ext_set ea).ext⟩) (rv.mono (ext_set ea).ext)
def appendW (w : W) (ws : List W) (h : Hh) : Option (W × Hh) := match w, ws with
  | .ref n, [.dat d] => match lstAt h n with
    | some ds => if ds.length < sizeLine then setL h n (ds ++ [d]) .none else none
    | none => none
  | _, _ => none
theorem s_append : SemM rAppend appendW := by
  intro M H h x w vs ws Q rep rx rv c
  unfold appendW at c
  split at c
  · rename_i n d
    obtain ⟨a, ea, rfl⟩ := rx
    obtain ⟨v, rfl, r⟩ := rvs1 rv
    split at c
    · rename_i ds e
      obtain ⟨xs, ha, q⟩ := lstAt_ok rep e ea
      split at c
      · rename_i hz
        exact ⟨a, xs, v, rfl, rfl, ha, by rw [q.length]; exact hz, setL_fin rep ea (q.app (.cons r .nil)) .non c⟩
      · exact c.no.elim
    · exact c.no.elim
  · exact c.no.elim
def insertW (w : W) (ws : List W) (h : Hh) : Option (W × Hh) := match w, ws with
  | .ref n, [.dat (.int i), .dat d] => match lstAt h n with
    | some ds => if ds.length < sizeLine ∧ 0 ≤ i ∧ i < 1000000 then setL h n (ds.take i.toNat ++ [d] ++ ds.drop i.toNat) .none else none
    | none => none
  | _, _ => none
def popAtW (w : W) (ws : List W) (h : Hh) : Option (W × Hh) := match w, ws with
  | .ref n, [.dat (.int i)] => match lstAt h n with
    | some ds => if 0 ≤ i ∧ i < 1000000 then match ds[i.toNat]? with
        | some d => setL h n (ds.eraseIdx i.toNat) d
        | none => none
      else none
    | none => none
  | _, _ => none
theorem s_popAt : SemM rPopAt popAtW := by
  intro M H h x w vs ws Q rep rx rv c
  unfold popAtW at c
  split at c
  · rename_i n i
    obtain ⟨a, ea, rfl⟩ := rx
    obtain ⟨v, rfl, r⟩ := rvs1 rv
    cases (show RD M H _ _ from r)
    split at c
    · rename_i ds e
      obtain ⟨xs, ha, q⟩ := lstAt_ok rep e ea
      split at c
      · rename_i hz
        split at c
        · rename_i d ed
          obtain ⟨y, ey, ry⟩ := q.get ed
          have hlt : i < xs.length := by have := lt_of_get ey; omega
          exact ⟨a, xs, i, i.toNat, y, rfl, rfl, ha, by omega, by omega, seqIndex_of hz.1 hlt, ey, setL_fin rep ea (q.erase _) ry c⟩
        · exact c.no.elim
      · exact c.no.elim
    · exact c.no.elim
  · exact c.no.elim
theorem RDs.dropLast {M : Mm} {H : Hp} {xs : List V} {ds : List D} (q : RDs M H xs ds) : RDs M H xs.dropLast ds.dropLast := by
  rw [List.dropLast_eq_take, List.dropLast_eq_take, q.length]; exact q.take _
end
end DL
set_option maxRecDepth 100000
set_option maxHeartbeats 4000000
namespace DL
open PySem PySem.Spec PyProof.Rows L2
variable [HW]
abbrev TM := W → Env → Hh → Option Env
abbrev TMs := List D → Env → Hh → Option Env
def tGd (ts : List Nat) (g : TM) : TG := fun v σ H Q => ∃ M h ρ w ρ', Rep M H h ∧ RS M H ρ σ ∧ RV M H v w ∧ g w ρ h = some ρ' ∧ ∀ σ' : L2.St, RS M H ρ' σ' → σ'.length = σ.length → (∀ j, j ∉ ts → σ'[j]? = σ[j]?) → Q σ' H
def tGds (ts : List Nat) (g : TMs) : TGs := fun vs σ H Q => ∃ M h ρ ds ρ', Rep M H h ∧ RS M H ρ σ ∧ RDs M H vs ds ∧ g ds ρ h = some ρ' ∧ ∀ σ' : L2.St, RS M H ρ' σ' → σ'.length = σ.length → (∀ j, j ∉ ts → σ'[j]? = σ[j]?) → Q σ' H
abbrev DG (X : Cx) (tg : Expr) (ts : List Nat) (g : TM) : Prop := PG X tg (tGd ts g)
abbrev DGs (X : Cx) (tgs : List Expr) (ts : List Nat) (g : TMs) : Prop := PGs X tgs (tGds ts g)
theorem _root_.L2.PGs.weak {X : Cx} {e : List Expr} {t t' : TGs} (h : PGs X e t) (i : ∀ v σ H Q, t' v σ H Q → t v σ H Q) : PGs X e t' := ⟨fun pins s σ H v u Q I r q => h.run pins s σ H v u Q I r (i v σ H Q q)⟩
def gN (i : Nat) : TM := fun w ρ _ => some (ρ.set i (some w))
def gE : TMs := fun ds ρ _ => match ds with
  | [] => some ρ
  | _ => none
def gC (g : TM) (k : TMs) : TMs := fun ds ρ h => match ds with
  | d :: ds => match g (.dat d) ρ h with
    | some ρ' => k ds ρ' h
    | none => none
  | [] => none
def gT (n : Nat) (k : TMs) : TM := fun w ρ h => match deref h w with
  | some (.tuple ds) => if ds.length = n then k ds ρ h else none
  | some (.list ds) => if ds.length = n then k ds ρ h else none
  | _ => none
section
variable {X : Cx}
theorem dg_name (i : Nat) {x : Str} {pos : Pos} (h : PG X (.Name x pos) (gName i)) : DG X (.Name x pos) [i] (gN i) := h.weak fun v σ H Q => by
  rintro ⟨M, h, ρ, w, ρ', r, rs, rv, e, q⟩
  cases e
  exact q _ (rs.set rv) (by simp) fun j hj => List.getElem?_set_ne (fun z => hj (by simp [z]))
theorem dgs_nil : DGs X [] [] gE := pgs_nil.weak fun v σ H Q => by
  rintro ⟨M, h, ρ, ds, ρ', r, rs, rv, e, q⟩
  unfold gE at e
  split at e
  · cases e; cases rv; exact ⟨rfl, q σ rs rfl fun _ _ => rfl⟩
  · cases e
theorem dgs_cons {tg : Expr} {tgs : List Expr} {ts ts' : List Nat} {g : TM} {k : TMs} (h1 : DG X tg ts g) (h2 : DGs X tgs ts' k) (hs : (assignEach (tg :: tgs) X.env).map (·.2) = assign tg X.env :: (assignEach tgs X.env).map (·.2) := by rfl) : DGs X (tg :: tgs) (ts ++ ts') (gC g k) :=
  (pgs_cons h1 h2 hs).weak fun v σ H Q => by
    rintro ⟨M, h, ρ, ds, ρ', r, rs, rv, e, q⟩
    unfold gC at e
    split at e
    · rename_i d ds'
      split at e
      · rename_i ρ1 e1
        cases rv with
        | cons a t =>
          refine ⟨_, _, rfl, M, h, ρ, .dat d, ρ1, r, rs, a, e1, fun σ1 rs1 l1 o1 => ⟨M, h, ρ1, ds', ρ', r, rs1, t, e, fun σ2 rs2 l2 o2 => q σ2 rs2 (l2.trans l1) fun j hj => ?_⟩⟩
          rw [o2 j (fun z => hj (List.mem_append_right _ z)), o1 j (fun z => hj (List.mem_append_left _ z))]
      · cases e
    · cases e
theorem _root_.L2.PG.or {tg : Expr} {t t' : TG} (h : PG X tg t) (h' : PG X tg t') : PG X tg (fun v σ H Q => t v σ H Q ∨ t' v σ H Q) := ⟨fun pins s σ H v u Q I r q => q.elim (h.run pins s σ H v u Q I r) (h'.run pins s σ H v u Q I r)⟩
theorem dg_tup {tgs : List Expr} {k : Nat} {pos : Pos} {ts : List Nat} {g : TMs} {n : Nat} (hc : X.calm = true) (h : DGs X tgs ts g) (hn : (assignEach tgs X.env).length = n := by rfl) (hst : (assignEach tgs X.env).findIdx? (·.1) = none := by rfl) : DG X (.Tuple tgs k pos) ts (gT n g) :=
  ((pg_tup hc h hn hst).or (pg_unl hc h hn hst)).weak fun v σ H Q => by
    rintro ⟨M, h, ρ, w, ρ', r, rs, rv, e, q⟩
    unfold gT at e
    split at e
    · rename_i ds ed
      obtain ⟨a, xs, rfl, _, ha, qa⟩ := rr_tup (deref_rr r rv ed)
      split at e
      · rename_i hz
        exact .inl ⟨a, xs, rfl, ha.sq, by rw [qa.length]; exact hz, M, h, ρ, ds, ρ', r, rs, qa, e, q⟩
      · cases e
    · rename_i ds ed
      obtain ⟨a, xs, rfl, ha, qa⟩ := deref_rr r rv ed
      split at e
      · rename_i hz
        exact .inr ⟨a, xs, rfl, .of ha, by rw [qa.length]; exact hz, M, h, ρ, ds, ρ', r, rs, qa, e, q⟩
      · cases e
    · cases e
end
theorem Rep.grow {M : Mm} {H H' : Hp} {h : Hh} (r : Rep M H h) (s : Same H H') : Rep M H' h ∧ ExtE M M H H' := by
  have x : ExtE M M H H' := ⟨rfl, fun a o e => ⟨o, s a o e⟩, fun a o e _ => s a o e, fun _ m => .inl m, Nat.le_refl _, fun _ _ => rfl⟩
  refine ⟨⟨fun a m => ?_, r.len, r.inj, fun i a e => ?_, r.dead⟩, x⟩
  · obtain ⟨h1, o, e, ht⟩ := r.us a m
    exact ⟨h1, o, s a o e, ht⟩
  · obtain ⟨u, hu, ro⟩ := r.at_ i a e
    obtain ⟨z, hz⟩ := ro.some_
    exact ⟨u, hu, ro.move x.ext (by rw [hz]; exact s a z hz)⟩
theorem new_out {M : Mm} {H : Hp} (tr : ∀ a, M.Has a → ∃ o, H a = some o ∧ tpO o = false) {T : Addr} (n : H T = none) : ¬ M.Has T := fun z => by
  obtain ⟨o, e, _⟩ := tr T z
  rw [n] at e; cases e
theorem grow_ext {M : Mm} {H H' : Hp} (s : Same H H') : Ext M M H H' := ⟨fun _ m => .inl m, fun a o e => ⟨o, s a o e⟩, fun a o e _ => s a o e, fun _ m => .inl m, Nat.le_refl _, fun _ _ => .inl rfl⟩
def ItD (M : Mm) (H : Hp) (J : It) (ds : List D) : Prop := ∀ M1 H1, Ext M M1 H H1 → (∀ a, M1.Has a → ∃ o, H1 a = some o ∧ tpO o = false) → (∀ (i : Nat) (d : D), ds[i]? = some d → J.go i H1 ∧ ∀ x H2, J.yld i H1 x H2 → Same H1 H2 ∧ RD M1 H2 x d) ∧ J.stop ds.length H1
abbrev IM := Env → Hh → Option (List D × Hh)
def tI (g : IM) : TI := fun σ H R => ∃ M h ρ ds h', Rep M H h ∧ RS M H ρ σ ∧ g ρ h = some (ds, h') ∧ ∀ M' H' J, ExtE M M' H H' → Rep M' H' h' → ItD M' H' J ds → R J H'
abbrev DI (X : Cx) (tg it : Expr) (g : IM) : Prop := PI X tg it (tI g)
theorem _root_.L2.PI.or {X : Cx} {tg e : Expr} {t t' : TI} (h : PI X tg e t) (h' : PI X tg e t') : PI X tg e (fun σ H R => t σ H R ∨ t' σ H R) := ⟨fun pins s σ H R I q => q.elim (h.run pins s σ H R I) (h'.run pins s σ H R I)⟩
theorem same_refl' {H : Hp} : Same H H := fun _ _ e => e
theorem same_new {H : Hp} {p : Addr} {o : HO} (n : H p = none) : Same H (upd H p o) := fun b x e => by rw [upd_ne (ne_of_none e n)]; exact e
theorem itd_list {K : PySem.W.Frag} {M : Mm} {H : Hp} {a : Addr} {xs : List V} {ds : List D} (n : ¬ M.Has a) (ha : H a = some (.lst xs)) (q : RDs M H xs ds) : ItD M H (Itl K a) ds := fun M1 H1 x tr => by
  have ha1 := x.st n ha
  have q1 := q.mono x
  refine ⟨fun i d e => ?_, ⟨xs, .of ha1, by rw [q.length]; exact Nat.le_refl _⟩⟩
  obtain ⟨v, ev, rv⟩ := q1.get e
  refine ⟨⟨xs, v, .of ha1, ev⟩, fun y H2 hy => ?_⟩
  obtain ⟨e2, hy⟩ := hy
  subst e2
  have := hy xs (.of ha1)
  rw [ev] at this; cases this
  exact ⟨same_refl', rv⟩
theorem itd_tup {K : PySem.W.Frag} {M : Mm} {H : Hp} {a : Addr} {xs : List V} {ds : List D} (n : ¬ M.Has a) (ha : TupAt H a xs ds) (q : RDs M H xs ds) : ItD M H (Itt K a) ds := fun M1 H1 x tr => by
  have ha1 := (ha.to fun _ z => x.st n z).sq (K := K)
  have q1 := q.mono x
  refine ⟨fun i d e => ?_, ⟨xs, ha1, by rw [q.length]; exact Nat.le_refl _⟩⟩
  obtain ⟨v, ev, rv⟩ := q1.get e
  refine ⟨⟨xs, v, ha1, ev⟩, fun y H2 hy => ?_⟩
  obtain ⟨e2, hy⟩ := hy
  subst e2
  have := hy xs ha1
  rw [ev] at this; cases this
  exact ⟨same_refl', rv⟩
def seqI (f : EM) : IM := fun ρ h => obnd (f ρ h) fun w h1 => match w with
  | .dat (.list ds) => some (ds, h1)
  | .dat (.tuple ds) => some (ds, h1)
  | _ => none
section
variable {X : Cx} {tg : Expr}
theorem di_seq {e : Expr} {f : EM} (he : DE X e f) : DI X tg e (seqI f) := ((pi_list he).or (pi_tup he)).weak fun σ H R => by
  rintro ⟨M, h, ρ, ds, h', r, rs, e, q⟩
  unfold seqI at e
  cases ef : f ρ h with
  | none => rw [ef] at e; cases e
  | some p =>
    obtain ⟨w, h1⟩ := p
    rw [ef] at e
    simp only [obnd_some] at e
    split at e
    · cases e
      refine .inl ⟨M, h, ρ, r, rs, _, _, ef, fun M1 H1 v x1 r1 v1 => ?_⟩
      cases (show RD M1 H1 v _ from v1) with
      | lst n ha qa => exact ⟨_, rfl, ⟨_, .of ha⟩, q M1 H1 _ x1 r1 (itd_list n ha qa)⟩
    · cases e
      refine .inr ⟨M, h, ρ, r, rs, _, _, ef, fun M1 H1 v x1 r1 v1 => ?_⟩
      cases (show RD M1 H1 v _ from v1) with
      | tup n ha qa => exact ⟨_, rfl, ⟨_, ha.sq⟩, q M1 H1 _ x1 r1 (itd_tup n ha qa)⟩
    · cases e
def rngD (lo : Int) (n : Nat) : List D := (List.range n).map fun (i : Nat) => .int (lo + (i : Int))
theorem rngD_get {lo : Int} {n i : Nat} {d : D} (e : (rngD lo n)[i]? = some d) : i < n ∧ d = .int (lo + i) := by
  unfold rngD at e
  rw [List.getElem?_map] at e
  cases q : (List.range n)[i]? with
  | none => rw [q] at e; cases e
  | some j =>
    rw [q] at e
    obtain ⟨h1, h2⟩ := List.getElem?_eq_some_iff.mp q
    rw [List.length_range] at h1
    rw [List.getElem_range] at h2
    subst h2
    exact ⟨h1, by simpa using e.symm⟩
theorem itd_rng {M : Mm} {H : Hp} {lo : Int} {n : Nat} : ItD M H (Itr lo n) (rngD lo n) := fun M1 H1 x tr => by
  refine ⟨fun i d e => ?_, ?_⟩
  · obtain ⟨h1, rfl⟩ := rngD_get e
    exact ⟨h1, fun y H2 hy => by obtain ⟨e1, e2⟩ := hy; subst e1 e2; exact ⟨same_refl', .int _⟩⟩
  · show n ≤ _
    simp [rngD]
def rng1I (g : AM) : IM := fun ρ h => obnd (g ρ h) fun ws h1 => match ws with
  | [.dat (.int j)] => if -1000000000 ≤ j ∧ j ≤ 1000000000 then some (rngD 0 j.toNat, h1) else none
  | _ => none
def rng2I (g : AM) : IM := fun ρ h => obnd (g ρ h) fun ws h1 => match ws with
  | [.dat (.int i), .dat (.int j)] => if -1000000000 ≤ i ∧ i ≤ 1000000000 ∧ -1000000000 ≤ j ∧ j ≤ 1000000000 then some (rngD i (j - i).toNat, h1) else none
  | _ => none
theorem di_rng1 (hm : X.mg "range" = none) {a : Expr} {p pos : Pos} {g : AM} (ha : DA X [a] g) (hg : Gl X "range" := by rfl) (hs : starEach [a] X.env = [(false, eval a X.env)] := by rfl) : DI X tg (.Call (.Name "range" p) [a] [] pos) (rng1I g) := (pi_range1 hg hm ha hs).weak fun σ H R => by
  rintro ⟨M, h, ρ, ds, h', r, rs, e, q⟩
  unfold rng1I at e
  cases ef : g ρ h with
  | none => rw [ef] at e; cases e
  | some p =>
    obtain ⟨ws, h1⟩ := p
    rw [ef] at e
    simp only [obnd_some] at e
    split at e
    · split at e
      · rename_i hz
        cases e
        refine ⟨M, h, ρ, r, rs, _, _, ef, fun M1 H1 v x1 r1 v1 => ?_⟩
        obtain ⟨v, rfl, rv⟩ := rvs1 v1
        cases (show RD M1 H1 v _ from rv)
        exact ⟨_, rfl, by omega, by omega, q M1 H1 _ x1 r1 itd_rng⟩
      · cases e
    · cases e
theorem di_rng2 (hm : X.mg "range" = none) {a b : Expr} {p pos : Pos} {g : AM} (ha : DA X [a, b] g) (hg : Gl X "range" := by rfl) (hs : starEach [a, b] X.env = [(false, eval a X.env), (false, eval b X.env)] := by rfl) (hs2 : starEach [b] X.env = [(false, eval b X.env)] := by rfl) : DI X tg (.Call (.Name "range" p) [a, b] [] pos) (rng2I g) := (pi_range2 hg hm ha hs hs2).weak fun σ H R => by
  rintro ⟨M, h, ρ, ds, h', r, rs, e, q⟩
  unfold rng2I at e
  cases ef : g ρ h with
  | none => rw [ef] at e; cases e
  | some p =>
    obtain ⟨ws, h1⟩ := p
    rw [ef] at e
    simp only [obnd_some] at e
    split at e
    · split at e
      · rename_i hz
        cases e
        refine ⟨M, h, ρ, r, rs, _, _, ef, fun M1 H1 v x1 r1 v1 => ?_⟩
        obtain ⟨v, v', rfl, rv, rv'⟩ := rvs2 v1
        cases (show RD M1 H1 v _ from rv)
        cases (show RD M1 H1 v' _ from rv')
        exact ⟨_, _, rfl, ⟨by omega, by omega, by omega, by omega⟩, q M1 H1 _ x1 r1 itd_rng⟩
      · cases e
    · cases e
def enumD : Nat → List D → List D
  | _, [] => []
  | i, d :: ds => .tuple [.int (i : Int), d] :: enumD (i + 1) ds
theorem enumD_get : ∀ {ds : List D} {k i : Nat} {d : D}, (enumD k ds)[i]? = some d → ∃ e, ds[i]? = some e ∧ d = .tuple [.int ((k + i : Nat) : Int), e]
  | [], _, _, _, e => by simp [enumD] at e
  | e :: ds, k, 0, d, h => by simp [enumD] at h; exact ⟨e, rfl, by rw [← h]; rfl⟩
  | e :: ds, k, i + 1, d, h => by
    obtain ⟨e', h1, h2⟩ := enumD_get (ds := ds) (k := k + 1) (i := i) (d := d) (by simpa [enumD] using h)
    exact ⟨e', by simpa using h1, by rw [h2, show k + 1 + i = k + (i + 1) by omega]⟩
theorem enumD_len : ∀ (k : Nat) (ds : List D), (enumD k ds).length = ds.length
  | _, [] => rfl
  | k, d :: ds => by simp [enumD, enumD_len (k + 1) ds]
theorem itd_enum {K : PySem.W.Frag} {M : Mm} {H : Hp} {a : Addr} {xs : List V} {ds : List D} (n : ¬ M.Has a) (ha : H a = some (.lst xs)) (q : RDs M H xs ds) : ItD M H (Ite K a) (enumD 0 ds) := fun M1 H1 x tr => by
  have ha1 := x.st n ha
  have q1 := q.mono x
  refine ⟨fun i d e => ?_, ⟨xs, .of ha1, by rw [q.length, enumD_len]; exact Nat.le_refl _⟩⟩
  obtain ⟨d', e', rfl⟩ := enumD_get e
  obtain ⟨v, ev, rv⟩ := q1.get e'
  refine ⟨⟨xs, v, .of ha1, ev⟩, fun y H2 hy => ?_⟩
  obtain ⟨T, z, rfl, nT, rfl, hz⟩ := hy
  have := hz xs (.of ha1)
  rw [ev] at this; cases this
  refine ⟨same_new nT, .tup (fun z => new_out tr nT z) (.inl ⟨rfl, upd_same⟩) (.cons ?_ (.cons (rv.mono (grow_ext (same_new nT))) .nil))⟩
  rw [Nat.zero_add]; exact .int _
def zipD : List D → List D → List D
  | x :: xs, y :: ys => .tuple [x, y] :: zipD xs ys
  | _, _ => []
theorem zipD_get : ∀ {xs ys : List D} {i : Nat} {d : D}, (zipD xs ys)[i]? = some d → ∃ x y, xs[i]? = some x ∧ ys[i]? = some y ∧ d = .tuple [x, y]
  | [], _, _, _, e => by simp [zipD] at e
  | _ :: _, [], _, _, e => by simp [zipD] at e
  | x :: xs, y :: ys, 0, d, e => by simp [zipD] at e; exact ⟨x, y, rfl, rfl, e.symm⟩
  | x :: xs, y :: ys, i + 1, d, e => by
    obtain ⟨a, b, h1, h2, h3⟩ := zipD_get (xs := xs) (ys := ys) (i := i) (d := d) (by simpa [zipD] using e)
    exact ⟨a, b, by simpa using h1, by simpa using h2, h3⟩
def notCall : D → Bool
  | .tuple l => !callD l
  | _ => true
def zipOk (xs ys : List D) : Bool := (zipD xs ys).all notCall
theorem zipOk_get {xs ys : List D} {i : Nat} {l : List D} (ok : zipOk xs ys = true) (e : (zipD xs ys)[i]? = some (.tuple l)) : callD l = false := by
  have := List.all_eq_true.mp ok _ (List.mem_of_getElem? e)
  simpa [notCall] using this
theorem zipD_len : ∀ (xs ys : List D), (zipD xs ys).length = min xs.length ys.length
  | [], _ => by simp [zipD]
  | _ :: _, [] => by simp [zipD]
  | x :: xs, y :: ys => by simp only [zipD, List.length_cons, zipD_len xs ys]; omega
theorem itd_zip {K : PySem.W.Frag} {M : Mm} {H : Hp} {a b : Addr} {xs ys : List V} {ds es : List D} (n : ¬ M.Has a) (ha : H a = some (.lst xs)) (q : RDs M H xs ds) (n' : ¬ M.Has b) (hb : H b = some (.lst ys)) (q' : RDs M H ys es) (ok : zipOk ds es = true) : ItD M H (Itz K a b) (zipD ds es) := fun M1 H1 x tr => by
  have ha1 := x.st n ha
  have hb1 := x.st n' hb
  refine ⟨fun i d e => ?_, ⟨xs, ys, .of ha1, .of hb1, by rw [q.length, q'.length, zipD_len]; omega⟩⟩
  obtain ⟨d1, d2, e1, e2, rfl⟩ := zipD_get e
  obtain ⟨v, ev, rv⟩ := (q.mono x).get e1
  obtain ⟨v', ev', rv'⟩ := (q'.mono x).get e2
  refine ⟨⟨xs, ys, v, v', .of ha1, .of hb1, ev, ev'⟩, fun y H2 hy => ?_⟩
  obtain ⟨T, z, z', rfl, nT, rfl, hz, hz'⟩ := hy
  have t1 := hz xs (.of ha1)
  rw [ev] at t1; cases t1
  have t2 := hz' ys (.of hb1)
  rw [ev'] at t2; cases t2
  exact ⟨same_new nT, .tup (fun z => new_out tr nT z) (.inl ⟨zipOk_get ok e, upd_same⟩) (.cons (rv.mono (grow_ext (same_new nT))) (.cons (rv'.mono (grow_ext (same_new nT))) .nil))⟩
theorem itd_zipT {K : PySem.W.Frag} {M : Mm} {H : Hp} {a b : Addr} {xs ys : List V} {ds es : List D} (n : ¬ M.Has a) (ha : TupAt H a xs ds) (q : RDs M H xs ds) (n' : ¬ M.Has b) (hb : TupAt H b ys es) (q' : RDs M H ys es) (ok : zipOk ds es = true) : ItD M H (RZ.ItzT K a b) (zipD ds es) := fun M1 H1 x tr => by
  have ha1 := (ha.to fun _ z => x.st n z).sq (K := K)
  have hb1 := (hb.to fun _ z => x.st n' z).sq (K := K)
  refine ⟨fun i d e => ?_, ⟨xs, ys, ha1, hb1, by rw [q.length, q'.length, zipD_len]; omega⟩⟩
  obtain ⟨d1, d2, e1, e2, rfl⟩ := zipD_get e
  obtain ⟨v, ev, rv⟩ := (q.mono x).get e1
  obtain ⟨v', ev', rv'⟩ := (q'.mono x).get e2
  refine ⟨⟨xs, ys, v, v', ha1, hb1, ev, ev'⟩, fun y H2 hy => ?_⟩
  obtain ⟨T, z, z', rfl, nT, rfl, hz, hz'⟩ := hy
  have t1 := hz xs ha1
  rw [ev] at t1; cases t1
  have t2 := hz' ys hb1
  rw [ev'] at t2; cases t2
  exact ⟨same_new nT, .tup (fun z => new_out tr nT z) (.inl ⟨zipOk_get ok e, upd_same⟩) (.cons (rv.mono (grow_ext (same_new nT))) (.cons (rv'.mono (grow_ext (same_new nT))) .nil))⟩
def zipI (g : AM) : IM := fun ρ h => obnd (g ρ h) fun ws h1 => match ws with
  | [.dat (.list ds), .dat (.list es)] => if zipOk ds es = true then some (zipD ds es, h1) else none
  | [.dat (.tuple ds), .dat (.tuple es)] => if zipOk ds es = true then some (zipD ds es, h1) else none
  | _ => none
theorem di_zip (hm : X.mg "zip" = none) {e e2 : Expr} {elts : List Expr} {kk : Nat} {p pos tpos : Pos} {g : AM} (ha : DA X [e, e2] g) (hg : Gl X "zip" := by rfl) (hs : starEach [e, e2] X.env = (false, eval e X.env) :: starEach [e2] X.env := by rfl) (hpl : (backTo pos (starEach [e2] X.env)).any (·.1) = false := by rfl) :
    DI X (.Tuple elts kk tpos) (.Call (.Name "zip" p) [e, e2] [] pos) (zipI g) := (RZ.pi_zipA hg hm ha hs hpl).weak fun σ H R => by
  rintro ⟨M, h, ρ, ds, h', r, rs, e, q⟩
  unfold zipI at e
  cases ef : g ρ h with
  | none => rw [ef] at e; cases e
  | some p =>
    obtain ⟨ws, h1⟩ := p
    rw [ef] at e
    simp only [obnd_some] at e
    split at e
    · split at e
      rotate_left
      · cases e
      rename_i ok
      cases e
      refine ⟨M, h, ρ, r, rs, _, _, ef, fun M1 H1 v x1 r1 v1 => ?_⟩
      obtain ⟨v, v', rfl, rv, rv'⟩ := rvs2 v1
      cases (show RD M1 H1 v _ from rv) with
      | lst n ha qa =>
        cases (show RD M1 H1 v' _ from rv') with
        | lst n' hb qb => exact ⟨_, _, _, _, rfl, .inl ⟨.of ha, .of hb, q M1 H1 _ x1 r1 (itd_zip n ha qa n' hb qb ok)⟩⟩
    · split at e
      rotate_left
      · cases e
      rename_i ok
      cases e
      refine ⟨M, h, ρ, r, rs, _, _, ef, fun M1 H1 v x1 r1 v1 => ?_⟩
      obtain ⟨v, v', rfl, rv, rv'⟩ := rvs2 v1
      cases (show RD M1 H1 v _ from rv) with
      | tup n ha qa =>
        cases (show RD M1 H1 v' _ from rv') with
        | tup n' hb qb => exact ⟨_, _, _, _, rfl, .inr ⟨ha.sq, hb.sq, q M1 H1 _ x1 r1 (itd_zipT n ha qa n' hb qb ok)⟩⟩
    · cases e
theorem itd_rev {K : PySem.W.Frag} {M : Mm} {H : Hp} {a : Addr} {xs : List V} {ds : List D} (n : ¬ M.Has a) (ha : H a = some (.lst xs)) (q : RDs M H xs ds) : ItD M H (Itv K a xs.length) ds.reverse := fun M1 H1 x tr => by
  have ha1 := x.st n ha
  refine ⟨fun i d e => ?_, by show xs.length ≤ _; rw [q.length, List.length_reverse]; exact Nat.le_refl _⟩
  have hi := lt_of_get e
  rw [List.length_reverse] at hi
  rw [List.getElem?_reverse hi] at e
  obtain ⟨v, ev, rv⟩ := (q.mono x).get e
  rw [← q.length] at ev
  refine ⟨⟨by rw [q.length]; exact hi, xs, v, .of ha1, ev⟩, fun y H2 hy => ?_⟩
  obtain ⟨e2, hy⟩ := hy
  subst e2
  have := hy xs (.of ha1)
  rw [ev] at this; cases this
  exact ⟨same_refl', rv⟩
theorem itd_revT {K : PySem.W.Frag} {M : Mm} {H : Hp} {a : Addr} {xs : List V} {ds : List D} (n : ¬ M.Has a) (ha : TupAt H a xs ds) (q : RDs M H xs ds) : ItD M H (RT.ItvT K a xs.length) ds.reverse := fun M1 H1 x tr => by
  have ha1 := (ha.to fun _ z => x.st n z).sq (K := K)
  refine ⟨fun i d e => ?_, by show xs.length ≤ _; rw [q.length, List.length_reverse]; exact Nat.le_refl _⟩
  have hi := lt_of_get e
  rw [List.length_reverse] at hi
  rw [List.getElem?_reverse hi] at e
  obtain ⟨v, ev, rv⟩ := (q.mono x).get e
  rw [← q.length] at ev
  refine ⟨⟨by rw [q.length]; exact hi, xs, v, ha1, ev⟩, fun y H2 hy => ?_⟩
  obtain ⟨e2, hy⟩ := hy
  subst e2
  have := hy xs ha1
  rw [ev] at this; cases this
  exact ⟨same_refl', rv⟩
def revI (f : EM) : IM := fun ρ h => obnd (f ρ h) fun w h1 => match w with
  | .dat (.list ds) => some (ds.reverse, h1)
  | .dat (.tuple ds) => some (ds.reverse, h1)
  | _ => none
theorem di_rev (hm : X.mg "reversed" = none) {e : Expr} {p pos : Pos} {f : EM} (he : DE X e f) (hg : Gl X "reversed" := by rfl) (hs : starEach [e] X.env = (false, eval e X.env) :: starEach [] X.env := by rfl) : DI X tg (.Call (.Name "reversed" p) [e] [] pos) (revI f) := (RT.pi_revA hg hm he hs).weak fun σ H R => by
  rintro ⟨M, h, ρ, ds, h', r, rs, e, q⟩
  unfold revI at e
  cases ef : f ρ h with
  | none => rw [ef] at e; cases e
  | some p =>
    obtain ⟨w, h1⟩ := p
    rw [ef] at e
    simp only [obnd_some] at e
    split at e
    · cases e
      refine ⟨M, h, ρ, r, rs, _, _, ef, fun M1 H1 v x1 r1 v1 => ?_⟩
      cases (show RD M1 H1 v _ from v1) with
      | lst n ha qa => exact ⟨_, _, rfl, .inl ⟨.of ha, q M1 H1 _ x1 r1 (itd_rev n ha qa)⟩⟩
    · cases e
      refine ⟨M, h, ρ, r, rs, _, _, ef, fun M1 H1 v x1 r1 v1 => ?_⟩
      cases (show RD M1 H1 v _ from v1) with
      | tup n ha qa => exact ⟨_, _, rfl, .inr ⟨ha.sq, q M1 H1 _ x1 r1 (itd_revT n ha qa)⟩⟩
    · cases e
def signs (z : Str) : List D := z.cps.toList.map fun c => .str ⟨#[c]⟩
def strI (f : EM) : IM := fun ρ h => obnd (f ρ h) fun w h1 => match w with
  | .dat (.str z) => some (signs z, h1)
  | _ => none
end
end DL
set_option maxRecDepth 100000
set_option maxHeartbeats 4000000
namespace DL
open PySem PySem.Spec PyProof.Rows L2
variable [HW]
def wipeE (ρ : Env) : List Nat → Env
  | [] => ρ
  | v :: vs => (wipeE ρ vs).set v none
theorem RS.none_at {M : Mm} {H : Hp} {ρ : Env} {σ : L2.St} (r : RS M H ρ σ) (i : Nat) : RS M H (ρ.set i none) (σ.set i none) := by
  refine ⟨by simp [r.1], fun j u e => ?_⟩
  by_cases hj : i = j
  · subst hj
    by_cases hi : i < ρ.length
    · rw [List.getElem?_set_self hi] at e; cases e
    · rw [List.getElem?_eq_none (by simpa using hi)] at e; cases e
  · rw [List.getElem?_set_ne hj] at e ⊢
    exact r.2 j u e
theorem RS.wipe {M : Mm} {H : Hp} {ρ : Env} {σ : L2.St} (r : RS M H ρ σ) : ∀ vs : List Nat, RS M H (wipeE ρ vs) (L2.wipe σ vs)
  | [] => r
  | v :: vs => (RS.wipe r vs).none_at v
theorem wipe_get (σ : L2.St) : ∀ (vs : List Nat) (j : Nat), (L2.wipe σ vs)[j]? = if j ∈ vs ∧ j < σ.length then some none else σ[j]?
  | [], j => by simp [L2.wipe]
  | v :: vs, j => by
    unfold L2.wipe
    by_cases hj : v = j
    · subst hj
      by_cases hl : v < σ.length
      · rw [List.getElem?_set_self (by rw [L2.wipe_length]; exact hl), if_pos ⟨List.mem_cons_self, hl⟩]
      · rw [List.getElem?_eq_none (by rw [List.length_set, L2.wipe_length]; omega), if_neg (fun z => hl z.2), List.getElem?_eq_none (by omega)]
    · rw [List.getElem?_set_ne hj, wipe_get σ vs j]
      have : j ∈ v :: vs ↔ j ∈ vs := by simp [Ne.symm hj]
      simp only [this]
theorem wipe_of {σ σ2 : L2.St} {ts vs : List Nat} (hl : σ2.length = σ.length) (ho : ∀ j, j ∉ ts → σ2[j]? = (L2.wipe σ vs)[j]?) (hs : ∀ j ∈ ts, j ∈ vs) : L2.wipe σ2 vs = L2.wipe σ vs := by
  refine List.ext_getElem? fun j => ?_
  rw [wipe_get, wipe_get, hl]
  by_cases h : j ∈ vs ∧ j < σ.length
  · rw [if_pos h, if_pos h]
  · rw [if_neg h, if_neg h]
    by_cases hj : j ∈ vs
    · have : σ.length ≤ j := Nat.le_of_not_lt fun z => h ⟨hj, z⟩
      rw [List.getElem?_eq_none (by omega), List.getElem?_eq_none this]
    · rw [ho j fun z => hj (hs j z), wipe_get, if_neg h]
def lcL (k : TM) (t : BM) (f : EM) (ρ : Env) : List D → Hh → Option (List D × Hh)
  | [], h => some ([], h)
  | d :: ds, h => match k (.dat d) ρ h with
    | some ρ1 => obnd (t ρ1 h) fun b h2 => if b = true then obnd (f ρ1 h2) fun w h3 => match w with
        | .dat d' => obnd (lcL k t f ρ ds h3) fun r h4 => some (d' :: r, h4)
        | _ => none
      else lcL k t f ρ ds h2
    | none => none
def fLc (m : Bool) (gi : IM) (k : TM) (t : BM) (f : EM) (vs : List Nat) : EM := fun ρ h => obnd (gi ρ h) fun ds h1 => obnd (lcL k t f (wipeE ρ vs) ds h1) fun r h2 => if r.length ≤ sizeLine then mkL m r h2 else none
def bYes : BM := fun _ h => some (true, h)
abbrev DTs (X : Cx) (ifs : List Expr) (t : BM) : Prop := PTs X ifs (tT t)
section
variable {X : Cx}
theorem _root_.L2.PTs.weak {X : Cx} {e : List Expr} {t t' : TT} (h : PTs X e t) (i : ∀ σ H Q, t' σ H Q → t σ H Q) : PTs X e t' := ⟨fun pins s σ H Q I q => h.run pins s σ H Q I (i σ H Q q)⟩
theorem dts_nil : DTs X [] bYes := pts_nil.weak fun σ H Q => by
  rintro ⟨M, h, ρ, r, rs, c⟩
  exact c.fin (.refl _ _) r rfl
theorem dts_one {c : Expr} {t : BM} (h : DT X c t) : DTs X [c] t := pts_one h
end
def Mm.made (M : Mm) (p : Addr) : Mm := ⟨p :: M.u, M.m⟩
theorem ext_made {M : Mm} {H : Hp} {p : Addr} {o : HO} (n : H p = none) : Ext M (M.made p) H (upd H p o) :=
  ⟨fun a m => by
    rcases List.mem_cons.mp m with rfl | m
    · exact .inr n
    · exact .inl m, trk_upd, fun a u e _ => by rw [upd_ne (ne_of_none e n)]; exact e, fun _ m => .inl m, Nat.le_refl _, fun _ _ => .inl rfl⟩
theorem Rep.make {M : Mm} {H : Hp} {h : Hh} (r : Rep M H h) {p : Addr} {o : HO} (n : H p = none) (ho : tpO o = false := by rfl) : Rep (M.made p) (upd H p o) h := by
  refine ⟨fun a m => ?_, r.len, r.inj, fun i a e => ?_, r.dead⟩
  · rcases List.mem_cons.mp m with rfl | m
    · exact ⟨fun z => r.new n (.inr z), o, upd_same, ho⟩
    · obtain ⟨h1, u, e, ht⟩ := r.us a m
      exact ⟨h1, u, by rw [upd_ne (ne_of_none e n)]; exact e, ht⟩
  · obtain ⟨u, hu, ro⟩ := r.at_ i a e
    obtain ⟨z, hz⟩ := ro.some_
    exact ⟨u, hu, ro.move (ext_made n) (upd_ne (ne_of_none hz n))⟩
mutual
theorem RD.off {M : Mm} {H : Hp} {p : Addr} {o : HO} (hp : p ∈ M.u) : ∀ {v : V} {d : D}, RD M H v d → RD M (upd H p o) v d
  | _, _, .non => .non
  | _, _, .bl b => .bl b
  | _, _, .int i => .int i
  | _, _, .str s => .str s
  | _, _, .tup n e r => .tup n (e.to fun _ q => by rw [upd_ne (fun z => n (.inl (by rw [z]; exact hp)))]; exact q) (RDs.off hp r)
  | _, _, .lst n e r => .lst n (by rw [upd_ne (fun z => n (.inl (by rw [z]; exact hp)))]; exact e) (RDs.off hp r)
  | _, _, .dic n e r => .dic n (by rw [upd_ne (fun z => n (.inl (by rw [z]; exact hp)))]; exact e) (RDk.off hp r)
  | _, _, .dit n e r => .dit n (by rw [upd_ne (fun z => n (.inl (by rw [z]; exact hp)))]; exact e) (RDt.off hp r)
theorem RDs.off {M : Mm} {H : Hp} {p : Addr} {o : HO} (hp : p ∈ M.u) : ∀ {v : List V} {d : List D}, RDs M H v d → RDs M (upd H p o) v d
  | _, _, .nil => .nil
  | _, _, .cons a r => .cons (RD.off hp a) (RDs.off hp r)
theorem RDk.off {M : Mm} {H : Hp} {p : Addr} {o : HO} (hp : p ∈ M.u) : ∀ {v : List (Key × V)} {d : List (D × D)}, RDk M H v d → RDk M (upd H p o) v d
  | _, _, .nil => .nil
  | _, _, .cons a r => .cons (RD.off hp a) (RDk.off hp r)
theorem RDt.off {M : Mm} {H : Hp} {p : Addr} {o : HO} (hp : p ∈ M.u) : ∀ {v : List KA} {d : List (D × D)}, RDt M H v d → RDt M (upd H p o) v d
  | _, _, .nil => .nil
  | _, _, .cons n e a r => .cons n (e.to fun _ q => by rw [upd_ne (fun z => n (.inl (by rw [z]; exact hp)))]; exact q) (RD.off hp a) (RDt.off hp r)
end
theorem RO.off {M : Mm} {H : Hp} {p a : Addr} {o : HO} {m : MO} (hp : p ∈ M.u) (hn : a ≠ p) (r : RO M H a m) : RO M (upd H p o) a m := by
  cases m with
  | lst ds => obtain ⟨xs, h, r⟩ := r; exact ⟨xs, by rw [upd_ne hn]; exact h, r.off hp⟩
  | dic ds => obtain ⟨xs, h, r⟩ := r; exact ⟨xs, by rw [upd_ne hn]; exact h, r.off hp⟩
  | dit ds => obtain ⟨xs, h, r⟩ := r; exact ⟨xs, by rw [upd_ne hn]; exact h, r.off hp⟩
  | ins C fs => obtain ⟨dx, gs, h, r⟩ := r; exact ⟨dx, gs, by rw [upd_ne hn]; exact h, r.to fun _ _ => RD.off hp⟩
  | tab q P =>
    obtain ⟨z, ps, h, t, r⟩ := r
    refine ⟨z, ps, by rw [upd_ne hn]; exact h, t, fun pos cv hc => ?_⟩
    obtain ⟨c, e1, n, e2⟩ := r pos cv hc
    exact ⟨c, e1, n, by rw [upd_ne (fun z => n (.inl (by rw [z]; exact hp)))]; exact e2⟩
theorem Rep.off {M : Mm} {H : Hp} {h : Hh} (r : Rep M H h) {p : Addr} {o : HO} (hp : p ∈ M.u) (ho : tpO o = false := by rfl) : Rep M (upd H p o) h := by
  refine ⟨fun a m => ?_, r.len, r.inj, fun i a e => ?_, r.dead⟩
  · obtain ⟨h1, u, e, ht⟩ := r.us a m
    refine ⟨h1, ?_⟩
    by_cases z : a = p
    · subst z; exact ⟨o, upd_same, ho⟩
    · exact ⟨u, by rw [upd_ne z]; exact e, ht⟩
  · obtain ⟨u, hu, ro⟩ := r.at_ i a e
    exact ⟨u, hu, ro.off hp fun z => (r.us p hp).1 (by rw [← z]; exact List.mem_of_getElem? e)⟩
theorem RV.off {M : Mm} {H : Hp} {p : Addr} {o : HO} {v : V} (hp : p ∈ M.u) : ∀ {w : W}, RV M H v w → RV M (upd H p o) v w
  | .dat _, r => RD.off hp r
  | .ref _, r => r
  | .scr _, ⟨a, u, e, n, q⟩ => ⟨a, u, e, n, by rw [upd_ne (fun z => n (.inl (by rw [z]; exact hp)))]; exact q⟩
  | .pack _, ⟨a, u, e, n, q, r⟩ => ⟨a, u, e, n, by rw [upd_ne (fun z => n (.inl (by rw [z]; exact hp)))]; exact q, r.move (fun _ _ z => z) fun _ _ => RD.off hp⟩
  | .lock _, ⟨a, u, kvs, e, n, q, r⟩ => ⟨a, u, kvs, e, n, by rw [upd_ne (fun z => n (.inl (by rw [z]; exact hp)))]; exact q, r.off hp⟩
  | .ins _ _, ⟨a, u, gs, e, n, q, r⟩ => ⟨a, u, gs, e, n, by rw [upd_ne (fun z => n (.inl (by rw [z]; exact hp)))]; exact q, r.to fun _ _ => RD.off hp⟩
  | .exc _ _ _, ⟨a, d, gs, e, r⟩ => ⟨a, d, gs, e, r.to (fun _ _ _ n => n) (fun b _ q _ n => by rw [upd_ne (fun z => n (.inl (by rw [z]; exact hp)))]; exact q) fun _ _ => RD.off hp⟩
theorem RS.off {M : Mm} {H : Hp} {ρ : Env} {σ : L2.St} {p : Addr} {o : HO} (hp : p ∈ M.u) (r : RS M H ρ σ) : RS M (upd H p o) ρ σ := ⟨r.1, fun i w e => by
  obtain ⟨v, e1, q⟩ := r.2 i w e
  exact ⟨v, e1, q.off hp⟩⟩
theorem RV.moveu {M M' : Mm} {H H' : Hp} (x : Ext M M' H H') (hm : M'.m = M.m) {v : V} : ∀ {w : W}, RV M H v w → RV M' H' v w
  | .dat _, r => RD.mono x r
  | .ref n, ⟨a, e, r⟩ => ⟨a, by rw [hm]; exact e, r⟩
  | .scr ns, ⟨a, o, e, n, q⟩ => ⟨a, o, e, x.out n q, x.st n q⟩
  | .pack its, ⟨a, xs, e, n, q, r⟩ => ⟨a, xs, e, x.out n q, x.st n q, r.move (fun i b z => by rw [hm]; exact z) fun _ _ => RD.mono x⟩
  | .lock es, ⟨a, o, kvs, e, n, q, r⟩ => ⟨a, o, kvs, e, x.out n q, x.st n q, r.mono x⟩
  | .ins _ _, ⟨a, o, gs, e, n, q, r⟩ => ⟨a, o, gs, e, x.out n q, x.st n q, r.to fun _ _ => RD.mono x⟩
  | .exc _ _ _, ⟨a, d, gs, e, r⟩ => ⟨a, d, gs, e, r.to (fun _ _ q n => x.out n q) (fun _ _ q _ n => x.st n q) fun _ _ => RD.mono x⟩
theorem RS.moveu {M M' : Mm} {H H' : Hp} (x : Ext M M' H H') (hm : M'.m = M.m) {ρ : Env} {σ : L2.St} (r : RS M H ρ σ) : RS M' H' ρ σ := ⟨r.1, fun i w e => by
  obtain ⟨v, e1, q⟩ := r.2 i w e
  exact ⟨v, e1, q.moveu x hm⟩⟩
mutual
theorem RD.sub {M M' : Mm} {H : Hp} (x : ∀ a, M'.Has a → M.Has a) : ∀ {v : V} {d : D}, RD M H v d → RD M' H v d
  | _, _, .non => .non
  | _, _, .bl b => .bl b
  | _, _, .int i => .int i
  | _, _, .str s => .str s
  | _, _, .tup n e r => .tup (fun z => n (x _ z)) e (RDs.sub x r)
  | _, _, .lst n e r => .lst (fun z => n (x _ z)) e (RDs.sub x r)
  | _, _, .dic n e r => .dic (fun z => n (x _ z)) e (RDk.sub x r)
  | _, _, .dit n e r => .dit (fun z => n (x _ z)) e (RDt.sub x r)
theorem RDs.sub {M M' : Mm} {H : Hp} (x : ∀ a, M'.Has a → M.Has a) : ∀ {v : List V} {d : List D}, RDs M H v d → RDs M' H v d
  | _, _, .nil => .nil
  | _, _, .cons a r => .cons (RD.sub x a) (RDs.sub x r)
theorem RDk.sub {M M' : Mm} {H : Hp} (x : ∀ a, M'.Has a → M.Has a) : ∀ {v : List (Key × V)} {d : List (D × D)}, RDk M H v d → RDk M' H v d
  | _, _, .nil => .nil
  | _, _, .cons a r => .cons (RD.sub x a) (RDk.sub x r)
theorem RDt.sub {M M' : Mm} {H : Hp} (x : ∀ a, M'.Has a → M.Has a) : ∀ {v : List KA} {d : List (D × D)}, RDt M H v d → RDt M' H v d
  | _, _, .nil => .nil
  | _, _, .cons n e a r => .cons (fun z => n (x _ z)) e (RD.sub x a) (RDt.sub x r)
end
theorem RO.sub {M M' : Mm} {H : Hp} {a : Addr} {m : MO} (x : ∀ a, M'.Has a → M.Has a) (r : RO M H a m) : RO M' H a m := by
  cases m with
  | lst ds => obtain ⟨xs, h, r⟩ := r; exact ⟨xs, h, r.sub x⟩
  | dic ds => obtain ⟨xs, h, r⟩ := r; exact ⟨xs, h, r.sub x⟩
  | dit ds => obtain ⟨xs, h, r⟩ := r; exact ⟨xs, h, r.sub x⟩
  | ins C fs => obtain ⟨dx, gs, h, r⟩ := r; exact ⟨dx, gs, h, r.to fun _ _ => RD.sub x⟩
  | tab q P =>
    obtain ⟨z, ps, h, t, r⟩ := r
    refine ⟨z, ps, h, t, fun pos cv hc => ?_⟩
    obtain ⟨c, e1, n, e2⟩ := r pos cv hc
    exact ⟨c, e1, fun z => n (x _ z), e2⟩
theorem less_has {u : List Addr} {m : List (Option Addr)} {p : Addr} : ∀ b, Mm.Has ⟨u, m⟩ b → Mm.Has ⟨p :: u, m⟩ b := fun b z => by
  rcases z with z | z
  · exact .inl (List.mem_cons_of_mem _ z)
  · exact .inr z
theorem Rep.told {u : List Addr} {m : List (Option Addr)} {p : Addr} {H : Hp} {h : Hh} (r : Rep ⟨p :: u, m⟩ H h) : Rep ⟨u, m⟩ H h :=
  ⟨fun a z => r.us a (List.mem_cons_of_mem _ z), r.len, r.inj, fun i a e => by
    obtain ⟨o, h1, h2⟩ := r.at_ i a e
    exact ⟨o, h1, h2.sub less_has⟩, r.dead⟩
theorem Rep.owned {u : List Addr} {m : List (Option Addr)} {p : Addr} {H : Hp} {h : Hh} {o : MO} (r : Rep ⟨p :: u, m⟩ H h) (hp : p ∉ u) (ro : RO ⟨p :: u, m⟩ H p o) : Rep ⟨u, m ++ [some p]⟩ H (h ++ [some o]) := by
  have hpm : some p ∉ m := (r.us p List.mem_cons_self).1
  have hsub : ∀ b, Mm.Has ⟨u, m ++ [some p]⟩ b → Mm.Has ⟨p :: u, m⟩ b := fun b z => by
    rcases z with z | z
    · exact .inl (List.mem_cons_of_mem _ z)
    · rcases List.mem_append.mp z with z | z
      · exact .inr z
      · have : b = p := by simpa using z
        rw [this]; exact .inl List.mem_cons_self
  have rl : m.length = h.length := r.len
  have cases_ : ∀ (i : Nat) (z : Option Addr), (m ++ [some p])[i]? = some z → (i < m.length ∧ m[i]? = some z) ∨ (i = m.length ∧ z = some p) := fun i z e => by
    by_cases hi : i < m.length
    · rw [List.getElem?_append_left hi] at e
      exact .inl ⟨hi, e⟩
    · rw [List.getElem?_append_right (by omega)] at e
      by_cases h0 : i - m.length = 0
      · rw [h0] at e
        exact .inr ⟨by omega, by simpa using e.symm⟩
      · rw [List.getElem?_eq_none (by simp; omega)] at e
        cases e
  refine ⟨fun a z => ?_, by simp [rl], fun i j a e1 e2 => ?_, fun i a e => ?_, fun i e => ?_⟩
  · obtain ⟨h1, q⟩ := r.us a (List.mem_cons_of_mem _ z)
    refine ⟨fun y => ?_, q⟩
    rcases List.mem_append.mp y with y | y
    · exact h1 y
    · have : a = p := by simpa using y
      rw [this] at z; exact hp z
  · rcases cases_ i _ e1 with ⟨h1, e1⟩ | ⟨h1, e1⟩ <;> rcases cases_ j _ e2 with ⟨h2, e2⟩ | ⟨h2, e2⟩
    · exact r.inj i j a e1 e2
    · cases e2; exact absurd (List.mem_of_getElem? e1) hpm
    · cases e1; exact absurd (List.mem_of_getElem? e2) hpm
    · omega
  · rcases cases_ i _ e with ⟨h1, e1⟩ | ⟨h1, e1⟩
    · obtain ⟨z, hz, q⟩ := r.at_ i a e1
      exact ⟨z, by rw [List.getElem?_append_left (by rw [← rl]; exact h1)]; exact hz, q.sub hsub⟩
    · cases e1
      subst h1
      exact ⟨o, by rw [rl]; simp, ro.sub hsub⟩
  · rcases cases_ i _ e with ⟨h1, e1⟩ | ⟨h1, e1⟩
    · rw [List.getElem?_append_left (by rw [← rl]; exact h1)]
      exact r.dead i e1
    · cases e1
theorem ExtE.reu {M M' : Mm} {H H' : Hp} (x : ExtE M M' H H') (u : List Addr) : ExtE ⟨u, M.m⟩ ⟨u, M'.m⟩ H H' := ⟨rfl, x.trk, x.stab, x.fresh, x.len, x.pre⟩
theorem ExtE.beside {M M' : Mm} {H H' : Hp} {p : Addr} {o : HO} (x : ExtE M M' H H') (n : H p = none) : ExtE M M' H (upd H' p o) :=
  ⟨x.same, fun a u e => by obtain ⟨u', e'⟩ := x.trk a u e; exact trk_upd a u' e', fun a u e na => by rw [upd_ne (ne_of_none e n)]; exact x.stab a u e na, x.fresh, x.len, x.pre⟩
theorem ExtE.into {M : Mm} {m : List (Option Addr)} {H H' : Hp} {p : Addr} (x : ExtE M ⟨M.u, m⟩ H H') (n : H p = none) : Ext M ⟨p :: M.u, m⟩ H H' :=
  ⟨fun a z => by
    rcases List.mem_cons.mp z with rfl | z
    · exact .inr n
    · exact .inl z, x.trk, x.stab, x.fresh, x.len, fun i hi => .inl (x.pre i hi)⟩
theorem lc_imp {gi : IM} {k : TM} {t : BM} {f : EM} {ts vs : List Nat} {m : Bool} (hs : ∀ j ∈ ts, j ∈ vs) : ∀ σ H Q, tE (fLc m gi k t f vs) σ H Q → tLc (tI gi) (tGd ts k) (tT t) (tE f) vs σ H Q := fun σ H Q => by
  rintro ⟨M, h, ρ, r, rs, c⟩
  obtain ⟨ds, h1, e1, c1⟩ := Cont.bind (δ := Unit) c
  refine ⟨M, h, ρ, ds, h1, r, rs, e1, fun M1 H1 J x1 r1 it D nD => ?_⟩
  obtain ⟨out, h2, e2, c2⟩ := Cont.bind (δ := Unit) (c1 M1 H1 x1)
  have x0 := ext_made (M := M1) (o := .lst []) nD
  have r0 := r1.make (o := .lst []) nD
  have rs0 : RS (M1.made D) (upd H1 D (.lst [])) (wipeE ρ vs) (L2.wipe σ vs) := ((rs.mono x1).moveu x0 rfl).wipe vs
  let P : Nat → Hp → Prop := fun i Hi => ∃ mi hi acc dacc rest, ExtE M1 ⟨M1.u, mi⟩ H1 Hi ∧ Rep ⟨D :: M1.u, mi⟩ Hi hi ∧ RS ⟨D :: M1.u, mi⟩ Hi (wipeE ρ vs) (L2.wipe σ vs) ∧ Hi D = some (.lst acc) ∧ RDs ⟨D :: M1.u, mi⟩ Hi acc dacc ∧ lcL k t f (wipeE ρ vs) (ds.drop i) hi = some (rest, h2) ∧ dacc ++ rest = out
  have outlen : out.length ≤ sizeLine := by
    have c3 := c2 M1 H1 (.refl _ _)
    by_cases hz : out.length ≤ sizeLine
    · exact hz
    · rw [if_neg hz] at c3; exact c3.no.elim
  refine ⟨fun i n Hi => n + i = ds.length ∧ P i Hi, ⟨ds.length, by omega, M1.m, h1, [], [], out, (ExtE.refl M1 H1).beside nD, r0, rs0, upd_same, .nil, by rw [List.drop_zero]; exact e2, rfl⟩, fun i n Hi w => ?_⟩
  obtain ⟨hn, mi, hi, acc, dacc, rest, xi, ri, rsi, hD, qa, el, eo⟩ := w
  have inD : D ∈ (⟨D :: M1.u, mi⟩ : Mm).u := List.mem_cons_self
  have itx := xi.into nD
  obtain ⟨ity, its⟩ := it _ Hi itx fun a ha => ri.tracked ha
  by_cases hlt : i < ds.length
  · refine .inr ?_
    have ed : ds[i]? = some ds[i] := List.getElem?_eq_getElem hlt
    obtain ⟨go, yl⟩ := ity i _ ed
    rw [List.drop_eq_getElem_cons hlt] at el
    refine ⟨go, P (i + 1), fun H' p => ⟨n - 1, by omega, by omega, p⟩, fun x H2 hy => ?_⟩
    obtain ⟨sm, rx⟩ := yl x H2 hy
    obtain ⟨ri2, xi2⟩ := ri.grow sm
    unfold lcL at el
    split at el
    · rename_i ρ1 ek
      refine ⟨_, hi, wipeE ρ vs, .dat ds[i], ρ1, ri2, rsi.mono xi2, rx, ek, fun σ2 rs2 l2 o2 => ⟨wipe_of (by rw [l2, L2.wipe_length]) o2 hs, ?_⟩⟩
      cases et : t ρ1 hi with
      | none => rw [et] at el; cases el
      | some pr =>
        obtain ⟨b, h3⟩ := pr
        rw [et] at el
        simp only [obnd_some] at el
        refine ⟨_, hi, ρ1, ri2, rs2, b, h3, et, fun M3 H3 b' x3 r3 eb => ?_⟩
        subst eb
        obtain ⟨u3, m3⟩ := M3
        obtain rfl : u3 = D :: M1.u := x3.same
        have xi3 : ExtE M1 ⟨M1.u, m3⟩ H1 H3 := xi.trans ((xi2.trans x3).reu M1.u)
        have hD3 : H3 D = some (.lst acc) := x3.stab _ _ (sm _ _ hD) fun z => (ri.us D inD).1 z
        cases b' with
        | false =>
          simp only [Bool.false_eq_true, if_false] at el
          exact iteF ⟨m3, h3, acc, dacc, rest, xi3, r3, (rsi.mono xi2).mono x3, hD3, (qa.mono xi2.ext).mono x3.ext, el, eo⟩
        | true =>
          simp only [if_true] at el
          refine iteT ?_
          cases ef : f ρ1 h3 with
          | none => rw [ef] at el; cases el
          | some pr =>
            obtain ⟨w, h4⟩ := pr
            rw [ef] at el
            simp only [obnd_some] at el
            refine ⟨_, h3, ρ1, r3, rs2.mono x3, w, h4, ef, fun M4 H4 y x4 r4 ry => ?_⟩
            obtain ⟨u4, m4⟩ := M4
            obtain rfl : u4 = D :: M1.u := x4.same
            have hD4 : H4 D = some (.lst acc) := x4.stab _ _ hD3 fun z => (r3.us D List.mem_cons_self).1 z
            split at el
            · rename_i d'
              cases er : lcL k t f (wipeE ρ vs) (ds.drop (i + 1)) h4 with
              | none => rw [er] at el; cases el
              | some pr =>
                obtain ⟨rest', h5⟩ := pr
                rw [er] at el
                simp only [obnd_some, Option.some.injEq, Prod.mk.injEq] at el
                obtain ⟨e5, e6⟩ := el
                subst e5 e6
                have q4 := ((qa.mono xi2.ext).mono x3.ext).mono x4.ext
                have hlen : acc.length < sizeLine := by
                  have h7 := congrArg List.length eo
                  rw [List.length_append, List.length_cons] at h7
                  rw [qa.length]; omega
                have in4 : D ∈ (⟨D :: M1.u, m4⟩ : Mm).u := List.mem_cons_self
                exact ⟨acc, hD4, hlen, m4, h4, acc ++ [y], dacc ++ [d'], rest', (xi3.trans (x4.reu M1.u)).beside nD, r4.off in4, (((rsi.mono xi2).mono x3).mono x4).off in4, upd_same, (q4.off in4).app (.cons (RD.off in4 ry) .nil), er, by rw [List.append_assoc]; exact eo⟩
            · cases el
    · cases el
  · refine .inl ?_
    have hi' : i = ds.length := by omega
    subst hi'
    rw [List.drop_length] at el
    cases el
    rw [List.append_nil] at eo
    subst eo
    refine ⟨its, ?_⟩
    have c3 := c2 M1 H1 (.refl _ _)
    rw [if_pos outlen] at c3
    have nu : D ∉ M1.u := fun z => r1.new nD (.inl z)
    have nm : some D ∉ mi := (ri.us D inD).1
    cases m with
    | false =>
      exact c3.fin xi ri.told (RD.lst (fun z => z.elim nu nm) hD (qa.sub less_has))
    | true =>
      refine c3.fin (M' := ⟨M1.u, mi ++ [some D]⟩) ⟨rfl, xi.trk, xi.stab, fun a z => ?_, Nat.le_trans xi.len (by simp), fun j hj => ?_⟩ (ri.owned nu ⟨acc, hD, qa⟩) ⟨D, ?_, rfl⟩
      · rcases List.mem_append.mp z with z | z
        · exact xi.fresh a z
        · have : a = D := by simpa using z
          rw [this]; exact .inr nD
      · have hl : j < mi.length := Nat.lt_of_lt_of_le hj xi.len
        show (mi ++ [some D])[j]? = _
        rw [List.getElem?_append_left hl]; exact xi.pre j hj
      · show (mi ++ [some D])[h2.length]? = _
        rw [← show mi.length = h2.length from ri.len]; simp
section
variable {X : Cx}
theorem d_lc (m : Bool) {elt tg iter : Expr} {ifs : List Expr} {scope : Scope} {own : List (Str × Nat)} {pos : Pos} {gi : IM} {ts : List Nat} {k : TM} {t : BM} {f : EM} (hc : X.calm = true) (hN : X.N.Nodup) (hi : DI X tg iter gi) (ok : BlkOk X.N X.env.scope scope own)
    (hg : ∀ (s : Shared) (H : Hp) (C : Addr) (cl : List (Str × Addr)) (fp : List Addr), DG (X.blk s H scope (compEnvC scope cl C X.env) fp) tg ts k) (ht : ∀ (s : Shared) (H : Hp) (C : Addr) (cl : List (Str × Addr)) (fp : List Addr), DTs (X.blk s H scope (compEnvC scope cl C X.env) fp) ifs t)
    (he : ∀ (s : Shared) (H : Hp) (C : Addr) (cl : List (Str × Addr)) (fp : List Addr), DE (X.blk s H scope (compEnvC scope cl C X.env) fp) elt f) (hsub : ∀ j ∈ ts, j ∈ own.map (·.2)) (hs : ∀ x, foldedSetIterable iter X.env x = pure x := by intro _; rfl) :
    DE X (.ListComp elt [⟨tg, iter, ifs, 0⟩] scope pos) (fLc m gi k t f (own.map (·.2))) := (pe_lc hc hN hi ok hg ht he hs).weak (lc_imp hsub)
end
end DL
set_option maxRecDepth 100000
set_option maxHeartbeats 4000000
namespace DL
open PySem PySem.Spec PyProof.Rows L2
variable [HW]
inductive Out where
  | nx (ρ : Env) | rt (w : W) | bk (ρ : Env) | ct (ρ : Env)
abbrev SM := Env → Hh → Option (Out × Hh)
def SPost (D : Ends) (M0 : Mm) (H0 : Hp) (r : Option (Out × Hh)) : Prop := match r with
  | some (.nx ρ, h) => ∀ M H σ, M.u = M0.u → Ext M0 M H0 H → Rep M H h → RS M H ρ σ → D.nx σ H
  | some (.rt w, h) => ∀ M H v, M.u = M0.u → Ext M0 M H0 H → Rep M H h → RV M H v w → D.rt v H
  | some (.bk ρ, h) => ∀ M H σ, M.u = M0.u → Ext M0 M H0 H → Rep M H h → RS M H ρ σ → D.bk σ H
  | some (.ct ρ, h) => ∀ M H σ, M.u = M0.u → Ext M0 M H0 H → Rep M H h → RS M H ρ σ → D.ct σ H
  | none => False
theorem SPost.mono {D : Ends} {M0 M1 : Mm} {H0 H1 : Hp} {r : Option (Out × Hh)} (p : SPost D M0 H0 r) (u : M1.u = M0.u) (x : Ext M0 M1 H0 H1) : SPost D M1 H1 r := by
  match r, p with
  | some (.nx ρ, h), p => exact fun M H σ e y => p M H σ (e.trans u) (x.trans y)
  | some (.rt w, h), p => exact fun M H σ e y => p M H σ (e.trans u) (x.trans y)
  | some (.bk ρ, h), p => exact fun M H σ e y => p M H σ (e.trans u) (x.trans y)
  | some (.ct ρ, h), p => exact fun M H σ e y => p M H σ (e.trans u) (x.trans y)
def tS (f : SM) : TS := fun D σ H => ∃ M h ρ, Rep M H h ∧ RS M H ρ σ ∧ SPost D M H (f ρ h)
abbrev DS (X : Cx) (st : Stmt) (f : SM) : Prop := PS X st (tS f)
abbrev DSs (X : Cx) (sts : List Stmt) (f : SM) : Prop := PSs X sts (tS f)
def sSeq (f g : SM) : SM := fun ρ h => match f ρ h with
  | some (.nx ρ1, h1) => g ρ1 h1
  | r => r
def sSkip : SM := fun ρ h => some (.nx ρ, h)
def sNever : SM := fun _ _ => none
section
variable {X : Cx}
theorem seq_imp {f g : SM} : ∀ D σ H, tS (sSeq f g) D σ H → tSeq (tS f) (tS g) D σ H := fun D σ H => by
  rintro ⟨M, h, ρ, r, rs, p⟩
  refine ⟨M, h, ρ, r, rs, ?_⟩
  unfold sSeq at p
  cases e : f ρ h with
  | none => rw [e] at p; exact p
  | some q =>
    obtain ⟨o, h1⟩ := q
    rw [e] at p
    cases o with
    | nx ρ1 => exact fun M1 H1 σ1 u x r1 rs1 => ⟨M1, h1, ρ1, r1, rs1, p.mono u x⟩
    | rt w => exact p
    | bk ρ1 => exact p
    | ct ρ1 => exact p
theorem ds_cons {st : Stmt} {sts : List Stmt} {f g : SM} (h1 : DS X st f) (h2 : DSs X sts g) : DSs X (st :: sts) (sSeq f g) := (pss_cons h1 h2).weak seq_imp
theorem ds_one {st : Stmt} {f : SM} (h1 : DS X st f) : DSs X [st] f := pss_one h1
theorem ds_nil : DSs X [] sSkip := pss_nil.weak fun D σ H => by
  rintro ⟨M, h, ρ, r, rs, p⟩
  exact p M H σ rfl (.refl _ _) r rs
theorem ds_never {st : Stmt} : DS X st sNever := ps_never.weak fun D σ H => by
  rintro ⟨M, h, ρ, r, rs, p⟩
  exact p
def sbnd {α : Type} (r : Option (α × Hh)) (k : α → Hh → Option (Out × Hh)) : Option (Out × Hh) := match r with
  | some (a, h) => k a h
  | none => none
@[simp] theorem sbnd_some {α : Type} (a : α) (h : Hh) (k : α → Hh → Option (Out × Hh)) : sbnd (some (a, h)) k = k a h := rfl
@[simp] theorem sbnd_none {α : Type} (k : α → Hh → Option (Out × Hh)) : sbnd none k = none := rfl
theorem SPost.bind {α : Type} {D : Ends} {M : Mm} {H : Hp} {r : Option (α × Hh)} {k : α → Hh → Option (Out × Hh)} (p : SPost D M H (sbnd r k)) : ∃ a h1, r = some (a, h1) ∧ SPost D M H (k a h1) := by
  cases r with
  | none => exact p.elim
  | some q => obtain ⟨a, h1⟩ := q; exact ⟨a, h1, rfl, p⟩
def sExpr (f : EM) : SM := fun ρ h => sbnd (f ρ h) fun _ h1 => some (.nx ρ, h1)
theorem ds_expr {e : Expr} {pos : Pos} {f : EM} (he : DE X e f) (hs : swapsWith e none pos.line X.env = pure false := by rfl) : DS X (.Expr e pos) (sExpr f) := (ps_expr he hs).weak fun D σ H => by
  rintro ⟨M, h, ρ, r, rs, p⟩
  obtain ⟨w, h1, e1, p1⟩ := p.bind
  exact ⟨M, h, ρ, r, rs, w, h1, e1, fun M1 H1 v x1 r1 v1 => p1 M1 H1 σ x1.same x1.ext r1 (rs.mono x1)⟩
def sRet (f : EM) : SM := fun ρ h => sbnd (f ρ h) fun w h1 => some (.rt w, h1)
theorem ds_ret {e : Expr} {pos : Pos} {f : EM} (he : DE X e f) : DS X (.Return (some e) pos) (sRet f) := (ps_ret he).weak fun D σ H => by
  rintro ⟨M, h, ρ, r, rs, p⟩
  obtain ⟨w, h1, e1, p1⟩ := p.bind
  exact ⟨M, h, ρ, r, rs, w, h1, e1, fun M1 H1 v x1 r1 v1 => p1 M1 H1 v x1.same x1.ext r1 v1⟩
def sRetN : SM := fun _ h => some (.rt (.dat .none), h)
def sIf (t : BM) (f g : SM) : SM := fun ρ h => sbnd (t ρ h) fun b h1 => if b = true then f ρ h1 else g ρ h1
theorem ds_if {c : Expr} {a b : List Stmt} {pos : Pos} {t : BM} {f g : SM} (hc : DT X c t) (ha : DSs X a f) (hb : DSs X b g) : DS X (.If c a b pos) (sIf t f g) := (ps_if hc ha hb).weak fun D σ H => by
  rintro ⟨M, h, ρ, r, rs, p⟩
  obtain ⟨w, h1, e1, p1⟩ := p.bind
  refine ⟨M, h, ρ, r, rs, w, h1, e1, fun M1 H1 v x1 r1 v1 => ?_⟩
  subst v1
  have p2 := p1.mono x1.same x1.ext
  cases v with
  | true => exact iteT ⟨M1, h1, ρ, r1, rs.mono x1, p2⟩
  | false => exact iteF ⟨M1, h1, ρ, r1, rs.mono x1, p2⟩
def sAsg (f : EM) (g : TM) : SM := fun ρ h => sbnd (f ρ h) fun w h1 => match g w ρ h1 with
  | some ρ1 => some (.nx ρ1, h1)
  | none => none
theorem asg_imp {f : EM} {g : TM} {ts : List Nat} : ∀ D σ H, tS (sAsg f g) D σ H → tAsg (tE f) (tGd ts g) D σ H := fun D σ H => by
  rintro ⟨M, h, ρ, r, rs, p⟩
  obtain ⟨w, h1, e1, p1⟩ := p.bind
  refine ⟨M, h, ρ, r, rs, w, h1, e1, fun M1 H1 v x1 r1 v1 => ?_⟩
  split at p1
  · rename_i ρ1 e2
    exact ⟨M1, h1, ρ, w, ρ1, r1, rs.mono x1, v1, e2, fun σ' rs' _ _ => p1 M1 H1 σ' x1.same x1.ext r1 rs'⟩
  · exact p1.elim
theorem ds_asg {tg e : Expr} {pos : Pos} {f : EM} {g : TM} {ts : List Nat} (he : DE X e f) (hg : DG X tg ts g) (hs : swapsWithSole [tg] e pos.line X.env = pure false := by rfl) (hw : swappedStores [tg] e X.env = pure none := by rfl) (h1 : (assignEach [tg] X.env).map (·.2) = [assign tg X.env] := by rfl) : DS X (.Assign [tg] e pos) (sAsg f g) := (ps_asg he hg hs hw h1).weak asg_imp
theorem ds_set {i : Nat} {x : Str} {e : Expr} {pos pos' : Pos} {f : EM} (h : PS X (.Assign [.Name x pos'] e pos) (tAsg (tE f) (gName i))) : DS X (.Assign [.Name x pos'] e pos) (sAsg f (gN i)) := h.weak fun D σ H => by
  rintro ⟨M, h, ρ, r, rs, p⟩
  obtain ⟨w, h1, e1, p1⟩ := p.bind
  exact ⟨M, h, ρ, r, rs, w, h1, e1, fun M1 H1 v x1 r1 v1 => p1 M1 H1 _ x1.same x1.ext r1 ((rs.mono x1).set v1)⟩
theorem ds_setLc (m : Bool) {i : Nat} {y : Str} {py : Pos} {elt tg iter : Expr} {ifs : List Expr} {scope : Scope} {own : List (Str × Nat)} {pos spos : Pos} {gi : IM} {ts : List Nat} {k : TM} {t : BM} {f : EM} (hc : X.calm = true) (hN : X.N.Nodup) (hy : X.N[i]? = some y) (hyl : X.env.scope.names.lookup y = some .local)
    (hsw : swapsWith (.ListComp elt [⟨tg, iter, ifs, 0⟩] scope pos) (some (.Name y py)) spos.line X.env = pure true) (hi : DI X tg iter gi) (ok : BlkOk X.N X.env.scope scope own)
    (hg : ∀ (s : Shared) (H : Hp) (C : Addr) (cl : List (Str × Addr)) (fp : List Addr), DG (X.blk s H scope (compEnvC scope cl C X.env) fp) tg ts k) (ht : ∀ (s : Shared) (H : Hp) (C : Addr) (cl : List (Str × Addr)) (fp : List Addr), DTs (X.blk s H scope (compEnvC scope cl C X.env) fp) ifs t)
    (he : ∀ (s : Shared) (H : Hp) (C : Addr) (cl : List (Str × Addr)) (fp : List Addr), DE (X.blk s H scope (compEnvC scope cl C X.env) fp) elt f) (hsub : ∀ j ∈ ts, j ∈ own.map (·.2)) (hs : ∀ x, foldedSetIterable iter X.env x = pure x := by intro _; rfl) :
    DS X (.Assign [.Name y py] (.ListComp elt [⟨tg, iter, ifs, 0⟩] scope pos) spos) (sAsg (fLc m gi k t f (own.map (·.2))) (gN i)) := (ps_setLc hc hN hy hyl hsw hi ok hg ht he hs).weak fun D σ H => by
  rintro ⟨M, h, ρ, r, rs, p⟩
  obtain ⟨w, h1, e1, p1⟩ := p.bind
  exact lc_imp hsub σ H _ ⟨M, h, ρ, r, rs, w, h1, e1, fun M1 H1 v x1 r1 v1 => p1 M1 H1 _ x1.same x1.ext r1 ((rs.mono x1).set v1)⟩
def sPar (g : AM) (is : List Nat) : SM := fun ρ h => sbnd (g ρ h) fun ws h1 => if ws.length = is.length then some (.nx ((is.zip ws).foldl (fun ρ p => ρ.set p.1 (some p.2)) ρ), h1) else none
theorem ds_par2 {i j : Nat} {st : Stmt} {g : AM} (h : PS X st (tPar i j (tA g))) : DS X st (sPar g [i, j]) := h.weak fun D σ H => by
  rintro ⟨M, h, ρ, r, rs, p⟩
  obtain ⟨ws, h1, e1, p1⟩ := p.bind
  refine ⟨M, h, ρ, r, rs, ws, h1, e1, fun M1 H1 vs x1 r1 v1 => ?_⟩
  split at p1
  · rename_i hz
    match ws, hz, v1, p1 with
    | [w1, w2], _, v1, p1 =>
      obtain ⟨a, b, rfl, ra, rb⟩ := rvs2 v1
      exact ⟨a, b, rfl, p1 M1 H1 _ x1.same x1.ext r1 (((rs.mono x1).set ra).set rb)⟩
  · exact p1.elim
def setW (o i : W) (w : W) (h : Hh) : Option Hh := match o, i, w with
  | .ref n, .dat (.int k), .dat d => match lstAt h n with
    | some ds => match ixN ds.length k with
      | some j => some (h.set n (some (.lst (ds.set j d))))
      | none => none
    | none => none
  | _, _, _ => none
def sSub (f o i : EM) : SM := fun ρ h => sbnd (f ρ h) fun w h1 => sbnd (o ρ h1) fun a h2 => sbnd (i ρ h2) fun b h3 => match setW a b w h3 with
  | some h4 => some (.nx ρ, h4)
  | none => none
theorem sub_imp {f o i : EM} : ∀ D σ H, tS (sSub f o i) D σ H → tAsg (tE f) (gSub (tE o) (tE i) rSetL) D σ H := fun D σ H => by
  rintro ⟨M, h, ρ, r, rs, p⟩
  obtain ⟨w, h1, e1, p1⟩ := p.bind
  refine ⟨M, h, ρ, r, rs, w, h1, e1, fun M1 H1 v x1 r1 v1 => ?_⟩
  obtain ⟨a, h2, e2, p2⟩ := p1.bind
  refine ⟨M1, h1, ρ, r1, rs.mono x1, a, h2, e2, fun M2 H2 v' x2 r2 v2 => ?_⟩
  obtain ⟨b, h3, e3, p3⟩ := p2.bind
  refine ⟨M2, h2, ρ, r2, (rs.mono x1).mono x2, b, h3, e3, fun M3 H3 v'' x3 r3 v3 => ?_⟩
  have ra := v2.mono x3
  have rw' := (v1.mono x2).mono x3
  unfold setW at p3
  split at p3
  · rename_i h4 e4
    split at e4
    · rename_i n k d
      obtain ⟨ad, ea, rfl⟩ := ra
      cases (show RD M3 H3 _ _ from v3)
      split at e4
      · rename_i ds el
        obtain ⟨xs, hx, q⟩ := lstAt_ok r3 el ea
        split at e4
        · rename_i j ej
          cases e4
          refine ⟨ad, xs, k, j, rfl, rfl, hx, by rw [q.length]; exact ej, ?_⟩
          have x4 := ext_set (H := H3) (o := .lst (xs.set j v)) ea
          have xx := ((x1.trans x2).trans x3).trans x4
          exact p3 M3 _ σ xx.same xx.ext (r3.set ea ⟨_, upd_same, (q.set j rw').mono x4.ext⟩) (rs.mono xx)
        · cases e4
      · cases e4
    · cases e4
  · exact p3.elim
theorem ds_sub {o i e : Expr} {pos tpos : Pos} {f fo fi : EM} (he : DE X e f) (ho : DE X o fo) (hi : DE X i fi) (h : PS X (.Assign [.Subscript o i tpos] e pos) (tAsg (tE f) (gSub (tE fo) (tE fi) rSetL))) : DS X (.Assign [.Subscript o i tpos] e pos) (sSub f fo fi) := h.weak sub_imp
def forL (k : TM) (body : SM) : List D → Env → Hh → Option (Out × Hh)
  | [], ρ, h => some (.nx ρ, h)
  | d :: ds, ρ, h => match k (.dat d) ρ h with
    | some ρ1 => match body ρ1 h with
      | some (.nx ρ2, h2) => forL k body ds ρ2 h2
      | some (.ct ρ2, h2) => forL k body ds ρ2 h2
      | some (.bk ρ2, h2) => some (.nx ρ2, h2)
      | some (.rt w, h2) => some (.rt w, h2)
      | none => none
    | none => none
def sFor (gi : IM) (k : TM) (body : SM) : SM := fun ρ h => sbnd (gi ρ h) fun ds h1 => forL k body ds ρ h1
theorem for_imp {gi : IM} {k : TM} {body : SM} {ts : List Nat} : ∀ D σ H, tS (sFor gi k body) D σ H → tFor (tI gi) (tGd ts k) (tS body) D σ H := fun D σ H => by
  rintro ⟨M, h, ρ, r, rs, p⟩
  obtain ⟨ds, h1, e1, p1⟩ := p.bind
  refine ⟨M, h, ρ, ds, h1, r, rs, e1, fun M1 H1 J x1 r1 it => ?_⟩
  have p2 := p1.mono x1.same x1.ext
  let P : Nat → L2.St → Hp → Prop := fun i σi Hi => ∃ Mi hi ρi, Mi.u = M1.u ∧ Ext M1 Mi H1 Hi ∧ Rep Mi Hi hi ∧ RS Mi Hi ρi σi ∧ SPost D Mi Hi (forL k body (ds.drop i) ρi hi)
  refine ⟨fun i n σi Hi => n + i = ds.length ∧ P i σi Hi, ⟨ds.length, by omega, M1, h1, ρ, rfl, .refl _ _, r1, rs.mono x1, by rw [List.drop_zero]; exact p2⟩, fun i n σi Hi w => ?_⟩
  obtain ⟨hn, Mi, hi, ρi, ui, xi, ri, rsi, pi⟩ := w
  obtain ⟨ity, its⟩ := it Mi Hi xi fun a ha => ri.tracked ha
  by_cases hlt : i < ds.length
  · refine .inr ?_
    have ed : ds[i]? = some ds[i] := List.getElem?_eq_getElem hlt
    obtain ⟨go, yl⟩ := ity i _ ed
    rw [List.drop_eq_getElem_cons hlt] at pi
    refine ⟨go, P (i + 1), fun σ' H' q => ⟨n - 1, by omega, by omega, q⟩, fun x H2 hy => ?_⟩
    obtain ⟨sm, rx⟩ := yl x H2 hy
    obtain ⟨ri2, xi2⟩ := ri.grow sm
    unfold forL at pi
    split at pi
    · rename_i ρ1 ek
      refine ⟨Mi, hi, ρi, .dat ds[i], ρ1, ri2, rsi.mono xi2, rx, ek, fun σ2 rs2 _ _ => ⟨Mi, hi, ρ1, ri2, rs2, ?_⟩⟩
      have pi' := pi.mono rfl xi2.ext
      cases eb : body ρ1 hi with
      | none => rw [eb] at pi'; exact pi'.elim
      | some q =>
        obtain ⟨o, h3⟩ := q
        rw [eb] at pi'
        cases o with
        | nx ρ2 => exact fun M3 H3 σ3 u3 x3 r3 rs3 => ⟨M3, h3, ρ2, u3.trans ui, (xi.trans xi2.ext).trans x3, r3, rs3, SPost.mono pi' u3 x3⟩
        | ct ρ2 => exact fun M3 H3 σ3 u3 x3 r3 rs3 => ⟨M3, h3, ρ2, u3.trans ui, (xi.trans xi2.ext).trans x3, r3, rs3, SPost.mono pi' u3 x3⟩
        | bk ρ2 => exact pi'
        | rt w => exact pi'
    · exact pi.elim
  · refine .inl ?_
    have hi' : i = ds.length := by omega
    subst hi'
    rw [List.drop_length] at pi
    exact ⟨its, pi Mi Hi σi rfl (.refl _ _) ri rsi⟩
theorem ds_for {tg iter : Expr} {body : List Stmt} {pos : Pos} {gi : IM} {k : TM} {ts : List Nat} {f : SM} (hc : X.calm = true) (hp : PassesOwn (model X.prog X.w) X.A X.env X.xe) (hi : DI X tg iter gi) (hg : DG X tg ts k) (hb : DSs X body f) (hs : ∀ x, foldedSetIterable iter X.env x = pure x := by intro _; rfl) : DS X (.For tg iter body [] pos) (sFor gi k f) :=
  (ps_for hp hc hi hg hb hs).weak for_imp
def whileL (t : BM) (body : SM) : Nat → Env → Hh → Option (Out × Hh)
  | 0, _, _ => none
  | n + 1, ρ, h => sbnd (t ρ h) fun b h1 => if b = true then match body ρ h1 with
      | some (.nx ρ2, h2) => whileL t body n ρ2 h2
      | some (.ct ρ2, h2) => whileL t body n ρ2 h2
      | some (.bk ρ2, h2) => some (.nx ρ2, h2)
      | some (.rt w, h2) => some (.rt w, h2)
      | none => none
    else some (.nx ρ, h1)
def sWhile (n : Nat) (t : BM) (body : SM) : SM := whileL t body n
theorem while_imp {n : Nat} {t : BM} {body : SM} : ∀ D σ H, tS (sWhile n t body) D σ H → tWhile (tT t) (tS body) D σ H := fun D σ H => by
  rintro ⟨M, h, ρ, r, rs, p⟩
  refine ⟨fun m σi Hi => ∃ Mi hi ρi, Mi.u = M.u ∧ Ext M Mi H Hi ∧ Rep Mi Hi hi ∧ RS Mi Hi ρi σi ∧ SPost D Mi Hi (whileL t body m ρi hi), ⟨n, M, h, ρ, rfl, .refl _ _, r, rs, p⟩, fun m σi Hi w => ?_⟩
  obtain ⟨Mi, hi, ρi, ui, xi, ri, rsi, pi⟩ := w
  cases m with
  | zero => exact pi.elim
  | succ m =>
    unfold whileL at pi
    obtain ⟨b, h1, e1, p1⟩ := pi.bind
    refine ⟨Mi, hi, ρi, ri, rsi, b, h1, e1, fun M1 H1 v x1 r1 v1 => ?_⟩
    subst v1
    have p2 := p1.mono x1.same x1.ext
    cases v with
    | true =>
      simp only [if_true] at p2
      refine iteT ⟨fun σ' H' => ∃ Mi hi ρi, Mi.u = M.u ∧ Ext M Mi H H' ∧ Rep Mi H' hi ∧ RS Mi H' ρi σ' ∧ SPost D Mi H' (whileL t body m ρi hi), fun σ' H' q => ⟨m, Nat.lt_succ_self m, q⟩, M1, h1, ρi, r1, rsi.mono x1, ?_⟩
      cases eb : body ρi h1 with
      | none => rw [eb] at p2; exact p2.elim
      | some q =>
        obtain ⟨o, h3⟩ := q
        rw [eb] at p2
        cases o with
        | nx ρ2 => exact fun M3 H3 σ3 u3 x3 r3 rs3 => ⟨M3, h3, ρ2, (u3.trans x1.same).trans ui, (xi.trans x1.ext).trans x3, r3, rs3, SPost.mono p2 u3 x3⟩
        | ct ρ2 => exact fun M3 H3 σ3 u3 x3 r3 rs3 => ⟨M3, h3, ρ2, (u3.trans x1.same).trans ui, (xi.trans x1.ext).trans x3, r3, rs3, SPost.mono p2 u3 x3⟩
        | bk ρ2 => exact p2
        | rt w => exact p2
    | false => exact iteF (p2 M1 H1 σi rfl (.refl _ _) r1 (rsi.mono x1))
theorem ds_while (n : Nat) {c : Expr} {body : List Stmt} {pos : Pos} {t : BM} {f : SM} (hp : PassesOwn (model X.prog X.w) X.A X.env X.xe) (hc : DT X c t) (hb : DSs X body f) : DS X (.While c body [] pos) (sWhile n t f) := (ps_while hp hc hb).weak while_imp
end
abbrev FM := List W → Hh → Option (W × Hh)
def live (h : Hh) : List Bool := h.map Option.isSome
def leave (rm : Bool) (h : Hh) (w : W) (h' : Hh) : Option (W × Hh) := if live (h'.take h.length) = live h then match w with
    | .ref n => if n < h.length then some (.ref n, h'.take h.length) else match h'[n]? with
      | some (some (.lst ds)) => if rm = true then some (.ref h.length, h'.take h.length ++ [some (.lst ds)]) else some (.dat (.list ds), h'.take h.length)
      | some (some (.dic es)) => if rm = true then some (.ref h.length, h'.take h.length ++ [some (.dic es)]) else some (.dat (.dict es), h'.take h.length)
      | some (some (.dit es)) => if rm = true then some (.ref h.length, h'.take h.length ++ [some (.dit es)]) else none
      | _ => none
    | .pack _ => none
    | .lock _ => none
    | w => some (w, h'.take h.length)
  else none
def fnM (rm : Bool) (np nl : Nat) (body : SM) : FM := fun ws h => if ws.length = np then match body (ws.map some ++ List.replicate (nl - np) none) h with
    | some (.rt w, h') => leave rm h w h'
    | some (.nx _, h') => leave rm h (.dat .none) h'
    | _ => none
  else none
def spD (m : FM) : Sp := fun vs H Q _ => ∃ M h ws, Rep M H h ∧ RVs M H vs ws ∧ Cont RV (m ws h) M H Q
end DL
set_option maxRecDepth 100000
set_option maxHeartbeats 400000
namespace DL
open PySem PySem.Spec PyProof.Rows L2
variable [HW]
theorem live_get {h h' : Hh} (e : live (h'.take h.length) = live h) {i : Nat} (hi : i < h.length) : (h'[i]?).map Option.isSome = (h[i]?).map Option.isSome := by
  have := congrArg (fun l => l[i]?) e
  simp only [live, List.getElem?_map] at this
  rw [List.getElem?_take_of_lt hi] at this
  exact this
section
variable {M M' : Mm} {H H' : Hp} {h h' : Hh}
theorem leave_same (x : Ext M M' H H') (r : Rep M H h) (r' : Rep M' H' h') (e : live (h'.take h.length) = live h) {i : Nat} {a : Addr} (q : M.m[i]? = some (some a)) : M'.m[i]? = some (some a) := by
  have hi := lt_of_get q
  rcases x.kill i hi with k | k
  · rw [k]; exact q
  · have d := r'.dead i k
    obtain ⟨o, ho, _⟩ := r.at_ i a q
    have l := live_get e (i := i) (by rw [← r.len]; exact hi)
    rw [d, ho] at l
    cases l
theorem leave_has (x : Ext M M' H H') (u : M'.u = M.u) (r : Rep M H h) (r' : Rep M' H' h') (e : live (h'.take h.length) = live h) : ∀ b, M.Has b → M'.Has b := fun b z => by
  rcases z with z | z
  · exact .inl (by rw [u]; exact z)
  · obtain ⟨i, hi, q⟩ := List.getElem_of_mem z
    exact .inr (List.mem_of_getElem? (leave_same x r r' e (i := i) (by rw [List.getElem?_eq_getElem hi, q])))
theorem leave_rep (x : Ext M M' H H') (u : M'.u = M.u) (r : Rep M H h) (r' : Rep M' H' h') (e : live (h'.take h.length) = live h) : Rep M H' (h'.take h.length) := by
  have hl : (h'.take h.length).length = h.length := by
    have := congrArg List.length e
    simpa [live] using this
  refine ⟨fun a z => ?_, by rw [hl]; exact r.len, r.inj, fun i a q => ?_, fun i q => ?_⟩
  · obtain ⟨h1, o, h2, ht⟩ := r.us a z
    exact ⟨h1, o, x.stab a o h2 h1, ht⟩
  · obtain ⟨o, ho, ro⟩ := r'.at_ i a (leave_same x r r' e q)
    exact ⟨o, by rw [List.getElem?_take_of_lt (by rw [← r.len]; exact lt_of_get q)]; exact ho, ro.sub (leave_has x u r r' e)⟩
  · have hi : i < h.length := by rw [← r.len]; exact lt_of_get q
    have l := live_get e hi
    rw [r.dead i q] at l
    rw [List.getElem?_take_of_lt hi]
    cases z : h'[i]? with
    | none => rw [z] at l; cases l
    | some o =>
      rw [z] at l
      cases o with
      | none => rfl
      | some _ => cases l
theorem leave_ext (x : Ext M M' H H') : ExtE M M H H' := ⟨rfl, x.trk, x.stab, fun _ m => .inl m, Nat.le_refl _, fun _ _ => rfl⟩
theorem leave_out (x : Ext M M' H H') (u : M'.u = M.u) (r : Rep M H h) (r' : Rep M' H' h') (e : live (h'.take h.length) = live h) {n : Nat} {a : Addr} (hn : ¬ n < h.length) (q : M'.m[n]? = some (some a)) : ¬ M.Has a := fun z => by
  rcases z with z | z
  · exact (r'.us a (by rw [u]; exact z)).1 (List.mem_of_getElem? q)
  · obtain ⟨i, hi, qi⟩ := List.getElem_of_mem z
    have q' := leave_same x r r' e (i := i) (by rw [List.getElem?_eq_getElem hi, qi])
    have := r'.inj i n a q' q
    rw [r.len] at hi
    omega
theorem leave_mut (x : Ext M M' H H') (u : M'.u = M.u) (r : Rep M H h) (r' : Rep M' H' h') (e : live (h'.take h.length) = live h) {n : Nat} {a : Addr} {o : MO} (hn : ¬ n < h.length) (q : M'.m[n]? = some (some a)) (ho : h'[n]? = some (some o)) :
    Rep ⟨M.u, M.m ++ [some a]⟩ H' (h'.take h.length ++ [some o]) ∧ ExtE M ⟨M.u, M.m ++ [some a]⟩ H H' := by
  have out := leave_out x u r r' e hn q
  obtain ⟨o', ho', ro⟩ := r'.at_ n a q
  rw [ho] at ho'; cases ho'
  have R := leave_rep x u r r' e
  have hsub : ∀ b, Mm.Has ⟨a :: M.u, M.m⟩ b → M'.Has b := fun b z => by
    rcases z with z | z
    · rcases List.mem_cons.mp z with rfl | z
      · exact .inr (List.mem_of_getElem? q)
      · exact .inl (by rw [u]; exact z)
    · exact leave_has x u r r' e b (.inr z)
  have R2 : Rep ⟨a :: M.u, M.m⟩ H' (h'.take h.length) := by
    refine ⟨fun b z => ?_, R.len, R.inj, fun i b z => ?_, R.dead⟩
    · rcases List.mem_cons.mp z with rfl | z
      · exact ⟨fun y => out (.inr y), ro.kind⟩
      · exact R.us b z
    · obtain ⟨w, hw, rw'⟩ := r'.at_ i b (leave_same x r r' e z)
      exact ⟨w, by rw [List.getElem?_take_of_lt (by rw [← r.len]; exact lt_of_get z)]; exact hw, rw'.sub hsub⟩
  refine ⟨R2.owned (fun y => out (.inl y)) (ro.sub hsub), ⟨rfl, x.trk, x.stab, fun b z => ?_, by simp, fun i hi => List.getElem?_append_left hi⟩⟩
  rcases List.mem_append.mp z with z | z
  · exact .inl z
  · have : b = a := by simpa using z
    subst this
    exact x.fresh b (List.mem_of_getElem? q)
theorem leave_ok {rm : Bool} {w : W} {v : V} {Q : VK} (x : Ext M M' H H') (u : M'.u = M.u) (r : Rep M H h) (r' : Rep M' H' h') (rv : RV M' H' v w) (c : Cont RV (leave rm h w h') M H Q) : Q v H' := by
  unfold leave at c
  split at c
  · rename_i e
    have sub := leave_has x u r r' e
    have R := leave_rep x u r r' e
    split at c
    · rename_i n
      obtain ⟨a, ea, rfl⟩ := rv
      split at c
      · rename_i hn
        refine c.fin (leave_ext x) R ⟨a, ?_, rfl⟩
        rcases x.kill n (by rw [r.len]; exact hn) with k | k
        · rw [← k]; exact ea
        · rw [ea] at k; cases k
      · rename_i hn
        have out := leave_out x u r r' e hn ea
        obtain ⟨o, ho, ro⟩ := r'.at_ n a ea
        rw [ho] at c
        have hlen : M.m.length = (h'.take h.length).length := R.len
        have hl : (h'.take h.length).length = h.length := by
          have := congrArg List.length e
          simpa [live] using this
        cases o with
        | lst ds =>
          obtain ⟨xs, hx, q⟩ := ro
          cases rm with
          | false => exact c.fin (leave_ext x) R (RD.lst out hx (q.sub sub))
          | true =>
            obtain ⟨R2, x2⟩ := leave_mut x u r r' e hn ea ho
            exact c.fin x2 R2 ⟨a, by show (M.m ++ [some a])[h.length]? = _; rw [← hl, ← hlen]; simp, rfl⟩
        | dic ds =>
          obtain ⟨xs, hx, q⟩ := ro
          cases rm with
          | false => exact c.fin (leave_ext x) R (RD.dic out hx (q.sub sub))
          | true =>
            obtain ⟨R2, x2⟩ := leave_mut x u r r' e hn ea ho
            exact c.fin x2 R2 ⟨a, by show (M.m ++ [some a])[h.length]? = _; rw [← hl, ← hlen]; simp, rfl⟩
        | dit ds =>
          obtain ⟨xs, hx, q⟩ := ro
          cases rm with
          | false => exact c.no.elim
          | true =>
            obtain ⟨R2, x2⟩ := leave_mut x u r r' e hn ea ho
            exact c.fin x2 R2 ⟨a, by show (M.m ++ [some a])[h.length]? = _; rw [← hl, ← hlen]; simp, rfl⟩
        | tab q P => exact c.no.elim
        | ins C fs => exact c.no.elim
    · exact c.no.elim
    · exact c.no.elim
    · rename_i w' hw hp hk
      cases w with
      | ref n => exact absurd rfl (hw n)
      | pack n => exact absurd rfl (hp n)
      | lock n => exact absurd rfl (hk n)
      | dat d => exact c.fin (leave_ext x) R (RD.sub sub rv)
      | ins C fs =>
        obtain ⟨a, dx, gs, e1, n, q, rf⟩ := rv
        exact c.fin (leave_ext x) R ⟨a, dx, gs, e1, fun z => n (sub a z), q, rf.to fun _ _ => RD.sub sub⟩
      | exc k C fs =>
        obtain ⟨a, d, gs, e1, r1⟩ := rv
        exact c.fin (leave_ext x) R ⟨a, d, gs, e1, r1.to (fun b _ _ n z => n (sub b z)) (fun _ _ q _ _ => q) fun _ _ => RD.sub sub⟩
      | scr ns =>
        obtain ⟨a, o, e1, n, q⟩ := rv
        exact c.fin (leave_ext x) R ⟨a, o, e1, fun z => n (sub a z), q⟩
  · exact c.no.elim
end
theorem rs_start {M : Mm} {H : Hp} {vs : List V} {ws : List W} (r : RVs M H vs ws) (n : Nat) : RS M H (ws.map some ++ List.replicate n none) (vs.map some ++ List.replicate n none) := by
  refine ⟨by simp [r.length], ?_⟩
  induction r with
  | nil =>
    intro i w e
    rw [List.map_nil, List.nil_append, List.getElem?_replicate] at e
    split at e <;> cases e
  | cons a t ih =>
    intro i w e
    cases i with
    | zero => simp at e; subst e; exact ⟨_, rfl, a⟩
    | succ i => exact ih i w (by simpa using e)
end DL
set_option maxRecDepth 100000
set_option maxHeartbeats 400000
namespace DL
open PySem PySem.Spec PyProof.Rows L2
variable [HW]
def dcL (k : TM) (t : BM) (fk fv : EM) (ρ : Env) : List D → List (D × D) → Hh → Option (List (D × D) × Hh)
  | [], es, h => some (es, h)
  | d :: ds, es, h => match k (.dat d) ρ h with
    | some ρ1 => obnd (t ρ1 h) fun b h2 => if b = true then obnd (fk ρ1 h2) fun w h3 => obnd (fv ρ1 h3) fun v h4 => match w, v with
        | .dat kd, .dat d' => match dKey kd with
          | some key => if es.length < sizeLine then dcL k t fk fv ρ ds (putK' es key d') h4 else none
          | none => none
        | _, _ => none
      else dcL k t fk fv ρ ds es h2
    | none => none
def fDc (m : Bool) (gi : IM) (k : TM) (t : BM) (fk fv : EM) (vs : List Nat) : EM := fun ρ h => obnd (gi ρ h) fun ds h1 => obnd (dcL k t fk fv (wipeE ρ vs) ds [] h1) fun es h2 => mkK m es h2
theorem dc_imp {gi : IM} {k : TM} {t : BM} {fk fv : EM} {ts vs : List Nat} {m : Bool} (hs : ∀ j ∈ ts, j ∈ vs) : ∀ σ H Q, tE (fDc m gi k t fk fv vs) σ H Q → tDc (tI gi) (tGd ts k) (tT t) (tE fk) (tE fv) vs σ H Q := fun σ H Q => by
  rintro ⟨M, h, ρ, r, rs, c⟩
  obtain ⟨ds, h1, e1, c1⟩ := Cont.bind (δ := Unit) c
  refine ⟨M, h, ρ, ds, h1, r, rs, e1, fun M1 H1 J x1 r1 it D nD => ?_⟩
  obtain ⟨out, h2, e2, c2⟩ := Cont.bind (δ := Unit) (c1 M1 H1 x1)
  have x0 := ext_made (M := M1) (o := .dK []) nD
  have r0 := r1.make (o := .dK []) nD
  have rs0 : RS (M1.made D) (upd H1 D (.dK [])) (wipeE ρ vs) (L2.wipe σ vs) := ((rs.mono x1).moveu x0 rfl).wipe vs
  let P : Nat → Hp → Prop := fun i Hi => ∃ mi hi acc dacc, ExtE M1 ⟨M1.u, mi⟩ H1 Hi ∧ Rep ⟨D :: M1.u, mi⟩ Hi hi ∧ RS ⟨D :: M1.u, mi⟩ Hi (wipeE ρ vs) (L2.wipe σ vs) ∧ Hi D = some (.dK acc) ∧ RDk ⟨D :: M1.u, mi⟩ Hi acc dacc ∧ dcL k t fk fv (wipeE ρ vs) (ds.drop i) dacc hi = some (out, h2)
  refine ⟨fun i n Hi => n + i = ds.length ∧ P i Hi, ⟨ds.length, by omega, M1.m, h1, [], [], (ExtE.refl M1 H1).beside nD, r0, rs0, upd_same, .nil, by rw [List.drop_zero]; exact e2⟩, fun i n Hi w => ?_⟩
  obtain ⟨hn, mi, hi, acc, dacc, xi, ri, rsi, hD, qa, el⟩ := w
  have inD : D ∈ (⟨D :: M1.u, mi⟩ : Mm).u := List.mem_cons_self
  obtain ⟨ity, its⟩ := it _ Hi (xi.into nD) fun a ha => ri.tracked ha
  by_cases hlt : i < ds.length
  · refine .inr ?_
    have ed : ds[i]? = some ds[i] := List.getElem?_eq_getElem hlt
    obtain ⟨go, yl⟩ := ity i _ ed
    rw [List.drop_eq_getElem_cons hlt] at el
    refine ⟨go, P (i + 1), fun H' p => ⟨n - 1, by omega, by omega, p⟩, fun x H2 hy => ?_⟩
    obtain ⟨sm, rx⟩ := yl x H2 hy
    obtain ⟨ri2, xi2⟩ := ri.grow sm
    unfold dcL at el
    split at el
    · rename_i ρ1 ek
      refine ⟨_, hi, wipeE ρ vs, .dat ds[i], ρ1, ri2, rsi.mono xi2, rx, ek, fun σ2 rs2 l2 o2 => ⟨wipe_of (by rw [l2, L2.wipe_length]) o2 hs, ?_⟩⟩
      cases et : t ρ1 hi with
      | none => rw [et] at el; cases el
      | some pr =>
        obtain ⟨b, h3⟩ := pr
        rw [et] at el
        simp only [obnd_some] at el
        refine ⟨_, hi, ρ1, ri2, rs2, b, h3, et, fun M3 H3 b' x3 r3 eb => ?_⟩
        subst eb
        obtain ⟨u3, m3⟩ := M3
        obtain rfl : u3 = D :: M1.u := x3.same
        have xi3 : ExtE M1 ⟨M1.u, m3⟩ H1 H3 := xi.trans ((xi2.trans x3).reu M1.u)
        have hD3 : H3 D = some (.dK acc) := x3.stab _ _ (sm _ _ hD) fun z => (ri.us D inD).1 z
        cases b' with
        | false =>
          simp only [Bool.false_eq_true, if_false] at el
          exact iteF ⟨m3, h3, acc, dacc, xi3, r3, (rsi.mono xi2).mono x3, hD3, (qa.mono xi2.ext).mono x3.ext, el⟩
        | true =>
          simp only [if_true] at el
          refine iteT ?_
          cases ef : fk ρ1 h3 with
          | none => rw [ef] at el; cases el
          | some pr =>
            obtain ⟨w, h4⟩ := pr
            rw [ef] at el
            simp only [obnd_some] at el
            refine ⟨_, h3, ρ1, r3, rs2.mono x3, w, h4, ef, fun M4 H4 y x4 r4 ry => ?_⟩
            obtain ⟨u4, m4⟩ := M4
            obtain rfl : u4 = D :: M1.u := x4.same
            have hD4 : H4 D = some (.dK acc) := x4.stab _ _ hD3 fun z => (r3.us D List.mem_cons_self).1 z
            cases eg : fv ρ1 h4 with
            | none => rw [eg] at el; cases el
            | some pr =>
              obtain ⟨w', h5⟩ := pr
              rw [eg] at el
              simp only [obnd_some] at el
              refine ⟨_, h4, ρ1, r4, (rs2.mono x3).mono x4, w', h5, eg, fun M5 H5 z x5 r5 rz => ?_⟩
              obtain ⟨u5, m5⟩ := M5
              obtain rfl : u5 = D :: M1.u := x5.same
              have hD5 : H5 D = some (.dK acc) := x5.stab _ _ hD4 fun z => (r4.us D List.mem_cons_self).1 z
              split at el
              · rename_i kd d'
                split at el
                · rename_i key ekey
                  split at el
                  · rename_i hz
                    have := kP_dKey ekey
                    subst this
                    have ry' : RD ⟨D :: M1.u, m5⟩ H5 y (kP key) := (show RD _ _ y _ from ry).mono x5.ext
                    have q5 := (((qa.mono xi2.ext).mono x3.ext).mono x4.ext).mono x5.ext
                    have in5 : D ∈ (⟨D :: M1.u, m5⟩ : Mm).u := List.mem_cons_self
                    exact ⟨acc, key, rd_kP ry', hD5, by rw [qa.length]; exact hz, m5, h5, _, putK' dacc key d', ((xi3.trans (x4.reu M1.u)).trans (x5.reu M1.u)).beside nD, r5.off in5, ((((rsi.mono xi2).mono x3).mono x4).mono x5).off in5, upd_same, (q5.put key rz).off in5, el⟩
                  · cases el
                · cases el
              · cases el
    · cases el
  · refine .inl ?_
    have hi' : i = ds.length := by omega
    subst hi'
    rw [List.drop_length] at el
    cases el
    refine ⟨its, ?_⟩
    have c3 := c2 M1 H1 (.refl _ _)
    have nu : D ∉ M1.u := fun z => r1.new nD (.inl z)
    have nm : some D ∉ mi := (ri.us D inD).1
    cases m with
    | false => exact c3.fin xi ri.told (RD.dic (fun z => z.elim nu nm) hD (qa.sub less_has))
    | true =>
      refine c3.fin (M' := ⟨M1.u, mi ++ [some D]⟩) ⟨rfl, xi.trk, xi.stab, fun a z => ?_, Nat.le_trans xi.len (by simp), fun j hj => ?_⟩ (ri.owned nu ⟨acc, hD, qa⟩) ⟨D, ?_, rfl⟩
      · rcases List.mem_append.mp z with z | z
        · exact xi.fresh a z
        · have : a = D := by simpa using z
          rw [this]; exact .inr nD
      · have hl : j < mi.length := Nat.lt_of_lt_of_le hj xi.len
        show (mi ++ [some D])[j]? = _
        rw [List.getElem?_append_left hl]; exact xi.pre j hj
      · show (mi ++ [some D])[h2.length]? = _
        rw [← show mi.length = h2.length from ri.len]; simp
section
variable {X : Cx}
theorem d_dc (m : Bool) {kx vx tg iter : Expr} {ifs : List Expr} {scope : Scope} {own : List (Str × Nat)} {pos : Pos} {gi : IM} {ts : List Nat} {k : TM} {t : BM} {fk fv : EM} (hc : X.calm = true) (hN : X.N.Nodup) (hi : DI X tg iter gi) (ok : BlkOk X.N X.env.scope scope own)
    (hg : ∀ (s : Shared) (H : Hp) (C : Addr) (cl : List (Str × Addr)) (fp : List Addr), DG (X.blk s H scope (compEnvC scope cl C X.env) fp) tg ts k) (ht : ∀ (s : Shared) (H : Hp) (C : Addr) (cl : List (Str × Addr)) (fp : List Addr), DTs (X.blk s H scope (compEnvC scope cl C X.env) fp) ifs t)
    (hk : ∀ (s : Shared) (H : Hp) (C : Addr) (cl : List (Str × Addr)) (fp : List Addr), DE (X.blk s H scope (compEnvC scope cl C X.env) fp) kx fk) (he : ∀ (s : Shared) (H : Hp) (C : Addr) (cl : List (Str × Addr)) (fp : List Addr), DE (X.blk s H scope (compEnvC scope cl C X.env) fp) vx fv)
    (hsub : ∀ j ∈ ts, j ∈ own.map (·.2)) (hs : ∀ x, foldedSetIterable iter X.env x = pure x := by intro _; rfl) :
    DE X (.DictComp kx vx [⟨tg, iter, ifs, 0⟩] scope pos) (fDc m gi k t fk fv (own.map (·.2))) := (pe_dc hc hN hi ok hg ht hk he hs).weak (dc_imp hsub)
end
end DL
set_option maxRecDepth 100000
set_option maxHeartbeats 400000
namespace DL
open PySem PySem.Spec PyProof.Rows L2
variable [HW]
structure RG (k : Nat) (A : Around) : Prop where
  room : Room k A
  gd : A.guards = some []
theorem RG.mono {j k : Nat} {A : Around} (r : RG k A) (h : j ≤ k) : RG j A := ⟨r.room.mono h, r.gd⟩
structure FnG (P : Program) (w : World) (K : PySem.W.Frag) (mg : Str → Option Value) (base : Heap) (C : CXT) (k : Nat) (f : Addr) (fd : FuncData) (ps : List Str) (sp : Sp) : Prop where
  len : ∀ vs H Q E, sp vs H Q E → vs.length = ps.length
  run : ∀ (A : Around) (outer : List PySem.Env) (s : Shared) (H : Hp) (args : Args) (us : List Value) (vs : List V) (Q : VK) (E : XK), RG k A → Env0 P w K mg base A outer s H → BindsTo s fd args (ps.zip us) → Vals vs us →
    sp vs H Q E → codeAny (model P w) A (.call (.ref f) args) (CR C outer P w H s Q E) s
section
variable {P : Program} {w : World} {K : PySem.W.Frag} {mg : Str → Option Value} {base : Heap}
theorem fn_g0 {x qual : Str} {st : Stmt} {f : Addr} {fd : FuncData} {N ps : List Str} {k : Nat} {sp : Sp} (F : Fun K x qual st f fd) (S : FnScope N ps (defScope st)) (len : ∀ vs H Q E, sp vs H Q E → vs.length = ps.length)
    (hb : ∀ (cdv : Value), fd.code = cdv → ∀ (A : Around) (outer : List PySem.Env) (s : Shared) (H : Hp) (vs : List V) (Q : VK) (E : XK), RG k (A.deeper (envOfC qual (defScope st) s.heap.objs.size f cdv)) → sp vs H Q E →
      ∃ t, PSs (cxOf CX0 P w K mg base N qual (defScope st) f cdv A outer s H E).nox (defBody st) t ∧ t { nx := fun _ H' => Q .non H', rt := Q } (L2.start N vs) H) : FnG P w K mg base CX0 (k + 1) f fd ps sp := by
  obtain ⟨oc, od, kV, doc, pm, an, cdv, ct, osl, rfl, lk, hcd⟩ := F.ex
  constructor
  · exact len
  intro A outer s H args us vs Q E rg e0 bd vl q
  have kin : K.In s.heap := e0.mod.kin.keeps fun b o e => (e0.bs b o e).1
  have nl : s.heap.NoLimit := e0.mod.nolimit.keeps fun b o e => (e0.bs b o e).1
  have kinds : ∀ y ∈ ps.zip us, (defScope st).names.lookup y.1 = some .local ∨ ((defScope st).names.lookup y.1 = some .cell ∧ ((PySem.cellsFrom (s.heap.objs.size + 1) (defScope st).names []).lookup y.1).isSome = true) := by
    intro y hy
    have hp : y.1 ∈ ps := (List.of_mem_zip (show (y.1, y.2) ∈ ps.zip us from hy)).1
    rcases S.par y.1 hp with h | h
    · left; exact h
    · right; exact ⟨h, PySem.W.cellsFrom_some _ _ _ (.inl h)⟩
  apply codeAny_call_function rg.room.depth (kin _ _ lk) rfl S.co S.gen rfl (PySem.W.codeRec_of kin hcd)
  apply bd
  apply wpAny_newFunctionEnv_cells S.kind kinds
  intro env he s1 hx
  subst he
  constructor
  · exact nl.keeps hx.toInCall.keep
  apply codeAny_func
  obtain ⟨t, ht, hq⟩ := hb cdv rfl A outer s H vs Q E ⟨rg.room.deeper _, rg.gd⟩ q
  have I0 := inv_start (CX := CX0) (E := E) S rg.room.hd e0 (len _ _ _ _ q) vl hx
  apply wpAny_mono (ht.nox.run [] s1 _ H _ I0 hq)
  · intro fl s' hs
    cases fl
    case ret u => obtain ⟨v, σ', H', J, rv, q'⟩ := hs; exact ⟨v, H', J.os, J.bare, J.base, J.hok, rv, q'⟩
    case next => obtain ⟨σ', H', J, q'⟩ := hs; exact ⟨.non, H', J.os, J.bare, J.base, J.hok, rfl, q'⟩
    case brk => obtain ⟨_, _, _, q'⟩ := hs; exact q'.elim
    case cont => obtain ⟨_, _, _, q'⟩ := hs; exact q'.elim
  · intro e s' hs; exact hs
structure GD (P : Program) (w : World) (K : PySem.W.Frag) (mg : Str → Option Value) (base : Heap) (k : Nat) (x : Str) (st : Stmt) (ps : List Str) (m : FM) : Prop where
  ex : ∃ (f : Addr) (fd : FuncData), Fun K x x st f fd ∧ mg x = some (.ref f) ∧ FnG P w K mg base CX0 k f fd ps (spD m)
theorem fng_ok0 {x : Str} {st : Stmt} {f : Addr} {fd : FuncData} {N ps : List Str} {k : Nat} {body : SM} (rm : Bool) (F : Fun K x x st f fd) (S : FnScope N ps (defScope st))
    (hb : ∀ (cdv : Value), fd.code = cdv → ∀ (A : Around) (outer : List PySem.Env) (s : Shared) (H : Hp) (E : XK), RG k (A.deeper (envOfC x (defScope st) s.heap.objs.size f cdv)) → DSs (cxOf CX0 P w K mg base N x (defScope st) f cdv A outer s H E).nox (defBody st) body) :
    FnG P w K mg base CX0 (k + 1) f fd ps (spD (fnM rm ps.length N.length body)) := by
  refine fn_g0 F S (fun vs H Q E q => ?_) (fun cdv ec A outer s H vs Q E hr q => ?_)
  · obtain ⟨M, h, ws, rep, rv, c⟩ := q
    unfold fnM at c
    split at c
    · rename_i hl
      rw [rv.length]; exact hl
    · exact c.no.elim
  · obtain ⟨M, h, ws, rep, rv, c⟩ := q
    unfold fnM at c
    split at c
    · rename_i hl
      refine ⟨_, hb cdv ec A outer s H E hr, M, h, ws.map some ++ List.replicate (N.length - ps.length) none, rep, ?_, ?_⟩
      · have e : L2.start N vs = vs.map some ++ List.replicate (N.length - ps.length) none := by unfold L2.start; rw [rv.length, hl]
        rw [e]
        exact rs_start rv _
      · cases eb : body (ws.map some ++ List.replicate (N.length - ps.length) none) h with
        | none => rw [eb] at c; exact c.no.elim
        | some pr =>
          obtain ⟨o, h'⟩ := pr
          rw [eb] at c
          cases o with
          | nx ρ => exact fun M1 H1 σ u x1 r1 rs1 => leave_ok x1 u rep r1 (show RV M1 H1 .non (.dat .none) from .non) c
          | rt w => exact fun M1 H1 v u x1 r1 v1 => leave_ok x1 u rep r1 v1 c
          | bk ρ => exact c.no.elim
          | ct ρ => exact c.no.elim
    · exact c.no.elim
theorem fng_ok {x : Str} {st : Stmt} {f : Addr} {fd : FuncData} {N ps : List Str} {k : Nat} {body : SM} (rm : Bool) (F : Fun K x x st f fd) (S : FnScope N ps (defScope st))
    (hb : ∀ (cdv : Value) (A : Around) (outer : List PySem.Env) (s : Shared) (H : Hp) (E : XK), RG k (A.deeper (envOfC x (defScope st) s.heap.objs.size f cdv)) → DSs (cxOf CX0 P w K mg base N x (defScope st) f cdv A outer s H E).nox (defBody st) body) :
    FnG P w K mg base CX0 (k + 1) f fd ps (spD (fnM rm ps.length N.length body)) := fng_ok0 rm F S fun cdv _ => hb cdv
theorem gd_ok {x : Str} {st : Stmt} {f : Addr} {fd : FuncData} {N ps : List Str} {k : Nat} {body : SM} (rm : Bool) (F : Fun K x x st f fd) (hm : mg x = some (.ref f)) (S : FnScope N ps (defScope st))
    (hb : ∀ (cdv : Value) (A : Around) (outer : List PySem.Env) (s : Shared) (H : Hp) (E : XK), RG k (A.deeper (envOfC x (defScope st) s.heap.objs.size f cdv)) → DSs (cxOf CX0 P w K mg base N x (defScope st) f cdv A outer s H E).nox (defBody st) body) :
    GD P w K mg base (k + 1) x st ps (fnM rm ps.length N.length body) := ⟨f, fd, F, hm, fng_ok rm F S hb⟩
theorem GD.no {x : Str} {st : Stmt} {f : Addr} {fd : FuncData} {ps : List Str} {k : Nat} (F : Fun K x x st f fd) (hm : mg x = some (.ref f)) : GD P w K mg base k x st ps (fun _ _ => none) :=
  ⟨f, fd, F, hm, fun _ _ _ _ ⟨_, _, _, _, _, c⟩ => c.no.elim, fun _ _ _ _ _ _ _ _ _ _ _ _ _ ⟨_, _, _, _, _, c⟩ => c.no.elim⟩
end
section
variable {X : Cx} {k : Nat} {f : Addr} {fd : FuncData} {ps : List Str} {m : FM} {x : Str} {p pos : Pos} {e : Expr} {es : List Expr} {g : AM} {st : Stmt}
theorem run_g {sp : Sp} {pins : List (Addr × Obj)} {σ : L2.St} {H : Hp} {s : Shared} {Q : VK} {args : Args} {us : List Value} {vs : List V} (F : FnG X.prog X.w X.K X.mg X.base CX0 k f fd ps sp) (hr : RG k X.A)
    (I : Inv X pins σ H s) (hb : BindsTo s fd args (ps.zip us)) (r : Vals vs us) (h : sp vs H Q E0) : codeAny (model X.prog X.w) X.A (.call (.ref f) args) (fun r s' => match r with
      | .ok (.ret u) => EP X pins σ Q u s'
      | _ => False) s := by
  apply codeAny_mono (F.run X.A X.stack s H args us vs Q E0 hr I.env0 hb r h)
  intro r s' hq
  cases r with
  | error e => exact hq
  | ok fl =>
    cases fl with
    | ret u => exact I.after hq
    | next => exact hq
    | brk => exact hq
    | cont => exact hq
theorem d_call' (G : GD X.prog X.w X.K X.mg X.base k x st ps m) (hr : RG k X.A) (ha : DA X (e :: es) g)
    (hbd : ∀ (kV doc pm : Value) (an : Option Addr) (cdv ct : Value) (us : List Value), us.length = ps.length → bindArgs (PySem.W.fnOf x x (defArgs st) (defBody st) (defScope st) .none kV doc pm an cdv ct) ⟨us, []⟩ = pure (ps.zip us))
    (hg : Gl X x := by rfl)
    (hdb : (x == ("__debug__" : Str)) = false := by decide) (he : starEach (e :: es) X.env = (false, eval e X.env) :: starEach es X.env := by rfl) (hpl : (backTo pos (starEach es X.env)).any (·.1) = false := by rfl) : DE X (.Call (.Name x p) (e :: es) [] pos) (fA m g) := by
  obtain ⟨f, fd, F, hm, G⟩ := G.ex
  refine ⟨fun pins s σ H Q I q => ?_⟩
  obtain ⟨M, h, ρ, r, rs, c⟩ := q
  obtain ⟨ws, h1, e1, c1⟩ := Cont.bind (δ := Unit) c
  apply wpAny_Call_Name_kw
  apply ld_glob I hg hm _ hdb
  apply PySem.W.callWith_K (h₀ := X.base) I.ok.mod.kin F.kp _ he hpl
  refine thn (ha.run pos pins s σ H (fun vs H1 => spD m vs H1 Q E0) I ⟨M, h, ρ, r, rs, ws, h1, e1, fun M1 H1 vs x1 r1 v1 => ⟨M1, h1, ws, r1, v1, c1 M1 H1 x1⟩⟩) fun us s1 ⟨vs, H1, I1, rv, q⟩ => ⟨I1.kIn, ?_⟩
  have hl : us.length = ps.length := by rw [← rv.length]; exact G.len _ _ _ _ q
  apply wpAny_call
  have bd := (F.binds (ps := ps) hbd) s1 us I1.kIn (by simpa using hl)
  rw [List.append_nil] at bd
  apply codeAny_mono (run_g G hr I1 bd rv q)
  intro r s' hq
  cases r with
  | error e => exact hq.elim
  | ok fl =>
    cases fl with
    | ret u => exact hq
    | next => exact hq
    | brk => exact hq
    | cont => exact hq
def permL {α : Type} (is : List Nat) (ws : List α) : Option (List α) := (is.map fun i => ws[i]?).foldr (fun o r => match o, r with
    | some w, some l => some (w :: l)
    | _, _ => none) (some [])
def permM (is : List Nat) (m : FM) : FM := fun ws h => match permL is ws with
  | some l => m l h
  | none => none
theorem permL_cons {α : Type} (i : Nat) (is : List Nat) (ws : List α) : permL (i :: is) ws = match ws[i]?, permL is ws with
    | some w, some l => some (w :: l)
    | _, _ => none := rfl
def kwM (n : Nat) (is : List Nat) (m : FM) : FM := fun ws h => if ws.length = n then permM is m ws h else none
theorem permL_rvs {M : Mm} {H : Hp} {vs : List V} {ws : List W} (r : RVs M H vs ws) : ∀ {is : List Nat} {l : List W}, permL is ws = some l → ∃ l', permL is vs = some l' ∧ RVs M H l' l
  | [], l, e => by cases e; exact ⟨[], rfl, .nil⟩
  | i :: is, l, e => by
    rw [permL_cons] at e
    cases e1 : ws[i]? with
    | none => rw [e1] at e; cases e
    | some w =>
      cases e2 : permL is ws with
      | none => rw [e1, e2] at e; cases e
      | some l0 =>
        rw [e1, e2] at e
        cases e
        obtain ⟨l', h1, h2⟩ := permL_rvs r e2
        obtain ⟨v, h3, h4⟩ : ∃ v, vs[i]? = some v ∧ RV M H v w := by
          clear e2 h1 h2
          induction r generalizing i with
          | nil => simp at e1
          | cons a t ih => cases i with
            | zero => simp at e1; subst e1; exact ⟨_, rfl, a⟩
            | succ i => exact ih i (by simpa using e1)
        exact ⟨v :: l', by rw [permL_cons, h3, h1], .cons h4 h2⟩
theorem permL_vals {vs : List V} {us : List Value} (r : Vals vs us) : ∀ {is : List Nat} {l : List V}, permL is vs = some l → ∃ l', permL is us = some l' ∧ Vals l l'
  | [], l, e => by cases e; exact ⟨[], rfl, .nil⟩
  | i :: is, l, e => by
    rw [permL_cons] at e
    cases e1 : vs[i]? with
    | none => rw [e1] at e; cases e
    | some w =>
      cases e2 : permL is vs with
      | none => rw [e1, e2] at e; cases e
      | some l0 =>
        rw [e1, e2] at e
        cases e
        obtain ⟨l', h1, h2⟩ := permL_vals r e2
        obtain ⟨v, h3, h4⟩ : ∃ v, us[i]? = some v ∧ RelV w v := by
          clear e2 h1 h2
          induction r generalizing i with
          | nil => simp at e1
          | cons a t ih => cases i with
            | zero => simp at e1; subst e1; exact ⟨_, rfl, a⟩
            | succ i => exact ih i (by simpa using e1)
        exact ⟨v :: l', by rw [permL_cons, h3, h1], .cons h4 h2⟩
theorem d_callK {kws : List Keyword} {ks : List Str} {is : List Nat} (G : GD X.prog X.w X.K X.mg X.base k x st ps m) (hr : RG k X.A) (ha : DK X kws g)
    (hbd : ∀ (kV doc pm : Value) (an : Option Addr) (cdv ct : Value) (us l : List Value), us.length = ks.length → permL is us = some l → bindArgs (PySem.W.fnOf x x (defArgs st) (defBody st) (defScope st) .none kV doc pm an cdv ct) ⟨[], ks.zip us⟩ = pure (ps.zip l))
    (hkl : kws.length = ks.length)
    (hall : (backToKw pos (keywordEach kws X.env)).all (·.1.isSome) = true := by rfl) (hks : (backToKw pos (keywordEach kws X.env)).filterMap (·.1) = ks := by rfl)
    (hpl : ((backTo pos (starEach [] X.env)).any (·.1) || (backToKw pos (keywordEach kws X.env)).any (·.1.isNone)) = false := by rfl)
    (hg : Gl X x := by rfl) (hdb : (x == ("__debug__" : Str)) = false := by decide) : DE X (.Call (.Name x p) [] kws pos) (fA (kwM ks.length is m) g) := by
  obtain ⟨f, fd, F, hm, G⟩ := G.ex
  refine ⟨fun pins s σ H Q I q => ?_⟩
  obtain ⟨M, h, ρ, r, rs, c⟩ := q
  obtain ⟨ws, h1, e1, c1⟩ := Cont.bind (δ := Unit) c
  apply wpAny_Call_Name_kw
  apply ld_glob I hg hm _ hdb
  apply PySem.W.callWith_KW0 (h₀ := X.base) I.ok.mod.kin F.kp hall _ hpl
  refine thn (ha.run pos pins s σ H (fun vs H1 => vs.length = ks.length ∧ ∃ l, permL is vs = some l ∧ spD m l H1 Q E0) I ⟨M, h, ρ, r, rs, ws, h1, e1, fun M1 H1 vs x1 r1 v1 => ?_⟩) fun us s1 ⟨vs, H1, I1, rv, hlen, l, el, q⟩ => ⟨I1.kIn, ?_⟩
  · have c2 := c1 M1 H1 x1
    unfold kwM at c2
    split at c2
    · rename_i hw
      refine ⟨by rw [v1.length]; exact hw, ?_⟩
      unfold permM at c2
      split at c2
      · rename_i l el
        obtain ⟨l', h2, h3⟩ := permL_rvs v1 el
        exact ⟨l', h2, M1, h1, l, r1, h3, c2⟩
      · exact c2.no.elim
    · exact c2.no.elim
  · obtain ⟨l', h2, h3⟩ := permL_vals rv el
    have hl : us.length = ks.length := by rw [← rv.length]; exact hlen
    rw [hks]
    apply wpAny_call
    have bd : BindsTo s1 fd ⟨[], ks.zip us⟩ (ps.zip l') := by
      obtain ⟨oc, od, kV, doc, pm, an, cdv, ct, osl, rfl, lk, hcd⟩ := F.ex
      exact .of_eq (hbd kV doc pm an cdv ct us l' hl h2)
    apply codeAny_mono (run_g G hr I1 bd h3 q)
    intro r s' hq
    cases r with
    | error e => exact hq.elim
    | ok fl =>
      cases fl with
      | ret u => exact hq
      | next => exact hq
      | brk => exact hq
      | cont => exact hq
end
end DL
set_option maxRecDepth 100000
set_option maxHeartbeats 400000
namespace DL
open PySem PySem.Spec PyProof.Rows L2
variable [HW]
section
variable {X : Cx}
def revS (z : Str) : Str := ⟨z.cps.toList.reverse.toArray⟩
def backW (m : Bool) (w : W) (h : Hh) : Option (W × Hh) := match w with
  | .dat (.list ds) => mkL m ds.reverse h
  | .dat (.tuple ds) => some (.dat (.tuple ds.reverse), h)
  | .dat (.str z) => if z.length ≤ sizeLine then some (.dat (.str (revS z)), h) else none
  | .ref n => match lstAt h n with
    | some ds => mkL m ds.reverse h
    | none => none
  | _ => none
def fRev (m : Bool) (f : EM) : EM := fun ρ h => obnd (f ρ h) fun w h1 => backW m w h1
end
end DL
set_option maxRecDepth 100000
set_option maxHeartbeats 400000
namespace DL
open PySem PySem.Spec PyProof.Rows L2
variable [HW]
structure Bi (mg : Str → Option Value) : Prop where
  len : mg "len" = none
  abs : mg "abs" = none
  int : mg "int" = none
  max : mg "max" = none
  min : mg "min" = none
  all : mg "all" = none
  any : mg "any" = none
  sum : mg "sum" = none
  tuple : mg "tuple" = none
  list : mg "list" = none
  dict : mg "dict" = none
  sorted : mg "sorted" = none
  isinstance : mg "isinstance" = none
  str : mg "str" = none
  bool : mg "bool" = none
  range : mg "range" = none
  enumerate : mg "enumerate" = none
  zip : mg "zip" = none
  reversed : mg "reversed" = none
  repr : mg "repr" = none
  set : mg "set" = none
section
variable {X : Cx} {p pos : Pos} {e e2 : Expr} {es : List Expr} {g : AM} {f : EM}
theorem bt_int : bootBuiltins "int" = some (.type "int") := by decide +kernel
theorem bt_str : bootBuiltins "str" = some (.type "str") := by decide +kernel
theorem bt_list : bootBuiltins "list" = some (.type "list") := by decide +kernel
theorem bt_tuple : bootBuiltins "tuple" = some (.type "tuple") := by decide +kernel
theorem bt_bool : bootBuiltins "bool" = some (.type "bool") := by decide +kernel
theorem bt_dict : bootBuiltins "dict" = some (.type "dict") := by decide +kernel
theorem d_abs (hm : X.mg "abs" = none) (ha : DA X [e] g) (hg : Gl X "abs" := by rfl) (he : starEach [e] X.env = (false, eval e X.env) :: starEach [] X.env := by rfl) (hpl : (backTo pos (starEach [] X.env)).any (·.1) = false := by rfl) : DE X (.Call (.Name "abs" p) [e] [] pos) (fA absW g) :=
  d_callB call_abs s_abs hm (by decide +kernel) ha hg (by decide) (by decide) he hpl
theorem d_all (hc : X.calm = true) (hm : X.mg "all" = none) (ha : DA X [e] g) (hg : Gl X "all" := by rfl) (he : starEach [e] X.env = (false, eval e X.env) :: starEach [] X.env := by rfl) (hpl : (backTo pos (starEach [] X.env)).any (·.1) = false := by rfl) : DE X (.Call (.Name "all" p) [e] [] pos) (fA allW g) :=
  d_callB (cr_all hc) s_all hm (by decide +kernel) ha hg (by decide) (by decide) he hpl
theorem d_sum (hc : X.calm = true) (hm : X.mg "sum" = none) (ha : DA X [e] g) (hg : Gl X "sum" := by rfl) (he : starEach [e] X.env = (false, eval e X.env) :: starEach [] X.env := by rfl) (hpl : (backTo pos (starEach [] X.env)).any (·.1) = false := by rfl) : DE X (.Call (.Name "sum" p) [e] [] pos) (fA sumW g) :=
  d_callB (cr_sum hc) s_sum hm (by decide +kernel) ha hg (by decide) (by decide) he hpl
theorem d_sorted {k : Nat} (hr : RG k X.A) (m : Bool) (hm : X.mg "sorted" = none) (ha : DA X [e] g) (hg : Gl X "sorted" := by rfl) (he : starEach [e] X.env = (false, eval e X.env) :: starEach [] X.env := by rfl) (hpl : (backTo pos (starEach [] X.env)).any (·.1) = false := by rfl) : DE X (.Call (.Name "sorted" p) [e] [] pos) (fA (sortW m) g) :=
  d_callB (cr_sortedA hr.room) (s_sorted m) hm (by decide +kernel) ha hg (by decide) (by decide) he hpl
theorem d_intC (hm : X.mg "int" = none) (ha : DA X [e] g) (hg : Gl X "int" := by rfl) (he : starEach [e] X.env = (false, eval e X.env) :: starEach [] X.env := by rfl) (hpl : (backTo pos (starEach [] X.env)).any (·.1) = false := by rfl) : DE X (.Call (.Name "int" p) [e] [] pos) (fA intC g) :=
  d_callT call_int1 s_intC hm bt_int ha hg (by decide) (by decide) he hpl
theorem d_tuple (hm : X.mg "tuple" = none) (ha : DA X [e] g) (hg : Gl X "tuple" := by rfl) (he : starEach [e] X.env = (false, eval e X.env) :: starEach [] X.env := by rfl) (hpl : (backTo pos (starEach [] X.env)).any (·.1) = false := by rfl) : DE X (.Call (.Name "tuple" p) [e] [] pos) (fA tupleW g) :=
  d_callT call_tupB s_tuple hm bt_tuple ha hg (by decide) (by decide) he hpl
theorem d_list (m : Bool) (hm : X.mg "list" = none) (ha : DA X [e] g) (hg : Gl X "list" := by rfl) (he : starEach [e] X.env = (false, eval e X.env) :: starEach [] X.env := by rfl) (hpl : (backTo pos (starEach [] X.env)).any (·.1) = false := by rfl) : DE X (.Call (.Name "list" p) [e] [] pos) (fA (listW m) g) :=
  d_callT call_list_of (s_list m) hm bt_list ha hg (by decide) (by decide) he hpl
end
def noList (K : PySem.W.Frag) : Bool := K.all fun p => match p.2.cls with
  | .type "list" => false
  | _ => true
theorem lookup_mem {K : PySem.W.Frag} {a : Addr} {o : Obj} (e : K.lookup a = some o) : (a, o) ∈ K := by
  induction K with
  | nil => cases e
  | cons p r ih =>
    obtain ⟨b, u⟩ := p
    rw [List.lookup_cons] at e
    split at e
    · rename_i q
      have : a = b := by simpa using q
      cases e
      subst this
      exact List.mem_cons_self
    · exact List.mem_cons_of_mem _ (ih e)
end DL
set_option maxRecDepth 100000
set_option maxHeartbeats 1000000
namespace DL
open PySem PySem.Spec PyProof.Rows L2
variable [HW]
theorem enum_meets {v : Value} {o : Obj} {H : Heap → Prop} (B : Begins v o H) : Meets (Builtin.«enumerate.__new__» ⟨[.type "enumerate", v], []⟩) (fun _ R s => H s.heap ∧
    R (.ok (.ret (.ref (s.heap.push o).objs.size))) { s with heap := (s.heap.push o).push { cls := .type "enumerate", data := .fields #[.none, .bool false, .ref s.heap.objs.size, rawInt 0, .none, .none] } }) := by
  apply Meets.of_wp
  intro prog w A R s h
  obtain ⟨hp, g, d, tk, os⟩ := s
  obtain ⟨h1, h⟩ := h
  have hsub := sub_enumerate
  have it : ∀ {A' : Around} {E : Value → Shared → Prop} {Q : Value → Shared → Prop}, Q (.ref hp.objs.size) ⟨hp.push o, g, d, tk, os⟩ → wpAny (model prog w) A' (pyIter v) Q E ⟨hp, g, d, tk, os⟩ := by
    intro A' E Q q
    exact B.iter prog w _ _ ⟨hp, g, d, tk, os⟩ _ h1 q
  wp_walk using it
  apply wpAny_stack_any
  intro st
  apply wpAny_pure
  split
  · rename_i c _ _ _ _ _
    cases (c == Value.type "enumerate") <;> (wp_walk using it; exact ⟨_, rfl, h⟩)
  · wp_walk using it
    exact ⟨_, rfl, h⟩
section
variable {prog : Program} {w : World} {A : Around} {E : Value → Shared → Prop} {s : Shared}
theorem call_enumT {v : Value} {o : Obj} {H : Heap → Prop} {Q : Value → Shared → Prop} (B : Begins v o H) (h1 : H s.heap)
    (h : ∀ h', IsEnum h' (s.heap.objs.size + 1) s.heap.objs.size 0 .none → h'.get? s.heap.objs.size = some o → (∀ b o, s.heap.get? b = some o → h'.get? b = some o) → Q (.ref (s.heap.objs.size + 1)) { s with heap := h' }) :
    wpAny (model prog w) A (call (.type "enumerate") [v]) Q E s := by
  apply callType_new F.called_enumerate (by decide) (F.typeCall_enumerate_1 _) (F.newCall_enumerate_1 _) (fun obj => F.args_object_init_2 obj _) F.entry_enumerate_new (enum_meets B)
  refine ⟨h1, ?_⟩
  have hz : (s.heap.push o).objs.size = s.heap.objs.size + 1 := Heap.size_push ..
  show _ ∧ _
  rw [hz]
  have he : IsEnum ((s.heap.push o).push { cls := .type "enumerate", data := .fields #[.none, .bool false, .ref s.heap.objs.size, rawInt 0, .none, .none] }) (s.heap.objs.size + 1) s.heap.objs.size 0 .none := by
    have z := Heap.get?_push_size (s.heap.push o) (o := { cls := .type "enumerate", data := .fields #[.none, .bool false, .ref s.heap.objs.size, rawInt 0, .none, .none] }) rfl
    rw [hz] at z
    exact z
  exact ⟨⟨_, he, rfl⟩, h _ he (Heap.get?_push_of_some _ (Heap.get?_push_size _ B.free)) fun b o x => Heap.get?_push_of_some _ (Heap.get?_push_of_some _ x)⟩
end
def IteT (K : PySem.W.Frag) (a : Addr) : It :=
  ⟨fun i H => ∃ (xs : List V) (x : V), SqT K H a xs ∧ xs[i]? = some x, fun i H v H' => ∃ T x, v = .ref T ∧ H T = none ∧ H' = upd H T (.tup [.int (i : Nat), x]) ∧ ∀ xs, SqT K H a xs → xs[i]? = some x, fun i H => ∃ xs : List V, SqT K H a xs ∧ xs.length ≤ i⟩
theorem turn_enumT {P : Program} {w : World} {K : PySem.W.Frag} {elts : List Expr} {kk : Nat} {tpos : Pos} (a e it : Addr) :
    Turn P w K (.Tuple elts kk tpos) (IteT K a) [e, it] e (fun i h => (∃ old, IsEnum h e it ((i : Nat) : Int) old) ∧ h.IsTupleIter it a i ∧ e ≠ it ∧ a ≠ it ∧ e ≠ a) where
  mem := by simp
  obj := fun i h st b hb => by
    obtain ⟨⟨old, he⟩, ⟨o, ho, hc, hd⟩, _⟩ := st
    have e' : b = e ∨ b = it := by simpa using hb
    rcases e' with z | z
    · rw [z]; exact ⟨_, he, fun v q => nomatch q⟩
    · rw [z]; exact ⟨o, ho, fun v q => by rw [hd] at q; cases q⟩
  keep := fun i h h' st k => let ⟨⟨old, he⟩, hi, hne⟩ := st; ⟨⟨old, k e (by simp) _ he⟩, hi.at fun o q => k it (by simp) o q, hne⟩
  item := by
    intro X hP hw hK hc i pins s σ H E I hf st hg
    subst hP hw hK
    obtain ⟨⟨old, he⟩, hit, hne, hna, hea⟩ := st
    obtain ⟨xs, x, hq, hx⟩ := hg
    obtain ⟨its, rv, p, hz⟩ := I.tuple hq
    obtain ⟨u, hu, ru⟩ := rv.get hx
    have hel : e < s.heap.objs.size := Heap.lt_size he
    have hil : it < s.heap.objs.size := by obtain ⟨_, q, _⟩ := hit; exact Heap.lt_size q
    have hi : i < its.toArray.size := by
      have := (List.getElem?_eq_some_iff.mp hu).1
      simpa using this
    have DD := Draws.tuple (prog := X.prog) (w := X.w) (A := X.A.in1) (I.ok.hd hc) it a hna its.toArray
    apply wpAny_pyNext_enum_itemD DD he ⟨hit, p⟩ hi hne (by simp [hne, hea])
    intro x' h' tk hP ho hs hT hsz hk
    obtain ⟨hit', p'⟩ := hs
    have ex : x' = u := by
      have h2 : its[i]? = some x' := by simpa using hP
      rw [hu] at h2
      exact (Option.some.inj h2).symm
    subst ex
    refine ⟨_, rfl, wpAny_letOwnedTupleGo_enum (s := { s with heap := h', toks := tk + 1 }) ho fun h'' he' sb => ?_⟩
    have hT2 : h''.get? s.heap.objs.size = some { cls := .type "tuple", data := .seq #[.int i tk, x'] } := (sb.2 _ (Nat.ne_of_gt hel)).trans hT
    have new : ObjOk X.prog X.w (upd H s.heap.objs.size (.tup [.int (i : Nat), x])) h'' s.heap.objs.size (.tup [.int (i : Nat), x]) :=
      ⟨by show 2 ≤ sizeLine; decide, [.int i tk, x'], .cons ⟨_, rfl⟩ (.cons ru .nil), ⟨_, hT2, rfl, _, rfl⟩⟩
    have I1 : Inv X pins σ (upd H s.heap.objs.size (.tup [.int (i : Nat), x])) { s with heap := h'', toks := tk + 1 } := by
      apply I.turnedNew (ch := [e, it]) _ hf (Nat.le_refl _) new
      intro b ob hb q
      have h1 : b ≠ e := fun z => hb (by simp [z])
      have h2 : b ≠ it := fun z => hb (by simp [z])
      rw [sb.2 b h1]
      exact hk b ob h1 h2 q
    refine ⟨.ref s.heap.objs.size, _, I1, rfl, ⟨_, x, rfl, I.hok.fresh (Nat.le_refl _), rfl, fun ys hy => by rw [I.tuple_inj hy hq]; exact hx⟩, ⟨⟨x', ?_⟩, hit'.at fun o q => (sb.2 it (Ne.symm hne)).trans q, hne, hna, hea⟩, fun b hb => ?_⟩
    · have e1 : ((i + 1 : Nat) : Int) = (i : Int) + 1 := by omega
      rw [e1]; exact he'
    · have hb' : b < s.heap.objs.size := by
        have e' : b = e ∨ b = it := by simpa using hb
        rcases e' with z | z
        · rw [z]; exact hel
        · rw [z]; exact hil
      rw [upd_ne (Nat.ne_of_lt hb')]
      exact (hf b hb).1
  done := by
    intro X hP hw hK hc i pins s σ H E I hf st hg
    subst hP hw hK
    obtain ⟨⟨old, he⟩, hit, hne, hna, hea⟩ := st
    obtain ⟨xs, hq, hx⟩ := hg
    obtain ⟨its, rv, p, hz⟩ := I.tuple hq
    obtain ⟨f0, f1, f2, f3, f4, f5⟩ := hf it (by simp)
    have hl := rv.length
    unfold pyNext
    have hT : s.TypeIs (.ref e) "enumerate" := ⟨_, he, rfl⟩
    apply wpAny_bind
    apply wpAny_attempt
    apply wpAny_callSpecial?_slot (name := Str.ofString "__next__") hT F.slot_enumerate_next
    apply wpAny_call_entry F.slot_enumerate_next hT F.entry_enumerate_next _ (F.args_enumerate_next_1 _)
    show wpAny _ _ (field (.ref e) 2 >>= _) _ _ _
    apply wpAny_bind
    apply wpAny_field he rfl (x := .ref it) rfl
    apply wpAny_bind
    apply wpAny_nextOf_tuple_end (A := X.A.in1) (show X.A.in1.handled = none from I.ok.hd hc) hit p (by simp; omega)
    intro h' x he' hx'
    obtain ⟨o, ho, hc'⟩ := hx'
    refine wpAny_bind (wpAny_isInstance (T := "StopIteration") (b := true) ⟨o, ho, hc'⟩ isSubtype_stop ?_)
    apply wpAny_pure
    exact ⟨rfl, I.turned (t' := s.toks) (fun b o hb q => he' b o hb q) f0 f1 f3 f4 f5⟩
  self := fun A i s Q E st h => let ⟨⟨_, he⟩, _⟩ := st; wpAny_pyIter_enum he h
def iEnumT (K : PySem.W.Frag) (ta : TA) : TI := fun σ H R => ta σ H fun vs H1 => (∃ a xs, vs = [.ref a] ∧ SqL K H1 a xs ∧ R (Ite K a) H1) ∨ ∃ a xs, vs = [.ref a] ∧ SqT K H1 a xs ∧ H1 a ≠ none ∧ R (IteT K a) H1
theorem pi_enumT {X : Cx} {e : Expr} {ta : TA} {p pos tpos : Pos} {elts : List Expr} {kk : Nat} (hg : Gl X "enumerate") (hm : X.mg "enumerate" = none) (ha : PA X [e] ta) (hs : starEach [e] X.env = [(false, eval e X.env)] := by rfl) :
    PI X (.Tuple elts kk tpos) (.Call (.Name "enumerate" p) [e] [] pos) (iEnumT X.K ta) := by
  constructor
  intro pins s σ H R I h
  refine Call_ ?_
  apply ld_blt I hg hm boot_enumerate
  apply PyProof.Rows.callWith_type1 _ hs rfl
  refine thn (ha.run pos pins s σ H _ I h) fun us s1 ⟨vs, H1, I1, r1, q1⟩ => ?_
  rcases q1 with ⟨a, xs, ex, hq, q⟩ | ⟨a, xs, ex, hq, hn, q⟩
  · subst ex
    obtain rfl := Vals.ref1 r1
    obtain ⟨its, rv, p', hz⟩ := I1.list hq
    apply call_enumerate_list p'.isList
    intro h' he hit hsz hk
    apply wpAny_pyIter_enum he
    have I2 : Inv X pins σ H1 { s1 with heap := h' } := I1.kept (t' := s1.toks) hk
    refine ⟨s1.heap.objs.size + 1, [s1.heap.objs.size + 1, s1.heap.objs.size], _, _, H1, rfl, I2, turn_enum a (s1.heap.objs.size + 1) s1.heap.objs.size, ⟨⟨.none, he⟩, hit, Nat.succ_ne_self _⟩, fun b hb => ?_, q⟩
    have hle : s1.heap.objs.size ≤ b := by
      have e' : b = s1.heap.objs.size + 1 ∨ b = s1.heap.objs.size := by simpa using hb
      rcases e' with z | z
      · rw [z]; exact Nat.le_succ _
      · rw [z]; exact Nat.le_refl _
    exact I1.fpOk hle (I1.hok.fresh hle)
  · subst ex
    obtain rfl := Vals.ref1 r1
    obtain ⟨its, rv, p', hz⟩ := I1.tuple hq
    have hlt : a < s1.heap.objs.size := p'.lt
    apply call_enumT (begins_tuple a its.toArray) p'
    intro h' he hit hk
    apply wpAny_pyIter_enum he
    have I2 : Inv X pins σ H1 { s1 with heap := h' } := I1.kept (t' := s1.toks) hk
    refine ⟨s1.heap.objs.size + 1, [s1.heap.objs.size + 1, s1.heap.objs.size], _, _, H1, rfl, I2, turn_enumT a (s1.heap.objs.size + 1) s1.heap.objs.size, ⟨⟨.none, he⟩, ⟨_, hit, rfl, rfl⟩, Nat.succ_ne_self _, Nat.ne_of_lt hlt, Nat.ne_of_gt (Nat.lt_succ_of_lt hlt)⟩, fun b hb => ?_, q⟩
    have hle : s1.heap.objs.size ≤ b := by
      have e' : b = s1.heap.objs.size + 1 ∨ b = s1.heap.objs.size := by simpa using hb
      rcases e' with z | z
      · rw [z]; exact Nat.le_succ _
      · rw [z]; exact Nat.le_refl _
    exact I1.fpOk hle (I1.hok.fresh hle)
end DL
set_option maxRecDepth 100000
set_option maxHeartbeats 400000
namespace DL
open PySem PySem.Spec PyProof.Rows L2
variable [HW]
theorem itd_enumT {K : PySem.W.Frag} {M : Mm} {H : Hp} {a : Addr} {xs : List V} {ds : List D} (n : ¬ M.Has a) (ha : TupAt H a xs ds) (q : RDs M H xs ds) : ItD M H (IteT K a) (enumD 0 ds) := fun M1 H1 x tr => by
  have h1 := (ha.to fun _ z => x.st n z).sq (K := K)
  have q1 := q.mono x
  refine ⟨fun i d e => ?_, xs, h1, by rw [enumD_len, q.length]; exact Nat.le_refl _⟩
  obtain ⟨d', e1, rfl⟩ := enumD_get e
  obtain ⟨v, e2, r⟩ := q1.get e1
  refine ⟨⟨xs, v, h1, e2⟩, fun y H2 hy => ?_⟩
  obtain ⟨T, u, rfl, nT, rfl, hu⟩ := hy
  have eu : u = v := by
    have := hu xs h1
    rw [e2] at this
    exact (Option.some.inj this).symm
  subst eu
  refine ⟨same_new nT, RD.tup (new_out tr nT) (.inl ⟨rfl, upd_same⟩) ?_⟩
  rw [Nat.zero_add]
  exact .cons (.int _) (.cons (r.mono (grow_ext (same_new nT))) .nil)
def enumA (g : AM) : IM := fun ρ h => obnd (g ρ h) fun ws h1 => match ws with
  | [.dat (.list ds)] => some (enumD 0 ds, h1)
  | [.dat (.tuple ds)] => some (enumD 0 ds, h1)
  | _ => none
section
variable {X : Cx}
theorem di_enumA (hm : X.mg "enumerate" = none) {e : Expr} {elts : List Expr} {kk : Nat} {p pos tpos : Pos} {g : AM} (ha : DA X [e] g) (hg : Gl X "enumerate" := by rfl) (hs : starEach [e] X.env = [(false, eval e X.env)] := by rfl) : DI X (.Tuple elts kk tpos) (.Call (.Name "enumerate" p) [e] [] pos) (enumA g) := (pi_enumT hg hm ha hs).weak fun σ H R => by
  rintro ⟨M, h, ρ, ds, h', r, rs, e0, k⟩
  unfold enumA at e0
  cases eg : g ρ h with
  | none => rw [eg] at e0; cases e0
  | some pr =>
    obtain ⟨ws, h1⟩ := pr
    rw [eg] at e0
    simp only [obnd_some] at e0
    refine ⟨M, h, ρ, r, rs, ws, h1, eg, fun M1 H1 vs x1 r1 v1 => ?_⟩
    split at e0
    · cases e0
      obtain ⟨v, rfl, rv⟩ := rvs1 v1
      cases (show RD M1 H1 _ _ from rv) with
      | lst n e q => exact .inl ⟨_, _, rfl, .of e, k M1 H1 _ x1 r1 (itd_enum n e q)⟩
    · cases e0
      obtain ⟨v, rfl, rv⟩ := rvs1 v1
      cases (show RD M1 H1 _ _ from rv) with
      | tup n e q => exact .inr ⟨_, _, rfl, e.sq, (by obtain ⟨_, z⟩ := e.some_; rw [z]; exact nofun), k M1 H1 _ x1 r1 (itd_enumT n e q)⟩
    · cases e0
end
end DL
set_option maxRecDepth 100000
set_option maxHeartbeats 400000
namespace DL
open PySem PySem.Spec PyProof.Rows L2
variable [HW]
def moD : MO → D
  | .lst ds => .list ds
  | .dic es => .dict es
  | .dit es => .dict ((.none, .none) :: es)
  | .tab _ _ => .none
  | .ins _ _ => .none
def isTab : MO → Bool
  | .tab _ _ => true
  | .ins _ _ => true
  | .dit _ => true
  | _ => false
def isR (n : Nat) : Option W → Bool
  | some (.ref m) => decide (m = n)
  | some (.pack _) => true
  | _ => false
def frz (i : Nat) (ρ : Env) (h : Hh) : Option (Env × Hh) := match ρ[i]? with
  | some (some (.ref n)) => match h[n]? with
    | some (some o) => if ((ρ.set i none).any (isR n) || isTab o) = true then none else some (ρ.set i (some (.dat (moD o))), h.set n none)
    | _ => none
  | _ => none
def sFrz (i : Nat) (f : SM) : SM := fun ρ h => match frz i ρ h with
  | some (ρ', h') => f ρ' h'
  | none => none
section
variable {M : Mm} {H : Hp} {h : Hh}
theorem less_set {n : Nat} : ∀ b, Mm.Has ⟨M.u, M.m.set n none⟩ b → M.Has b := fun b z => by
  rcases z with z | z
  · exact .inl z
  · right
    rcases List.mem_or_eq_of_mem_set z with q | q
    · exact q
    · cases q
theorem not_set {n : Nat} {a : Addr} (rep : Rep M H h) (e : M.m[n]? = some (some a)) : ¬ Mm.Has ⟨M.u, M.m.set n none⟩ a := fun z => by
  rcases z with z | z
  · exact (rep.us a z).1 (List.mem_of_getElem? e)
  · obtain ⟨i, hi, q⟩ := List.getElem_of_mem z
    have q' : (M.m.set n none)[i]? = some (some a) := by rw [List.getElem?_eq_getElem hi, q]
    by_cases hn : n = i
    · subst hn
      have hi' : n < M.m.length := lt_of_get e
      rw [List.getElem?_set_self hi'] at q'
      cases q'
    · rw [List.getElem?_set_ne hn] at q'
      exact hn (rep.inj i n a q' e).symm
theorem ext_frz {n : Nat} : Ext M ⟨M.u, M.m.set n none⟩ H H where
  us := fun _ m => .inl m
  trk := fun a o e => ⟨o, e⟩
  stab := fun _ _ e _ => e
  fresh := fun a m => by
    rcases List.mem_or_eq_of_mem_set m with q | q
    · exact .inl q
    · cases q
  len := by simp
  kill := fun i hi => by
    by_cases hn : n = i
    · subst hn
      right
      show (M.m.set n none)[n]? = _
      rw [List.getElem?_set_self hi]
    · left
      show (M.m.set n none)[i]? = _
      rw [List.getElem?_set_ne hn]
theorem Rep.frz {n : Nat} {a : Addr} (rep : Rep M H h) (e : M.m[n]? = some (some a)) : Rep ⟨M.u, M.m.set n none⟩ H (h.set n none) := by
  have hn : n < h.length := by rw [← rep.len]; exact lt_of_get e
  refine ⟨fun b z => ?_, by simpa using rep.len, fun i j b q1 q2 => ?_, fun i b q => ?_, fun i q => ?_⟩
  · obtain ⟨h1, h2⟩ := rep.us b z
    refine ⟨fun y => h1 ?_, h2⟩
    rcases List.mem_or_eq_of_mem_set y with q | q
    · exact q
    · cases q
  · have g : ∀ (k : Nat), (M.m.set n none)[k]? = some (some b) → M.m[k]? = some (some b) := fun k q => by
      by_cases hk : n = k
      · subst hk
        rw [List.getElem?_set_self (lt_of_get e)] at q
        cases q
      · rwa [List.getElem?_set_ne hk] at q
    exact rep.inj i j b (g i q1) (g j q2)
  · have hk : n ≠ i := fun z => by
      subst z
      have q' : (M.m.set n none)[n]? = some (some b) := q
      rw [List.getElem?_set_self (lt_of_get e)] at q'
      cases q'
    have q' : M.m[i]? = some (some b) := by
      have z : (M.m.set n none)[i]? = some (some b) := q
      rwa [List.getElem?_set_ne hk] at z
    obtain ⟨o, ho, ro⟩ := rep.at_ i b q'
    exact ⟨o, by rw [List.getElem?_set_ne hk]; exact ho, ro.sub less_set⟩
  · have q' : (M.m.set n none)[i]? = some none := q
    by_cases hk : n = i
    · subst hk
      rw [List.getElem?_set_self hn]
    · rw [List.getElem?_set_ne hk] at q' ⊢
      exact rep.dead i q'
theorem RS.frz {n i : Nat} {a : Addr} {o : MO} {ρ : Env} {σ : L2.St} (rep : Rep M H h) (rs : RS M H ρ σ) (e : M.m[n]? = some (some a)) (er : ρ[i]? = some (some (.ref n))) (ro : RO M H a o) (hn : ¬ ((ρ.set i none).any (isR n)) = true) (ht : isTab o = false) :
    RS ⟨M.u, M.m.set n none⟩ H (ρ.set i (some (.dat (moD o)))) σ := by
  refine ⟨by simp [rs.1], fun j w q => ?_⟩
  by_cases hj : i = j
  · subst hj
    rw [List.getElem?_set_self (lt_of_get er)] at q
    cases q
    obtain ⟨v, ev, a', ea, rfl⟩ := rs.2 i _ er
    rw [e] at ea
    cases ea
    refine ⟨_, ev, ?_⟩
    cases o with
    | lst ds => obtain ⟨xs, hx, qx⟩ := ro; exact RD.lst (not_set rep e) hx (qx.sub less_set)
    | dic ds => obtain ⟨xs, hx, qx⟩ := ro; exact RD.dic (not_set rep e) hx (qx.sub less_set)
    | dit ds => exact absurd ht (by simp [isTab])
    | tab q P => exact absurd ht (by simp [isTab])
    | ins C fs => exact absurd ht (by simp [isTab])
  · rw [List.getElem?_set_ne hj] at q
    obtain ⟨v, ev, rv⟩ := rs.2 j w q
    refine ⟨v, ev, ?_⟩
    cases w with
    | dat d => exact RD.sub less_set rv
    | ins C fs =>
      obtain ⟨b, u, gs, e1, n1, q1, r1⟩ := rv
      exact ⟨b, u, gs, e1, fun z => n1 (less_set b z), q1, r1.to fun _ _ => RD.sub less_set⟩
    | exc k C fs =>
      obtain ⟨b, d, gs, e1, r1⟩ := rv
      exact ⟨b, d, gs, e1, r1.to (fun c _ _ n z => n (less_set c z)) (fun _ _ q _ _ => q) fun _ _ => RD.sub less_set⟩
    | pack its =>
      exact absurd (List.any_eq_true.mpr ⟨some (.pack its), List.mem_of_getElem? (i := j) (by rw [List.getElem?_set_ne hj]; exact q), rfl⟩) hn
    | lock es =>
      obtain ⟨b, u, kvs, e1, n1, q1, r1⟩ := rv
      exact ⟨b, u, kvs, e1, fun z => n1 (less_set b z), q1, r1.sub less_set⟩
    | scr ns =>
      obtain ⟨b, u, e1, n1, q1⟩ := rv
      exact ⟨b, u, e1, fun z => n1 (less_set b z), q1⟩
    | ref k =>
      obtain ⟨b, eb, rfl⟩ := rv
      have hk : n ≠ k := fun z => by
        subst z
        apply hn
        rw [List.any_eq_true]
        refine ⟨some (.ref n), ?_, by simp [isR]⟩
        exact List.mem_of_getElem? (i := j) (by rw [List.getElem?_set_ne hj]; exact q)
      exact ⟨b, by show (M.m.set n none)[k]? = _; rw [List.getElem?_set_ne hk]; exact eb, rfl⟩
end
theorem ds_frz {X : Cx} {sts : List Stmt} {f : SM} (i : Nat) (hd : DSs X sts f) : DSs X sts (sFrz i f) := PSs.weak hd fun D σ H => by
  rintro ⟨M, h, ρ, rep, rs, p⟩
  unfold sFrz at p
  split at p
  · rename_i ρ' h' ef
    unfold frz at ef
    split at ef
    · rename_i n er
      split at ef
      · rename_i o eo
        split at ef
        · cases ef
        · rename_i hn
          cases ef
          obtain ⟨v, ev, a, ea, rfl⟩ := rs.2 i _ er
          obtain ⟨o', ho', ro⟩ := rep.at_ n a ea
          rw [eo] at ho'
          cases ho'
          simp only [Bool.or_eq_true, not_or, Bool.not_eq_true] at hn
          exact ⟨_, _, _, rep.frz ea, rs.frz rep ea er ro (by simpa using hn.1) hn.2, p.mono rfl ext_frz⟩
      · cases ef
    · cases ef
  · exact p.elim
end DL
set_option maxRecDepth 100000
set_option maxHeartbeats 1000000
namespace DL
open PySem PySem.Spec PyProof.Rows L2
variable [HW]
section
variable {X : Cx}
theorem pairs_two {pins : List (Addr × Obj)} {σ : L2.St} {H : Hp} {s : Shared} (I : Inv X pins σ H s) : ∀ {ps : List Addr} {kvs : List (Key × V)}, Paired (fun p kv => SqT X.K H p [kV kv.1, kv.2]) ps kvs →
    ∃ (pv : List (Value × Value)) (prs : List (Key × Value)), KV kvs prs ∧ prs.length = ps.length ∧ pv.length = ps.length ∧
      ∀ (j : Nat) (k v : Value), pv[j]? = some (k, v) → ∃ b kk, ps[j]? = some b ∧ IsTup s.heap b #[k, v] ∧ prs[j]? = some (kk, v) ∧ (mixKind X.prog X.w).is kk k = true
  | _, _, .nil => ⟨[], [], .nil, rfl, rfl, fun j k v e => by cases j <;> cases e⟩
  | _, _, .cons (a := p) (b := kv) h t => by
    obtain ⟨pv, prs, r, h1, h2, h3⟩ := pairs_two I t
    obtain ⟨its, rv, ht, _⟩ := I.tuple h
    obtain ⟨u, y, rfl, ru, ry⟩ := vals2 rv
    refine ⟨(u, y) :: pv, (kv.1, y) :: prs, .cons ⟨rfl, ry⟩ r, congrArg (· + 1) h1, congrArg (· + 1) h2, fun j k v e => ?_⟩
    cases j with
    | zero => cases e; exact ⟨p, kv.1, rfl, ht, rfl, kV_is ru⟩
    | succ j => exact h3 j k v e
def rDictT : List V → Hp → VK → Prop := fun xs H Q => ∃ (a : Addr) (o : Obj) (ps : List Addr) (kvs : List (Key × V)), xs = [.ref a] ∧ o.dict = none ∧ H a = some (.frz o (.tup (ps.map V.ref))) ∧ Paired (fun p kv => Rd H p (.tup [kV kv.1, kv.2])) ps kvs ∧
    ∀ p, H p = none → Q (.ref p) (upd H p (.dK (mergeK [] kvs)))
theorem call_dictT (hcalm : X.calm = true) : CallR X (.type "dict") rDictT := by
  intro pins s σ H xs us Q I r q
  obtain ⟨a, o, ps, kvs, rfl, ho, ha, hp, q⟩ := q
  obtain ⟨u, rfl, rx⟩ := vals1 r
  cases rx
  obtain ⟨g1, hz, its, rv, o', g2, hc, n, hd⟩ := (show ObjOk X.prog X.w H s.heap a (.frz o (.tup (ps.map V.ref))) from I.hok a _ ha)
  rw [g1] at g2
  cases g2
  obtain rfl := refs_at rv
  rw [List.length_map] at hz
  obtain ⟨pv, prs, rel, h1, h2, h3⟩ := pairs_two I (Paired.mapP hp fun _ _ z => .inl z)
  have hlen : (ps.map Value.ref).toArray.size = pv.length := by simp [h2]
  have P := PairArg.tuple (prog := X.prog) (w := X.w) a (ps.map Value.ref).toArray (fun j => ps[j]?.getD 0) pv
  apply PySem.call_dict_pairs (knd := mixKind X.prog X.w) (kvs := prs) P (I.ok.hd hcalm) ⟨⟨o, n, g1, hc, ho, hd⟩, hlen, fun j k v e => ?_⟩ ⟨by rw [h1, h2], fun i k v e => ?_⟩ (by rw [h2]; exact hz)
  · intro h' tk hd' k
    have hm : (s.heap.objs.size == sysModules) = false := beq_eq_false_iff_ne.mpr (Nat.ne_of_gt I.big)
    have hk : (mergeK [] kvs).length ≤ sizeLine := by
      apply Nat.le_trans (length_mergeK kvs [])
      rw [List.length_nil, Nat.zero_add, rel.length, h1]
      exact hz
    exact ⟨.ref s.heap.objs.size, _, I.laid (t' := tk) (o := .dK (mergeK [] kvs)) (fun b o e => k b o (fun z => nomatch z) e) (Nat.le_refl _) ⟨hk, hm, merged [] prs, KV.merge rel .nil, hd'⟩, rfl, q _ (I.hok.fresh (Nat.le_refl _))⟩
  · obtain ⟨b, kk, e1, e2, _⟩ := h3 j k v e
    exact ⟨by simp [e1], .inl (by show IsTup s.heap (ps[j]?.getD 0) _; rw [e1]; exact e2)⟩
  · obtain ⟨b, kk, _, _, e3, e4⟩ := h3 i k v e
    exact ⟨kk, e3, e4⟩
def dictA (m : Bool) (ws : List W) (h : Hh) : Option (W × Hh) := match ws with
  | [w] => match deref h w with
    | some (.tuple ds) => if callD ds = true then (match pairsK ds with
      | some qs => mkK m (mergeD [] qs) h
      | none => none) else none
    | _ => dictW m [w] h
  | _ => none
theorem s_dictA (m : Bool) : SemA (fun xs H Q => ((∃ (a : Addr) (ps : List Addr) (kvs : List (Key × V)), xs = [.ref a] ∧ SqL X.K H a (ps.map V.ref) ∧ Paired (fun p kv => SqT X.K H p [kV kv.1, kv.2]) ps kvs ∧
    ∀ p, H p = none → Q (.ref p) (upd H p (.dK (mergeK [] kvs)))) ∨ ∃ (a : Addr) (kvs : List (Key × V)), xs = [.ref a] ∧ Rd H a (.dK kvs) ∧ ∀ p, H p = none → Q (.ref p) (upd H p (.dK kvs))) ∨ rDictT xs H Q) (dictA m) := by
  intro M H h vs ws Q rep rv c
  unfold dictA at c
  split at c
  · obtain ⟨v, rfl, r⟩ := rvs1 rv
    split at c
    · rename_i ds e
      obtain ⟨a, xs, rfl, na, ha, q⟩ := rr_tup (deref_rr rep r e)
      split at c
      · rename_i hc
        split at c
        · rename_i qs e2
          obtain ⟨ps, kvs, rfl, h1, h2⟩ := pairs_ok q e2
          rcases ha with ⟨hn, _⟩ | ⟨_, o, ho, ha⟩
          · rw [hc] at hn; cases hn
          · exact .inr ⟨a, o, ps, kvs, rfl, ho, ha, h1, fun p np => mkK_fin rep np (RDk.merge h2 .nil) c⟩
        · exact c.no.elim
      · exact c.no.elim
    · exact .inl (s_dict m M H h _ _ Q rep rv c)
  · exact c.no.elim
theorem d_dictA (hc : X.calm = true) (m : Bool) (hm : X.mg "dict" = none) {p pos : Pos} {e : Expr} {g : AM} (ha : DA X [e] g) (hg : Gl X "dict" := by rfl) (he : starEach [e] X.env = (false, eval e X.env) :: starEach [] X.env := by rfl) (hpl : (backTo pos (starEach [] X.env)).any (·.1) = false := by rfl) : DE X (.Call (.Name "dict" p) [e] [] pos) (fA (dictA m) g) :=
  d_callT (((call_dictP hc).or call_dictD).or (call_dictT hc)) (s_dictA m) hm bt_dict ha hg (by decide) (by decide) he hpl
end
end DL
set_option maxRecDepth 100000
set_option maxHeartbeats 1000000
namespace DL
open PySem PySem.Spec PyProof.Rows L2
variable [HW]
end DL
set_option maxRecDepth 100000
set_option maxHeartbeats 1000000
namespace DL
open PySem PySem.Spec PyProof.Rows L2
variable [HW]
end DL
set_option maxRecDepth 100000
set_option maxHeartbeats 1000000
namespace DL
open PySem PySem.Spec PyProof.Rows L2
variable [HW]
theorem law_gT {P : Program} {w : World} {K : PySem.W.Frag} {mg mb : Str → Option Value} {k : Nat} {fa a : Addr} {fd : FuncData} {x : Str} {sp : Sp} {s₁ : Shared} {vs : List Value} {ns : List Int} {cs : List (Addr × Addr)}
    (kx : K.In s₁.heap) (hns : s₁.heap.Ns mainGlobals mg) (hb : s₁.heap.Ns builtinsNs mb) (hbb : ∀ x : Str, x ≠ "__name__" → mb x = bootBuiltins x) (hlim : s₁.heap.NoLimit) (hg : s₁.gens = #[])
    (hT : ∀ p ∈ cs, PySem.W.CodeHd s₁.heap p.1 p.2 ∧ s₁.heap.get? p.2 = some { cls := .none, data := .fields #[] }) (nT : ∀ p ∈ cs, K.lookup p.2 = none)
    (hbm : ∃ (bm : Addr) (ob : Obj), mg "__builtins__" = some (.ref bm) ∧ bm ≠ builtinsNs ∧ s₁.heap.get? bm = some ob ∧ ob.cls = .type "module" ∧ ob.dict = some builtinsNs ∧ ob.data = .plain)
    (ha : s₁.heap.get? a = some { cls := .type "list", data := .seq vs.toArray }) (hi : IntsAre vs ns) (hl : ns.length ≤ sizeLine) (hr : Room k callerA)
    (F : ∀ base : Heap, K.In base → base.Ns mainGlobals mg → (∀ p ∈ cs, LamX.TabB base mg p.1 p.2) → FnG P w K mg base CX0 k fa fd [x] sp) (hbind : ∀ (s : Shared) (u : Value), BindsTo s fd ⟨[u], []⟩ [(x, u)])
    (hka : K.lookup a = none)
    (hsp : ∀ H : Hp, (∃ o, H a = some (.frz o (.lst (ns.map V.int)))) → (∀ p ∈ cs, H p.2 = some (.tbl #[])) → a ∉ cs.map (·.2) → sp [.ref a] H (fun v _ => v = .bl true) fun _ _ _ => False) :
    codeAny (model P w) callerA (.call (.ref fa) ⟨[.ref a], []⟩) (fun r s' => r = .ok (.ret (.bool true)) ∧ OldK s₁.heap s'.heap ∧ s'.os = s₁.os ∧ AllBare s'.gens) s₁ := by
  have rv := vals_ints hi
  let ob : Obj := { cls := .type "list", data := .seq vs.toArray }
  let H : Hp := fun b => if b = a then some (.frz ob (.lst (ns.map V.int))) else if b ∈ cs.map (·.2) then some (.tbl #[]) else none
  have tabs : ∀ b, b ∈ cs.map (·.2) → s₁.heap.get? b = some { cls := .none, data := .fields #[] } := fun b z => by
    obtain ⟨p, hp, rfl⟩ := List.mem_map.mp z
    exact (hT p hp).2
  have na : a ∉ cs.map (·.2) := fun z => by
    have y := tabs a z
    rw [ha] at y
    injection y with y
    injection y with _ _ y
    cases y
  have Ha : H a = some (.frz ob (.lst (ns.map V.int))) := if_pos rfl
  have Hc : ∀ b, b ∈ cs.map (·.2) → H b = some (.tbl #[]) := fun b z => by
    have h1 : b ≠ a := fun y => na (y ▸ z)
    show (if b = a then _ else if b ∈ cs.map (·.2) then _ else _) = _
    rw [if_neg h1, if_pos z]
  have Hn : ∀ b, b ≠ a → b ∉ cs.map (·.2) → H b = none := fun b h1 h2 => by
    show (if b = a then _ else if b ∈ cs.map (·.2) then _ else _) = _
    rw [if_neg h1, if_neg h2]
  have hok : HOk P w H s₁.heap := by
    intro b u e
    by_cases h : b = a
    · subst h
      rw [Ha] at e
      cases e
      exact ⟨ha, by rw [List.length_map]; exact hl, vs, _, rv, ha⟩
    · by_cases h2 : b ∈ cs.map (·.2)
      · rw [Hc b h2] at e
        cases e
        exact tabs b h2
      · rw [Hn b h h2] at e; cases e
  have hid : ∀ {b : Addr} {o : Obj}, s₁.heap.get? b = some o → H b = none → (hidT s₁.heap H).get? b = some o := fun e n => hidT_get e n
  have free : ∀ {b : Addr} {o : Obj}, s₁.heap.get? b = some o → (∀ vs n, o.data ≠ .seq vs n) → o.data ≠ .fields #[] → H b = none := by
    intro b o e h1 h2
    apply Hn
    · intro z
      subst z
      rw [ha] at e
      cases e
      exact h1 _ _ rfl
    · intro z
      rw [tabs b z] at e
      cases e
      exact h2 rfl
  have isd : ∀ {b : Addr} {o : Obj} {es : Array DictEntry} {ep : Nat}, s₁.heap.get? b = some o → o.data = .dict es ep → H b = none := by
    intro b o es ep e d
    apply free e
    · intro vs n z; rw [d] at z; cases z
    · intro z; rw [d] at z; cases z
  have nsk : ∀ {b : Addr} {m : Str → Option Value}, s₁.heap.Ns b m → (hidT s₁.heap H).Ns b m := fun {b m} q => by
    obtain ⟨o, es, ep, e, d, r⟩ := q
    exact ⟨o, es, ep, hid e (isd e d), d, r⟩
  have kb : K.In (hidT s₁.heap H) := by
    intro b o e
    apply hid (kx b o e)
    apply Hn
    · intro z
      subst z
      rw [hka] at e
      cases e
    · intro z
      obtain ⟨p, hp, rfl⟩ := List.mem_map.mp z
      rw [nT p hp] at e
      cases e
  have hM : Mod K mg (hidT s₁.heap H) := by
    refine ⟨kb, nsk hns, ⟨mb, nsk hb, hbb⟩, ?_⟩
    obtain ⟨mc, h1, h2⟩ := hlim
    exact ⟨mc, nsk h1, h2⟩
  have TB : ∀ p ∈ cs, LamX.TabB (hidT s₁.heap H) mg p.1 p.2 := by
    intro p hp
    obtain ⟨hc, ht⟩ := hT p hp
    constructor
    · obtain ⟨o, us, fi, tf, fl, tg, inF, tx, tt, e1, e2, e3, e4, r⟩ := hc
      refine ⟨o, us, fi, tf, fl, tg, inF, tx, tt, hid e1 (free e1 ?_ ?_), e2, e3, e4, r⟩
      · intro vs n z; rw [e3] at z; cases z
      · intro z
        rw [e3] at z
        injection z with z
        rw [z] at e4
        simp at e4
    · obtain ⟨bm, ob', b1, b2, b3, b4, b5, b6⟩ := hbm
      have n1 : bm ≠ mainGlobals := by
        intro z
        obtain ⟨o, es, ep, e, hd, _⟩ := hns
        rw [z, e] at b3
        cases b3
        rw [hd] at b6
        cases b6
      have n2 : bm ≠ p.2 := by
        intro z
        rw [z, ht] at b3
        cases b3
        cases b6
      refine ⟨bm, ob', b1, b2, n1, n2, hid b3 (free b3 ?_ ?_), b4, b5, b6⟩
      · intro vs n z; rw [b6] at z; cases z
      · intro z; rw [b6] at z; cases z
    · intro z
      obtain ⟨o, es, ep, e, hd, _⟩ := hns
      rw [z, ht] at e
      cases e
      cases hd
  have e0 : Env0 P w K mg (hidT s₁.heap H) callerA [] s₁ H := by
    refine ⟨rfl, hM, fun b o e => of_hidT e, Nat.le_of_eq (hidT_size _ _), trivial, fun b hb => ?_, hok, .of_eq hg⟩
    exact absurd (show b ∈ ([] : List Addr) from hb) (by simp)
  apply codeAny_mono ((F _ kb (nsk hns) TB).run callerA [] s₁ H ⟨[.ref a], []⟩ [.ref a] [.ref a] _ _ ⟨hr, rfl⟩ e0 (hbind s₁ (.ref a)) (.cons rfl .nil) (hsp H ⟨ob, Ha⟩ (fun p hp => Hc p.2 (List.mem_map.mpr ⟨p, hp, rfl⟩)) na))
  intro r s' h
  cases r with
  | error e => exact h.elim
  | ok fl => cases fl with
    | next => exact h.elim
    | brk => exact h.elim
    | cont => exact h.elim
    | ret u =>
      obtain ⟨v, H', os, bare, un, hok', r', q⟩ := h
      obtain rfl : v = .bl true := q
      obtain rfl : u = Value.bool true := r'
      have key : ∀ b o, b ∉ cs.map (·.2) → s₁.heap.get? b = some o → s'.heap.get? b = some o := by
        intro b o nb e
        by_cases hb' : b = a
        · subst hb'
          have z2 := un.frzs b ob _ Ha
          obtain ⟨e1, _⟩ := hok b _ Ha
          obtain ⟨e2, _⟩ := hok' b _ z2
          rw [e] at e1
          cases e1
          exact e2
        · exact un.keep b o e (Hn b hb' nb) (fun z => absurd (show b ∈ ([] : List Addr) from z) (by simp)) (by simp)
      have grown : ∀ p ∈ cs, ∃ more : Array Value, s'.heap.get? p.2 = some { cls := .none, data := .fields more } := by
        intro p hp
        obtain ⟨more, z⟩ := un.tbls p.2 #[] (Hc p.2 (List.mem_map.mpr ⟨p, hp, rfl⟩))
        exact ⟨_, hok' p.2 _ z⟩
      refine ⟨rfl, ⟨fun b o e => ?_, fun b o e => ?_⟩, os, bare⟩
      · by_cases hb' : b ∈ cs.map (·.2)
        · obtain ⟨p, hp, rfl⟩ := List.mem_map.mp hb'
          obtain ⟨more, hm⟩ := grown p hp
          rw [(hT p hp).2] at e
          cases e
          exact .inr (.inl ⟨((hT p hp).1.tab (hT p hp).2).isCodeTable, rfl, #[], more, rfl, by rw [Array.empty_append]; exact hm⟩)
        · exact .inl (key b o hb' e)
      · by_cases hb' : b ∈ cs.map (·.2)
        · obtain ⟨p, hp, rfl⟩ := List.mem_map.mp hb'
          obtain ⟨more, hm⟩ := grown p hp
          exact ⟨_, hm⟩
        · exact ⟨o, key b o hb' e⟩
end DL
set_option maxRecDepth 100000
set_option maxHeartbeats 1000000
namespace DL
open PySem PySem.Spec PyProof.Rows L2
variable [HW]
end DL
set_option maxRecDepth 100000
set_option maxHeartbeats 1000000
namespace DL
open PySem PySem.Spec PyProof.Rows L2
variable [HW]
section
variable {X : Cx}
theorem rowS_map : ∀ {ds : List D} {l : List Str}, rowS ds = some l → ds = l.map .str
  | [], _, e => by cases e; rfl
  | d :: ds, l, e => by
    unfold rowS at e
    split at e
    · rename_i q; cases q
    · rename_i a ds' q
      cases q
      simp only [Option.map_eq_some_iff] at e
      obtain ⟨l', e1, rfl⟩ := e
      rw [rowS_map e1]; rfl
    · cases e
theorem rowS_strs : ∀ l : List Str, rowS (l.map .str) = some l
  | [] => rfl
  | a :: l => by
    show (rowS (l.map .str)).map (a :: ·) = _
    rw [rowS_strs l]; rfl
theorem rds_strs {M : Mm} {H : Hp} : ∀ {xs : List V} {l : List Str}, RDs M H xs (l.map .str) → xs = l.map V.str
  | _, [], .nil => rfl
  | _, a :: l, .cons r t => by cases r; rw [rds_strs t]; rfl
theorem first_at {l : List Str} {z : Str} (h : z ∈ l) : l[l.idxOf z]? = some z ∧ ∀ m : Nat, m < l.idxOf z → l[m]? ≠ some z := by
  have h1 := List.idxOf_lt_length_of_mem h
  refine ⟨by rw [List.getElem?_eq_getElem h1, List.getElem_idxOf h1], fun m hm e => ?_⟩
  obtain ⟨h2, e2⟩ := List.getElem?_eq_some_iff.mp e
  have := List.not_of_lt_findIdx (p := (· == z)) (xs := l) (i := m) hm
  simp [e2] at this
def isTp (w : W) (h : Hh) : Bool := match deref h w with
  | some (.tuple ds) => rowD ds
  | _ => false
def indexT (w : W) (ws : List W) (h : Hh) : Option (W × Hh) := match deref h w, ws with
  | some (.tuple ds), [.dat (.str z)] => match rowS ds with
    | some l => if z ∈ l then ok (.int (l.idxOf z)) h else none
    | none => none
  | _, _ => none
def tBT (r : V → List V → Hp → VK → Prop) (to : TE) (t : TA) : TE := fun σ H Q => to σ H fun x H1 => (∃ (a : Addr) (o : Obj) (xs : List V), x = .ref a ∧ o.dict = none ∧ H1 a = some (.frz o (.tup xs))) ∧ t σ H1 fun vs H2 => r x vs H2 Q
theorem pe_bt {o e : Expr} {to : TE} {t : TA} {name : Str} {apos cpos : Pos} {id : String} {r : V → List V → Hp → VK → Prop} (slot : Slot "tuple" name id) (hty : typeOf (.builtin id) = pure (.type "method_descriptor")) (hm : MtR X id r) (ho : PE X o to) (ha : PA X [e] t)
    (hb : attributeBase o name X.env (eval o X.env) = eval o X.env := by rfl) (hf : ((backTo cpos (starEach [e] X.env)).all (fun x => !x.1) && (backToKw cpos (keywordEach [] X.env)).all (fun x => x.1.isSome) && decide (([e] : List Expr).length + ([] : List Keyword).length + (if ([] : List Keyword).isEmpty then 0 else 1) < 30)) = true := by rfl)
    (hl : (apos.endLine == cpos.line) = true := by rfl) (hs : starEach [e] X.env = [(false, eval e X.env)] := by rfl) : PE X (.Call (.Attribute o name apos) [e] [] cpos) (tBT r to t) := by
  constructor
  rintro pins s σ H Q I h
  apply wpAny_Call_method_late hb hf hl rfl
  refine thn (ho.run pins s σ H _ I h) fun v s1 ⟨x, H1, I1, r1, ⟨a, ob, xs, ex, od, oa⟩, q1⟩ => ?_
  subst ex
  cases r1
  obtain ⟨g1, _, its, _, o', g2, hc, _⟩ := (show ObjOk X.prog X.w H1 s1.heap a (.frz ob (.tup xs)) from I1.hok a _ oa)
  rw [g1] at g2
  cases g2
  refine ⟨"tuple", id, PySem.F.plainAttrs_tuple, slot, hty, ⟨ob, g1, hc⟩, fun c e => by cases e; exact ⟨ob, g1, od⟩, ?_⟩
  have hA := ha.run cpos pins s1 σ H1 _ I1 q1
  rw [hs] at hA ⊢
  exact Calls.callWith_builtin (by rfl) (Calls.evalArgs_plain (thn hA fun us s2 ⟨vs, H2, I2, r2, q2⟩ => hm pins s2 σ H2 (.ref a) vs _ us Q I2 rfl r2 q2))
def rIxT (K : PySem.W.Frag) : V → List V → Hp → VK → Prop := fun x xs H Q => ∃ p, ∃ ys : List Str, ∃ z j, x = .ref p ∧ xs = [.str z] ∧ SqT K H p (ys.map V.str) ∧ ys[j]? = some z ∧ (∀ m, m < j → ys[m]? ≠ some z) ∧ Q (.int (j : Nat)) H
theorem rowD_call {ds : List D} (h : rowD ds = true) : callD ds = true := by unfold callD; rw [h, Bool.or_true]
theorem d_indexT {o e : Expr} {apos cpos : Pos} {f : EM} {g : AM} (ho : DE X o f) (ha : DA X [e] g) (hb : attributeBase o "index" X.env (eval o X.env) = eval o X.env := by rfl)
    (hf : ((backTo cpos (starEach [e] X.env)).all (fun x => !x.1) && (backToKw cpos (keywordEach [] X.env)).all (fun x => x.1.isSome) && decide (([e] : List Expr).length + ([] : List Keyword).length + (if ([] : List Keyword).isEmpty then 0 else 1) < 30)) = true := by rfl)
    (hl : (apos.endLine == cpos.line) = true := by rfl) (hs : starEach [e] X.env = [(false, eval e X.env)] := by rfl) : DE X (.Call (.Attribute o "index" apos) [e] [] cpos) (fM isTp indexT f g) :=
  (pe_bt (r := rIxT X.K) PySem.F.slot_tuple_index PySem.F.type_tuple_index mt_tup_index ho ha hb hf hl hs).weak fun σ H Q => by
    rintro ⟨M, h, ρ, r, rs, c⟩
    obtain ⟨w, h1, e1, c1⟩ := Cont.bind (δ := Unit) c
    refine ⟨M, h, ρ, r, rs, w, h1, e1, fun M1 H1 v x1 r1 v1 => ?_⟩
    have c2 := c1 M1 H1 x1
    split at c2
    · rename_i ht
      have ht' : ∃ ds, deref h1 w = some (.tuple ds) ∧ rowD ds = true := by
        unfold isTp at ht
        split at ht
        · rename_i ds q; exact ⟨ds, q, ht⟩
        · cases ht
      obtain ⟨ds, q, hd⟩ := ht'
      obtain ⟨a, xs, rfl, na, hta, qa⟩ := rr_tup (deref_rr r1 v1 q)
      have hfz : ∃ ob : Obj, ob.dict = none ∧ H1 a = some (.frz ob (.tup xs)) := by
        rcases hta with ⟨hn, _⟩ | ⟨_, z⟩
        · rw [rowD_call hd] at hn; cases hn
        · exact z
      obtain ⟨ob, z1, z2⟩ := hfz
      refine ⟨⟨a, ob, xs, rfl, z1, z2⟩, M1, h1, ρ, r1, rs.mono x1, ?_⟩
      obtain ⟨w2, h2, e2, c3⟩ := Cont.bind (δ := Unit) c2
      refine ⟨w2, h2, e2, fun M2 H2 v2 x2 r2 q2 => ?_⟩
      have c4 := c3 M2 H2 x2
      have v2' := v1.mono x2
      unfold indexT at c4
      split at c4
      · rename_i ds' wz z hq
        obtain ⟨b, ys, e3, nb, hb', qb⟩ := rr_tup (deref_rr r2 v2' hq)
        cases e3
        obtain ⟨y, rfl, ry⟩ := rvs1 q2
        split at c4
        · rename_i l hl'
          split at c4
          · rename_i hm
            have := rowS_map hl'
            subst this
            have := rds_strs qb
            subst this
            obtain ⟨f1, f2⟩ := first_at hm
            cases (show RD M2 H2 y (.str z) from ry)
            exact ⟨a, l, z, _, rfl, rfl, hb'.sq, f1, f2, c4.here r2 (.int _)⟩
          · exact c4.no.elim
        · exact c4.no.elim
      · exact c4.no.elim
    · exact c2.no.elim
end
end DL
set_option maxRecDepth 100000
set_option maxHeartbeats 1000000
namespace DL
open PySem PySem.Spec PyProof.Rows L2
variable [HW]
section
variable {X : Cx}
def leT (a b : Str) : Bool := decide (a.cps.toList ≤ b.cps.toList)
theorem leT_trans (a b c : Str) (h1 : leT a b = true) (h2 : leT b c = true) : leT a c = true := by
  unfold leT at *
  simp only [decide_eq_true_eq] at *
  exact List.le_trans h1 h2
theorem leT_total (a b : Str) : (leT a b || leT b a) = true := by
  unfold leT
  simp only [Bool.or_eq_true, decide_eq_true_eq]
  exact List.le_total _ _
theorem leT_anti {a b : Str} (h1 : leT a b = true) (h2 : leT b a = true) : a = b := by
  unfold leT at *
  simp only [decide_eq_true_eq] at *
  have e := List.le_antisymm h1 h2
  obtain ⟨⟨x⟩⟩ := a
  obtain ⟨⟨y⟩⟩ := b
  simp at e
  rw [e]
theorem rds_ofS {M : Mm} {H : Hp} : ∀ l : List Str, RDs M H (l.map V.str) (l.map .str)
  | [] => .nil
  | a :: l => .cons (.str a) (rds_ofS l)
end
end DL
set_option maxRecDepth 100000
set_option maxHeartbeats 4000000
namespace DL
open PySem PySem.Spec PyProof.Rows L2
variable [HW]
section
variable {P : Program} {w : World}
structure TxR (P : Program) (w : World) (B : Froz.SD) (l : List Str) : Prop where
  ok : Froz.TxOk P w B l
  ris : Ris B.2.2.place.toList
  led : w.params.followText "set-order" = true ∨ B.2.2.led = true
theorem tail_ris {ep : Nat} {es : Array (Int × Value)} {t : SetTable} {b : Bool} (r : Ris t.place.toList) : Ris (Froz.tailTx ep es t b).2.2.place.toList := by
  unfold Froz.tailTx
  split
  · exact relayAll_ris _ _ _
  · exact r
theorem tail_led {ep : Nat} {es : Array (Int × Value)} {t : SetTable} {b : Bool} : (Froz.tailTx ep es t b).2.2.led = t.led := by
  unfold Froz.tailTx
  split
  · exact relayAll_led _ _ _
  · rfl
theorem TxR.add {B : Froz.SD} {l : List Str} {k : Str} (u : Tok) (F : TxR P w B l) : TxR P w (Froz.addTx (hashStr w k) (.str k u) B) (k :: l) := by
  refine ⟨Froz.add_ok u F.ok, ?_, ?_⟩
  · have r1 := layNew_ris B.2.2 B.1 (hashStr w k) (.str k u) F.ris
    unfold Froz.addTx
    apply tail_ris
    split
    · exact r1
    · exact r1
  · have l1 := layNew_led B.2.2 B.1 (hashStr w k) (.str k u)
    rcases F.led with q | q
    · exact .inl q
    · right
      unfold Froz.addTx
      rw [tail_led]
      split
      · exact l1.trans q
      · exact l1.trans q
def TxAt (P : Program) (w : World) (h : Heap) (a : Addr) (l : List Str) : Prop := ∃ B, h.get? a = some (Froz.sObj "set" B) ∧ TxR P w B l
theorem TxAt.at {h h' : Heap} {a : Addr} {l : List Str} (x : TxAt P w h a l) (k : ∀ o, h.get? a = some o → h'.get? a = some o) : TxAt P w h' a l := by
  obtain ⟨B, e, r⟩ := x
  exact ⟨B, k _ e, r⟩
end
section
variable {P : Program} {w : World} {A : Around} {R : Result → Shared → Prop} {I : Addr} {fp wr : List Addr} {G : Array GenState → Array GenState → Prop} {n : Nat} {Pv : Nat → Value → Prop} {St : Nat → Shared → Prop}
theorem txs_loop (W : WalksS P w A.in1 I fp wr G n Pv St) (a : Addr) (hf : a ∉ fp) (xs : List Str) (nd : xs.Nodup) (hn : xs.length = n) (hb : n + 1 < scanBound) (hv : ∀ i v, Pv i v → ∃ (y : Str) (t : Tok), xs[i]? = some y ∧ v = .str y t) :
    ∀ (k i : Nat) (s : Shared), i + k = n → St i s → TxAt P w s.heap a (xs.take i).reverse → (∀ s', Moved (a :: wr) G s s' → TxAt P w s'.heap a xs.reverse → R (.ok (.ret .none)) s') → codeAny (model P w) A (.builtin "set.update.loop" ⟨[.ref a, .ref I], []⟩) R s
  | 0, i, s, e, st, x, hR => by
    have hi : i = n := by omega
    subst hi
    apply codeAny_builtin PyProof.Rows.F.entry_set_update_loop
    rw [Around.under_plainId PyProof.Rows.F.plain_set_update_loop _]
    show wpAny _ A.in1 (pyNext (.ref I) >>= _) _ _ s
    apply wpAny_bind
    refine W.done s _ _ st fun s1 m => ?_
    show wpAny _ A.in1 (ret Value.none) _ _ s1
    refine wpAny_pure (hR s1 (m.mono fun b hb => List.mem_cons_of_mem _ hb) ?_)
    have x' := x.at fun o q => m.heap a o (fun z => hf (W.sub _ z)) q
    rwa [← hn, List.take_length] at x'
  | k + 1, i, s, e, st, x, hR => by
    apply codeAny_builtin PyProof.Rows.F.entry_set_update_loop
    rw [Around.under_plainId PyProof.Rows.F.plain_set_update_loop _]
    show wpAny _ A.in1 (pyNext (.ref I) >>= _) _ _ s
    apply wpAny_bind
    refine W.item i s _ _ (by omega) st fun v s1 pv st1 m => ?_
    obtain ⟨y, t, ey, rfl⟩ := hv i v pv
    obtain ⟨B, eB, rB⟩ := x.at fun o q => m.heap a o (fun z => hf (W.sub _ z)) q
    show wpAny _ A.in1 (holding [Value.str y t] (setAdd a (.str y t)) >>= _) _ _ s1
    apply wpAny_bind
    apply wpAny_holding
    unfold setAdd
    apply wpAny_holding
    apply wpAny_bind
    refine (PySem.strKind P w).pyHash (k := y) (strKind_is _ _ _ _) ?_
    have hnew : y ∉ (xs.take i).reverse := fun z => by
      have z := List.mem_reverse.mp z
      obtain ⟨j, hj, ej⟩ := List.mem_take_iff_getElem.mp z
      obtain ⟨hi, ei⟩ := List.getElem?_eq_some_iff.mp ey
      have := (List.pairwise_iff_getElem.mp nd) j i (by omega) hi (by omega)
      exact this (by rw [ej, ei])
    refine Froz.add_x (s := { s1 with toks := s1.toks + 1 }) eB rB.ok hnew (by rw [List.length_reverse, List.length_take]; omega) ?_
    have e2 := Froz.get_upd (h := s1.heap) (Froz.sObj "set" (Froz.addTx (hashStr w y) (.str y t) B)) eB rfl
    have oth : ∀ b o, b ≠ a → s1.heap.get? b = some o → (s1.heap.update a (fun _ => Froz.sObj "set" (Froz.addTx (hashStr w y) (.str y t) B))).get? b = some o := fun b o nb q => (Heap.get?_update_other _ _ (Ne.symm nb)).trans q
    refine wpAny_pure ⟨plainId_quiet PyProof.Rows.F.plain_set_update_loop _, txs_loop W a hf xs nd hn hb hv k (i + 1) _ (by omega) (W.frame _ s1 _ _ st1 (Nat.le_succ _) fun b hb o q => oth b o (fun z => hf (z ▸ hb)) q) ⟨_, e2, ?_⟩ fun s2 m2 x2 => ?_⟩
    · rw [List.take_add_one, ey]
      simp only [Option.toList_some, List.reverse_append, List.reverse_cons, List.reverse_nil, List.nil_append, List.singleton_append]
      exact rB.add t
    · exact hR s2 (Moved.trans W.gtrans ((m.mono fun b hb => List.mem_cons_of_mem _ hb).then_heap (Nat.le_succ _) fun b o nb q => oth b o (fun z => nb (by rw [z]; exact List.mem_cons_self)) q) m2) x2
end
section
variable {P : Program} {w : World} {A : Around} {E : Value → Shared → Prop} {s : Shared}
abbrev nSet (w : World) : Obj := { cls := .type "set", dict := none, data := .set #[] 0 (.fresh 0 0 (!w.params.followText "set-order")) }
theorem nSet_txs {h : Heap} {a : Addr} (e : h.get? a = some (nSet w)) : TxAt P w h a [] := by
  refine ⟨(#[], 0, .fresh 0 0 (!w.params.followText "set-order")), e, Froz.TxOk.nil rfl, List.Pairwise.nil, ?_⟩
  show _ ∨ (!w.params.followText "set-order") = true
  cases w.params.followText "set-order" with
  | false => exact .inr rfl
  | true => exact .inl rfl
set_option maxHeartbeats 3200000 in
theorem call_set_txs {l : Addr} {its : Array Value} {xs : List Str} {Q : Value → Shared → Prop} (hh : A.handled = none) (hl : s.heap.IsList l its) (hi : StrsAre its.toList xs) (nd : xs.Nodup) (hb : xs.length + 1 < scanBound)
    (h : ∀ h' tk, TxAt P w h' s.heap.objs.size xs.reverse → (∀ b o, s.heap.get? b = some o → h'.get? b = some o) → Q (.ref s.heap.objs.size) { s with heap := h', toks := tk }) : wpAny (model P w) A (call (.type "set") [.ref l]) Q E s := by
  obtain ⟨c0, c1, k1⟩ := F.called_set.mro
  have k2 := F.called_set.made
  have k3 := F.called_set.sub
  apply wpAny_call
  apply codeAny_of_tree
  show wpAny _ _ (callAny (.type "set") _) _ _ _
  refine wpAny_pure ⟨Code.quiet_builtin _ (by decide +kernel), ?_⟩
  apply codeAny_builtin F.entry_type_call
  rw [Around.under_plain (weight_type_call_type "set" [.ref l] []) rfl]
  have k4 := F.called_set.notType
  have k5 := F.called_set.canCreate
  have k6 := F.typeCall_set_1 (.ref l)
  repeat (any_goals (first | assumption | wp_step))
  refine codeAny_mono (code_set_led1 (.ref l) (E := E) (Q₁ := fun o s1 => o = .ref s.heap.objs.size ∧ s1 = { s with heap := s.heap.push (nSet w) }) ⟨rfl, rfl⟩) fun q s1 hq => ?_
  cases q with
  | error _ => exact hq
  | ok f =>
    cases f with
    | ret o =>
      obtain ⟨rfl, rfl⟩ := hq
      have at1 : (s.heap.push (nSet w)).get? s.heap.objs.size = some (nSet w) := Heap.get?_push_size _ rfl
      have ty1 : Shared.TypeIs { s with heap := s.heap.push (nSet w) } (.ref s.heap.objs.size) "set" := ⟨_, at1, rfl⟩
      have k7 := F.called_set.init.lookup
      have k8 := F.called_set.init.bind (.ref s.heap.objs.size)
      repeat (any_goals (first | assumption | wp_step))
      refine codeAny_mono (codeAny_call_builtin (R := wants (fun z s2 => z = .none ∧ ∃ h' tk, s2 = { s with heap := h', toks := tk } ∧ TxAt P w h' s.heap.objs.size xs.reverse ∧ ∀ b o, s.heap.get? b = some o → h'.get? b = some o) E) F.called_set.init.plain F.entry_set_init (check_set_init_1 ty1 ?_)) fun q2 s2 hq2 => ?_
      · obtain ⟨⟨oc, od, odt, os⟩, ho, hoc, m, hod⟩ := hl
        simp only at hoc hod
        subst hoc
        subst hod
        have ho' : (s.heap.push (nSet w)).get? l = some { cls := .type "list", dict := od, data := .seq its m, slots := os } := Heap.get?_push_of_some _ ho
        have f1 := F.sub_list_set
        have f2 := F.sub_list_frozenset
        have f3 : (Value.type "list" == Value.type "dict") = false := by decide
        have hl' : (s.heap.push (nSet w)).IsList l its := ⟨_, ho', rfl, m, rfl⟩
        unfold Builtin.«set.__init__» noKeywords Builtin.Frozenset.updateFrom
        generalize eI : pyIter = pI
        wp_walk
        subst eI
        apply wpAny_pyIter_list hl'
        apply wpAny_bind
        apply wpAny_runValue
        have lt : l < s.heap.objs.size := Heap.lt_size ho
        have zs : (s.heap.push (nSet w)).objs.size = s.heap.objs.size + 1 := Heap.size_push ..
        have n1 : l ≠ (s.heap.push (nSet w)).objs.size := by rw [zs]; exact Nat.ne_of_lt (Nat.lt_succ_of_lt lt)
        have n2 : s.heap.objs.size ∉ [(s.heap.push (nSet w)).objs.size, l] := by
          rw [zs]
          simp only [List.mem_cons, List.not_mem_nil, or_false, not_or]
          exact ⟨Nat.ne_of_lt (Nat.lt_succ_self _), Nat.ne_of_gt lt⟩
        have len : xs.length = its.size := by rw [← StrsAre.len_eq hi, Array.length_toList]
        have val : ∀ (i : Nat) (v : Value), its[i]? = some v → ∃ (y : Str) (t : Tok), xs[i]? = some y ∧ v = .str y t := fun i v hv => by
          have hv' : its.toList[i]? = some v := by rw [Array.getElem?_toList]; exact hv
          obtain ⟨t, e⟩ := SS.strs_at hi i v hv'
          have hlt : i < xs.length := by have := (List.getElem?_eq_some_iff.mp hv').1; rw [Array.length_toList] at this; omega
          exact ⟨xs[i], t, List.getElem?_eq_getElem hlt, by rw [e, List.getD_eq_getElem?_getD, List.getElem?_eq_getElem hlt]; rfl⟩
        refine txs_loop ((Walks.list (by simp [hh]) _ l n1 its).toS) s.heap.objs.size n2 xs nd len (by rw [← len]; exact hb) val its.size 0 _ (by omega) ⟨⟨_, Heap.get?_push_size _ rfl, rfl, rfl⟩, hl'.push _⟩ ?_ ?_
        · rw [List.take_zero, List.reverse_nil]
          exact nSet_txs (Heap.get?_push_of_some _ at1)
        · intro s3 mv x3
          obtain ⟨h3, g3, d3, t3, o3⟩ := s3
          have q1 : g3 = s.gens := mv.gens
          have q2 : d3 = s.drawn := mv.drawn
          have q3 : o3 = s.os := mv.os
          subst q1
          subst q2
          subst q3
          show wpAny _ _ _ _ _ _
          apply wpAny_pure
          show wpAny _ _ (ret Value.none) _ _ _
          refine wpAny_pure ⟨rfl, h3, t3, rfl, x3, fun b o e => mv.heap b o (fun z => ?_) (Heap.get?_push_of_some _ (Heap.get?_push_of_some _ e))⟩
          have lb := Heap.lt_size e
          simp only [List.mem_cons, List.not_mem_nil, or_false, zs] at z
          rcases z with z | z
          · exact absurd lb (by rw [z]; exact Nat.lt_irrefl _)
          · exact absurd lb (by rw [z]; exact Nat.not_lt_of_le (Nat.le_succ _))
      · cases q2 with
        | error _ => exact hq2
        | ok f2 =>
          cases f2 with
          | ret z =>
            obtain ⟨rfl, h', tk, rfl, x', k'⟩ := hq2
            repeat (any_goals (first | assumption | wp_step))
            exact h _ _ x' k'
          | _ => exact hq2.elim
    | _ => exact hq.elim
end
end DL
set_option maxRecDepth 100000
set_option maxHeartbeats 1000000
namespace DL
open PySem PySem.Spec PyProof.Rows L2
variable [HW]
section
variable {P : Program} {w : World} {A : Around} {E : Value → Shared → Prop} {s : Shared}
abbrev IsTx (v : Value) (k : Str) : Prop := ∃ t, v = .str k t
def txV : Value → Str
  | .str k _ => k
  | _ => Str.empty
theorem each_tx : ∀ {vs : List Value}, (∀ v ∈ vs, ∃ k, IsTx v k) → PySem.W.EachIs IsTx vs (vs.map txV)
  | [], _ => .nil
  | v :: vs, h => by
    obtain ⟨k, t, rfl⟩ := h v List.mem_cons_self
    exact .cons ⟨t, rfl⟩ (each_tx fun u hu => h u (List.mem_cons_of_mem _ hu))
theorem vals_tx : ∀ {vs : List Value} {l : List Str}, PySem.W.EachIs IsTx vs l → Vals (l.map V.str) vs
  | _, _, .nil => .nil
  | _, _, .cons a t => .cons a (vals_tx t)
theorem perm_cover : ∀ {l m : List Str}, l.Nodup → l.length = m.length → (∀ k ∈ l, k ∈ m) → l.Perm m
  | [], m, _, e, _ => by
    have : m = [] := List.length_eq_zero_iff.mp e.symm
    rw [this]
  | a :: l, m, nd, e, h => by
    have pe := List.perm_cons_erase (h a List.mem_cons_self)
    have hl := pe.length_eq
    rw [List.length_cons] at hl e
    obtain ⟨n1, n2⟩ := List.nodup_cons.mp nd
    have ih := perm_cover (l := l) (m := m.erase a) n2 (by omega) fun k hk => by
      have ne : k ≠ a := fun z => by subst z; exact n1 hk
      exact (List.mem_erase_of_ne ne).mpr (h k (List.mem_cons_of_mem _ hk))
    exact (List.Perm.cons a ih).trans pe.symm
theorem leT_data : PySem.W.dataLe false (fun k : Str => (PyData.str k)) = leT := PySem.W.dataLe_str fun k => k
theorem sorted_txs {a : Addr} {l : List Str} {Q : Value → Shared → Prop} (x : TxAt P w s.heap a l) (nd : l.Nodup) (hb : l.length < scanBound) (hz : l.length ≤ sizeLine) (hh : A.handled = none) (hu : A.units + 2 < cLine)
    (hQ : ∀ s' p out c, (∀ b o, s.heap.get? b = some o → s'.heap.get? b = some o) → s'.gens = s.gens → s'.os = s.os → s.heap.objs.size ≤ p → s'.heap.get? p = some (seqObj "list" (List.toArray out) c) → Vals ((l.mergeSort leT).map V.str) out → Q (.ref p) s') :
    wpAny (model P w) A (call (.builtin "sorted") [.ref a]) Q E s := by
  obtain ⟨⟨es, ep, t⟩, ho, F, ris, led⟩ := x
  have fz : es.size = l.length := F.sz
  refine call_function_entry_kw kind_sorted plain_sorted entry_sorted (args_sorted1 _) ?_
  unfold Builtin.«sorted»
  refine wpAny_bind (m := checkCount "sorted" 1 1 _) (wpAny_pure (wpAny_bind (collect_set (A := A.in1) hh ⟨_, ho, rfl, rfl⟩ F.fit (by rw [fz]; exact hb) ris led fun s1 vs k1 hs g1 o1 pm => ?_)))
  have el : ∀ v ∈ vs, ∃ k, IsTx v k := fun v hv => by
    obtain ⟨e, he, rfl⟩ := List.mem_map.mp (pm.mem_iff.mp hv)
    obtain ⟨⟨k, hk, _⟩, _⟩ := F.el e he
    exact ⟨k, Value.isStrOf_shape hk⟩
  have vl : vs.length = l.length := by rw [pm.length_eq, List.length_map, Array.length_toList]; exact fz
  have pl : l.Perm (vs.map txV) := perm_cover nd (by rw [List.length_map, vl]) fun k hk => by
    obtain ⟨e, he, q⟩ := (F.mem k).mp hk
    obtain ⟨u, eu⟩ := Value.isStrOf_shape q
    refine List.mem_map.mpr ⟨e.2, pm.mem_iff.mpr (List.mem_map.mpr ⟨e, he, rfl⟩), ?_⟩
    rw [eu]; rfl
  have ev := each_tx el
  have hv : vs.length ≤ sizeLine := by rw [vl]; exact hz
  apply wpAny_bind
  refine wpAny_newList ?_ hv
  have at_ : (s1.heap.push (seqObj "list" vs.toArray 0)).get? s1.heap.objs.size = some (seqObj "list" vs.toArray 0) := Heap.get?_push_size _ rfl
  have er' : PySem.W.EachIs (fun v b => ∃ as, Reads (PySem.W.sortingHeap (s1.heap.push (seqObj "list" vs.toArray 0)) s1.heap.objs.size vs) v (PyData.str b) as) vs (vs.map txV) := ev.mono fun v b ⟨u, e⟩ => by
    subst e
    exact ⟨[], .str b u⟩
  have hal : PySem.W.AllAlike ((vs.map txV).map PyData.str) := fun d hd e he => by
    obtain ⟨x, _, rfl⟩ := List.mem_map.mp hd
    obtain ⟨y, _, rfl⟩ := List.mem_map.mp he
    rfl
  have hk : PySem.W.Sortable ((vs.map txV).map PyData.str) := .inr fun d hd => by
    obtain ⟨x, _, rfl⟩ := List.mem_map.mp hd
    exact ⟨fun z => (by cases z), fun xs z => (by cases z)⟩
  refine wpAny_bind (wpAny_holding (wpAny_call_entry_kw slot_list_sort ⟨_, at_, rfl⟩ entry_list_sort ?_ (args_list_sort _)))
  refine PySem.W.list_sort_vals (s := { s1 with heap := s1.heap.push (seqObj "list" vs.toArray 0) }) at_ (PySem.W.SortsAt.data (s := { s1 with heap := PySem.W.sortingHeap (s1.heap.push (seqObj "list" vs.toArray 0)) s1.heap.objs.size vs }) (PySem.W.each_map (R := fun v d => ∃ as, Reads (PySem.W.sortingHeap (s1.heap.push (seqObj "list" vs.toArray 0)) s1.heap.objs.size vs) v d as) PyData.str er') hal hk (PySem.W.bound_map (A := A.in1.in1) fun b _ => ?_)) hv ?_
  · have e : PyData.depth (.str b) = 0 := rfl
    rw [e]
    exact hu
  · refine ⟨_, rfl, wpAny_pure ⟨_, rfl, ?_⟩⟩
    obtain ⟨c, hc⟩ := sortedHeap_at (vs := vs) (out := (PySem.W.sortVals (PySem.W.dataKind (PySem.W.sortingHeap (s1.heap.push (seqObj "list" vs.toArray 0)) s1.heap.objs.size vs) ((vs.map txV).map PyData.str)) false vs vs).toArray) at_
    have eo := PySem.W.sortVals_data false ev er' hal
    rw [leT_data] at eo
    have es' : (vs.map txV).mergeSort leT = l.mergeSort leT := List.Perm.eq_of_pairwise (fun x y _ _ h1 h2 => leT_anti h1 h2) (List.pairwise_mergeSort leT_trans leT_total _) (List.pairwise_mergeSort leT_trans leT_total _) ((List.mergeSort_perm _ _).trans (pl.symm.trans (List.mergeSort_perm _ _).symm))
    rw [es'] at eo
    refine hQ _ _ _ c (fun b o q => ?_) g1 o1 hs hc (vals_tx eo)
    have q1 := k1 b o q
    have lb := Heap.lt_size q1
    show (sortedHeap _ _ _ _).get? b = some o
    rw [sortedHeap_old (Nat.ne_of_lt lb) (by rw [size_push']; exact Nat.lt_succ_of_lt lb)]
    exact Heap.get?_push_of_some _ q1
end
section
variable {X : Cx}
def SetX (P : Program) (w : World) (a : Addr) (l : List Str) : HO := .ext fun h => TxAt P w h a l
theorem setX_new {P : Program} {w : World} {H : Hp} {h : Heap} {a : Addr} {l : List Str} (x : TxAt P w h a l) : ObjOk P w H h a (SetX P w a l) := by
  have ⟨B, e, _⟩ := x
  exact ⟨x, ⟨_, e⟩, fun h1 h2 p k => TxAt.at p k⟩
def rSetX (K : PySem.W.Frag) (P : Program) (w : World) : List V → Hp → VK → Prop := fun xs H Q => ∃ (a : Addr) (l : List Str), xs = [.ref a] ∧ SqL K H a (l.map V.str) ∧ l.Nodup ∧ l.length + 1 < scanBound ∧ ∀ p, H p = none → Q (.ref p) (upd H p (SetX P w p l.reverse))
theorem cr_setX (hc : X.calm = true) : CallR X (.type "set") (rSetX X.K X.prog X.w) := by
  rintro pins s σ H xs us Q I r ⟨a, l, rfl, hl, nd, hb, q⟩
  rw [Vals.ref1 r]
  obtain ⟨its, rv, pl, hz⟩ := I.list hl
  refine call_set_txs (P := X.prog) (w := X.w) (its := its.toArray) (xs := l) (I.ok.hd hc) pl.isList rv.strs nd hb fun h' tk x k => ?_
  exact ⟨.ref s.heap.objs.size, _, I.laid (t' := tk) (o := SetX X.prog X.w s.heap.objs.size l.reverse) k (Nat.le_refl _) (setX_new x), rfl, q _ (I.hok.fresh (Nat.le_refl _))⟩
def rSortX (P : Program) (w : World) : List V → Hp → VK → Prop := fun xs H Q => ∃ (a : Addr) (l : List Str), xs = [.ref a] ∧ H a = some (SetX P w a l) ∧ l.Nodup ∧ l.length < scanBound ∧ l.length ≤ sizeLine ∧ ∀ p, H p = none → Q (.ref p) (upd H p (.lst ((l.mergeSort leT).map V.str)))
theorem cr_sortX {k : Nat} (hr : Room k X.A) (hc : X.calm = true) : CallR X (.builtin "sorted") (rSortX X.prog X.w) := by
  rintro pins s σ H xs us Q I r ⟨a, l, rfl, ha, nd, hb, hz, q⟩
  rw [Vals.ref1 r]
  have x : TxAt X.prog X.w s.heap a l := (I.hok a _ ha).1
  refine sorted_txs x nd hb hz (I.ok.hd hc) (by have := hr.un; omega) fun s' p out c k g o hp hg hv => ?_
  have hlen : ((l.mergeSort leT).map V.str).length ≤ sizeLine := by rw [List.length_map, List.length_mergeSort]; exact hz
  have hn : H p = none := I.hok.fresh hp
  have J : Inv X pins σ (upd H p (.lst ((l.mergeSort leT).map V.str))) { s with heap := s'.heap, gens := s'.gens, drawn := s'.drawn, toks := s'.toks } :=
    I.call (ch := []) (Un.laid k hp hn) (I.hok.laid k hp ⟨hlen, out, c, hv, hg⟩) (by rw [g]; exact I.bare) (fun _ z => nomatch z)
  have e : s' = { s with heap := s'.heap, gens := s'.gens, drawn := s'.drawn, toks := s'.toks } := by
    cases s'
    cases s
    cases o
    rfl
  rw [e]
  exact ⟨.ref p, _, J, rfl, q p hn⟩
noncomputable def sortSW (m : Bool) (ws : List W) (h : Hh) : Option (W × Hh) := match ws with
  | [w] => match deref h w with
    | some (.list ds) => match rowS ds with
      | some l => if (decide l.Nodup && decide (l.length < 1000)) = true then mkL m ((l.mergeSort leT).map .str) h else none
      | none => none
    | _ => none
  | _ => none
theorem sort_rev (l : List Str) : l.reverse.mergeSort leT = l.mergeSort leT :=
  List.Perm.eq_of_pairwise (fun x y _ _ h1 h2 => leT_anti h1 h2) (List.pairwise_mergeSort leT_trans leT_total _) (List.pairwise_mergeSort leT_trans leT_total _) ((List.mergeSort_perm _ _).trans ((List.reverse_perm l).trans (List.mergeSort_perm _ _).symm))
theorem d_sortS {k : Nat} (hr : RG k X.A) (hc : X.calm = true) (m : Bool) (hm : X.mg "sorted" = none) (hm2 : X.mg "set" = none) {e : Expr} {p p2 q pos : Pos} {g : AM} (ha : DA X [e] g) (hg : Gl X "sorted" := by rfl) (hg2 : Gl X "set" := by rfl)
    (he : starEach [.Call (.Name "set" p2) [e] [] q] X.env = (false, eval (.Call (.Name "set" p2) [e] [] q) X.env) :: starEach [] X.env := by rfl) (hpl : (backTo pos (starEach [] X.env)).any (·.1) = false := by rfl) (he2 : starEach [e] X.env = (false, eval e X.env) :: starEach [] X.env := by rfl) (hpl2 : (backTo q (starEach [] X.env)).any (·.1) = false := by rfl) :
    DE X (.Call (.Name "sorted" p) [.Call (.Name "set" p2) [e] [] q] [] pos) (fA (sortSW m) g) :=
  (pe_callB (cr_sortX hr.room hc) hg hm (by decide +kernel) (pa_cons (pe_callTy (cr_setX hc) hg2 hm2 (by decide +kernel) ha (by decide) (by decide) he2 hpl2) pa_nil) (by decide) (by decide) he hpl).weak fun σ H Q => by
    rintro ⟨M, h, ρ, r, rs, c⟩
    obtain ⟨w, h1, e1, c1⟩ := Cont.bind (δ := Unit) c
    refine ⟨M, h, ρ, r, rs, w, h1, e1, fun M1 H1 v x1 r1 v1 => ?_⟩
    have c2 := c1 M1 H1 x1
    unfold sortSW at c2
    split at c2
    · obtain ⟨v, rfl, rv⟩ := rvs1 v1
      split at c2
      · rename_i ds ed
        obtain ⟨a, xs, rfl, ha, qa⟩ := deref_rr r1 rv ed
        split at c2
        · rename_i l el
          split at c2
          · rename_i hz
            rw [Bool.and_eq_true, decide_eq_true_eq, decide_eq_true_eq] at hz
            have := rowS_map el
            subst this
            have := rds_strs qa
            subst this
            have sb : l.length + 1 < scanBound := by have : scanBound = 4096 := rfl; omega
            refine ⟨a, l, rfl, .of ha, hz.1, sb, fun p np => ?_⟩
            refine ⟨p, l.reverse, rfl, upd_same, (List.reverse_perm l).nodup_iff.mpr hz.1, by rw [List.length_reverse]; omega, by rw [List.length_reverse, sizeLine_eq]; omega, fun p' np' => ?_⟩
            rw [sort_rev]
            have x2 := ext_new (M := M1) (o := SetX X.prog X.w p l.reverse) np
            have c3 : Cont RV (mkL m ((l.mergeSort leT).map .str) h1) M1 (upd H1 p (SetX X.prog X.w p l.reverse)) Q := by
              obtain ⟨w', h', ee, kk⟩ := c2
              exact ⟨w', h', ee, fun M' H' v' xx => kk M' H' v' (x2.trans xx)⟩
            exact mkL_fin (r1.upd_new np) np' (rds_ofS _) c3
          · exact c2.no.elim
        · exact c2.no.elim
      · exact c2.no.elim
    · exact c2.no.elim
def isS : W → Bool
  | .dat (.str _) => true
  | _ => false
def joinW (x y : W) (h : Hh) : Option (W × Hh) := match x, deref h y with
  | .dat (.str a), some (.list ds) => match rowS ds with
    | some l => if (l.map (·.length)).sum + l.length * a.length ≤ 16777216 then ok (.str (Txt.join a l)) h else none
    | none => none
  | _, _ => none
def fJoin (fo fe : EM) : EM := fun ρ h => obnd (fo ρ h) fun x h1 => if isS x = true then obnd (fe ρ h1) fun y h2 => joinW x y h2 else none
theorem d_join {o e : Expr} {apos pos : Pos} {fo fe : EM} (ho : DE X o fo) (he : DE X e fe) (hs : starEach [e] X.env = [(false, eval e X.env)] := by rfl) (hb : attributeBase o "join" X.env (eval o X.env) = eval o X.env := by rfl) (hl : (apos.endLine == pos.line) = true := by rfl) :
    DE X (.Call (.Attribute o "join" apos) [e] [] pos) (fJoin fo fe) := (pe_join ho he hs hb hl).weak fun σ H Q => by
  rintro ⟨M, h, ρ, r, rs, c⟩
  obtain ⟨w, h1, e1, c1⟩ := Cont.bind (δ := Unit) c
  refine ⟨M, h, ρ, r, rs, w, h1, e1, fun M1 H1 v x1 r1 v1 => ?_⟩
  have c2 := c1 M1 H1 x1
  split at c2
  · rename_i ht
    have hw : ∃ a, w = .dat (.str a) := by
      unfold isS at ht
      split at ht
      · exact ⟨_, rfl⟩
      · cases ht
    obtain ⟨a, rfl⟩ := hw
    cases (show RD M1 H1 v (.str a) from v1)
    refine ⟨⟨a, rfl⟩, M1, h1, ρ, r1, rs.mono x1, ?_⟩
    obtain ⟨w2, h2, e2, c3⟩ := Cont.bind (δ := Unit) c2
    refine ⟨w2, h2, e2, fun M2 H2 v2 x2 r2 q2 => ?_⟩
    have c4 := c3 M2 H2 x2
    unfold joinW at c4
    split at c4
    · rename_i a' ds ea ed
      cases ea
      obtain ⟨p, xs, rfl, hp, qp⟩ := deref_rr r2 q2 ed
      split at c4
      · rename_i l el
        split at c4
        · rename_i hz
          have := rowS_map el
          subst this
          have := rds_strs qp
          subst this
          exact ⟨a, p, l, rfl, rfl, .inl (.of hp), hz, c4.here r2 (.str _)⟩
        · exact c4.no.elim
      · exact c4.no.elim
    · exact c4.no.elim
  · exact c2.no.elim
end
end DL
set_option maxRecDepth 100000
set_option maxHeartbeats 1000000
namespace DL
open PySem PySem.Spec PyProof.Rows L2
variable [HW]
end DL
set_option maxRecDepth 100000
set_option maxHeartbeats 1000000
namespace DL
open PySem PySem.Spec PyProof.Rows L2
variable [HW]
end DL
set_option maxRecDepth 100000
set_option maxHeartbeats 4000000
namespace DL
open PySem PySem.Spec PyProof.Rows L2
variable [HW]
section
variable {X : Cx}
def gSub (i j : Int) : Option Int := some (i - j)
end
end DL
set_option maxRecDepth 100000
set_option maxHeartbeats 1000000
namespace DL
open PySem PySem.Spec PyProof.Rows L2
variable [HW]
end DL
set_option maxRecDepth 100000
set_option maxHeartbeats 400000
namespace DL
open PySem PySem.Spec PyProof.Rows L2
variable [HW]
mutual
def noL : D → Bool
  | .tuple ds => noLs ds
  | .list _ => false
  | .dict _ => false
  | _ => true
def noLs : List D → Bool
  | [] => true
  | d :: ds => noL d && noLs ds
end
def okM : Option MO → Bool
  | some (.lst ds) => noLs ds
  | some (.tab _ _) => true
  | none => true
  | _ => false
def killG {α : Type} (ns : List Nat) (l : List (Option α)) : List (Option α) := ns.foldl (fun l n => l.set n none) l
theorem killG_len {α : Type} : ∀ (ns : List Nat) (l : List (Option α)), (killG ns l).length = l.length
  | [], l => rfl
  | n :: ns, l => by show (killG ns (l.set n none)).length = _; rw [killG_len ns]; simp
theorem killG_get {α : Type} : ∀ (ns : List Nat) (l : List (Option α)) (i : Nat), i < l.length → (killG ns l)[i]? = if i ∈ ns then some none else l[i]?
  | [], l, i, h => by simp [killG]
  | n :: ns, l, i, h => by
    show (killG ns (l.set n none))[i]? = _
    rw [killG_get ns _ i (by simpa using h)]
    by_cases hi : i ∈ ns
    · simp [hi]
    · by_cases hn : n = i
      · subst hn; simp [hi, List.getElem?_set_self h]
      · simp [hi, Ne.symm hn, List.getElem?_set_ne hn]
def openP (h : Hh) : List (Sum Nat D) → Option (List D × List Nat)
  | [] => some ([], [])
  | .inr d :: its => match openP h its with
    | some (ds, ns) => some (d :: ds, ns)
    | none => none
  | .inl n :: its => match h[n]?, openP h its with
    | some (some (.lst l)), some (ds, ns) => some (.list l :: ds, n :: ns)
    | _, _ => none
section
variable {M : Mm} {H : Hp} {h : Hh}
theorem killM_has {ns : List Nat} : ∀ b, Mm.Has ⟨M.u, killG ns M.m⟩ b → M.Has b := fun b z => by
  rcases z with z | z
  · exact .inl z
  · obtain ⟨i, hi, q⟩ := List.getElem_of_mem z
    have hi' : i < M.m.length := by simpa [killG_len] using hi
    have q' : (killG ns M.m)[i]? = some (some b) := by rw [List.getElem?_eq_getElem hi]; exact congrArg some q
    rw [killG_get ns M.m i hi'] at q'
    split at q'
    · cases q'
    · exact .inr (List.mem_of_getElem? q')
theorem killM_get {ns : List Nat} {i : Nat} {a : Addr} (q : (killG ns M.m)[i]? = some (some a)) : i ∉ ns ∧ M.m[i]? = some (some a) := by
  have hi : i < M.m.length := by have := lt_of_get q; rwa [killG_len] at this
  rw [killG_get ns M.m i hi] at q
  split at q
  · cases q
  · rename_i hn; exact ⟨hn, q⟩
theorem Rep.kill (rep : Rep M H h) (ns : List Nat) : Rep ⟨M.u, killG ns M.m⟩ H (killG ns h) := by
  refine ⟨fun b z => ⟨fun y => ?_, (rep.us b z).2⟩, by rw [killG_len, killG_len]; exact rep.len, fun i j b q1 q2 => ?_, fun i b q => ?_, fun i q => ?_⟩
  · obtain ⟨i, hi, q⟩ := List.getElem_of_mem y
    have q' : (killG ns M.m)[i]? = some (some b) := by rw [List.getElem?_eq_getElem hi]; exact congrArg some q
    exact (rep.us b z).1 (List.mem_of_getElem? (killM_get q').2)
  · exact rep.inj i j b (killM_get q1).2 (killM_get q2).2
  · obtain ⟨hn, q'⟩ := killM_get q
    obtain ⟨o, ho, ro⟩ := rep.at_ i b q'
    refine ⟨o, ?_, ro.sub killM_has⟩
    rw [killG_get ns h i (by rw [← rep.len]; exact lt_of_get q'), if_neg hn]
    exact ho
  · have q' : (killG ns M.m)[i]? = some none := q
    have hi : i < M.m.length := by have := lt_of_get q'; rwa [killG_len] at this
    rw [killG_get ns h i (by rw [← rep.len]; exact hi)]
    rw [killG_get ns M.m i hi] at q'
    split at q'
    · rename_i hn; rw [if_pos hn]
    · rename_i hn; rw [if_neg hn]; exact rep.dead i q'
theorem killM_not (rep : Rep M H h) {ns : List Nat} {n : Nat} {a : Addr} (hn : n ∈ ns) (q : M.m[n]? = some (some a)) : ¬ Mm.Has ⟨M.u, killG ns M.m⟩ a := fun z => by
  rcases z with z | z
  · exact (rep.us a z).1 (List.mem_of_getElem? q)
  · obtain ⟨i, hi, e⟩ := List.getElem_of_mem z
    have q' : (killG ns M.m)[i]? = some (some a) := by rw [List.getElem?_eq_getElem hi]; exact congrArg some e
    obtain ⟨h1, h2⟩ := killM_get q'
    exact h1 (rep.inj i n a h2 q ▸ hn)
theorem openP_rds (rep : Rep M H h) {ns0 : List Nat} : ∀ {its : List (Sum Nat D)} {xs : List V} {ds : List D} {ns : List Nat}, RPs M H xs its → openP h its = some (ds, ns) → (∀ n ∈ ns, n ∈ ns0) → RDs ⟨M.u, killG ns0 M.m⟩ H xs ds
  | _, _, _, _, .nil, e, _ => by cases e; exact .nil
  | _, _, _, _, .dat (ds := its) q r, e, hs => by
    simp only [openP] at e
    split at e
    · rename_i ds ns e1
      cases e
      exact .cons (q.sub killM_has) (openP_rds rep r e1 hs)
    · cases e
  | _, _, _, _, .ref (ds := its) q r, e, hs => by
    simp only [openP] at e
    split at e
    · rename_i l ds ns e0 e1
      cases e
      obtain ⟨o, ho, ro⟩ := rep.at_ _ _ q
      rw [e0] at ho
      cases ho
      obtain ⟨xs, hx, rx⟩ := ro
      exact .cons (.lst (killM_not rep (hs _ (by simp)) q) hx (rx.sub killM_has)) (openP_rds rep r e1 fun n z => hs n (List.mem_cons_of_mem _ z))
    · cases e
theorem RS.kill {ρ : Env} {σ : L2.St} {i : Nat} {its : List (Sum Nat D)} {ds : List D} {ns : List Nat} (rep : Rep M H h) (rs : RS M H ρ σ) (er : ρ[i]? = some (some (.pack its))) (eo : openP h its = some (ds, ns)) (hn : ¬ ns.any (fun n => (ρ.set i none).any (isR n)) = true) (h0 : ns ≠ []) :
    RS ⟨M.u, killG ns M.m⟩ H (ρ.set i (some (.dat (.list ds)))) σ := by
  refine ⟨by simp [rs.1], fun j w q => ?_⟩
  by_cases hj : i = j
  · subst hj
    rw [List.getElem?_set_self (lt_of_get er)] at q
    cases q
    obtain ⟨v, ev, a, xs, rfl, na, ha, rp⟩ := rs.2 i _ er
    exact ⟨_, ev, RD.lst (fun z => na (killM_has _ z)) ha (openP_rds rep rp eo fun _ z => z)⟩
  · rw [List.getElem?_set_ne hj] at q
    obtain ⟨v, ev, rv⟩ := rs.2 j w q
    refine ⟨v, ev, ?_⟩
    have hm : some w ∈ ρ.set i none := List.mem_of_getElem? (i := j) (by rw [List.getElem?_set_ne hj]; exact q)
    cases w with
    | dat d => exact RD.sub killM_has rv
    | ins C fs =>
      obtain ⟨b, u, gs, e1, n1, q1, r1⟩ := rv
      exact ⟨b, u, gs, e1, fun z => n1 (killM_has b z), q1, r1.to fun _ _ => RD.sub killM_has⟩
    | exc k C fs =>
      obtain ⟨b, d, gs, e1, r1⟩ := rv
      exact ⟨b, d, gs, e1, r1.to (fun c _ _ n z => n (killM_has c z)) (fun _ _ q _ _ => q) fun _ _ => RD.sub killM_has⟩
    | lock es =>
      obtain ⟨b, u, kvs, e1, n1, q1, r1⟩ := rv
      exact ⟨b, u, kvs, e1, fun z => n1 (killM_has b z), q1, r1.sub killM_has⟩
    | scr ns =>
      obtain ⟨b, u, e1, n1, q1⟩ := rv
      exact ⟨b, u, e1, fun z => n1 (killM_has b z), q1⟩
    | pack its' =>
      obtain ⟨n, hn0⟩ := List.exists_mem_of_ne_nil _ h0
      exact absurd (List.any_eq_true.mpr ⟨n, hn0, List.any_eq_true.mpr ⟨_, hm, rfl⟩⟩) hn
    | ref k =>
      obtain ⟨b, eb, rfl⟩ := rv
      have hk : k ∉ ns := fun z => hn (List.any_eq_true.mpr ⟨k, z, List.any_eq_true.mpr ⟨_, hm, by simp [isR]⟩⟩)
      exact ⟨b, by show (killG ns M.m)[k]? = _; rw [killG_get ns M.m k (lt_of_get eb), if_neg hk]; exact eb, rfl⟩
end
section
variable {X : Cx}
def packs : List W → Option (List (Sum Nat D))
  | [] => some []
  | .dat d :: ws => (packs ws).map (.inr d :: ·)
  | .ref n :: ws => (packs ws).map (.inl n :: ·)
  | _ :: _ => none
@[simp] theorem packs_nil : packs [] = some [] := rfl
@[simp] theorem packs_dat (d : D) (ws : List W) : packs (.dat d :: ws) = (packs ws).map (.inr d :: ·) := rfl
@[simp] theorem packs_ref (n : Nat) (ws : List W) : packs (.ref n :: ws) = (packs ws).map (.inl n :: ·) := rfl
theorem RPs.length {M : Mm} {H : Hp} : ∀ {vs : List V} {ws : List (Sum Nat D)}, RPs M H vs ws → vs.length = ws.length
  | _, _, .nil => rfl
  | _, _, .ref _ r => by rw [List.length_cons, List.length_cons, r.length]
  | _, _, .dat _ r => by rw [List.length_cons, List.length_cons, r.length]
theorem RPs.get {M : Mm} {H : Hp} : ∀ {xs : List V} {its : List (Sum Nat D)} {i : Nat} {z : Sum Nat D}, RPs M H xs its → its[i]? = some z → ∃ v, xs[i]? = some v ∧ RV M H v (match z with | .inl n => .ref n | .inr d => .dat d)
  | _, _, _, _, .nil, e => by simp at e
  | _, _, 0, _, .ref (a := a) q r, e => by simp at e; subst e; exact ⟨_, rfl, a, q, rfl⟩
  | _, _, 0, _, .dat q r, e => by simp at e; subst e; exact ⟨_, rfl, q⟩
  | _, _, i + 1, z, .ref (vs := vs) (ds := ds) q r, e => by
    obtain ⟨v, e1, e2⟩ := RPs.get (i := i) r (by simpa using e)
    exact ⟨v, by simpa using e1, e2⟩
  | _, _, i + 1, z, .dat (vs := vs) (ds := ds) q r, e => by
    obtain ⟨v, e1, e2⟩ := RPs.get (i := i) r (by simpa using e)
    exact ⟨v, by simpa using e1, e2⟩
end
end DL
set_option maxRecDepth 100000
set_option maxHeartbeats 1000000
namespace DL
open PySem PySem.Spec PyProof.Rows L2
variable [HW]
mutual
def noD : D → Bool
  | .tuple ds => noDs ds
  | .list ds => noDs ds
  | .dict _ => false
  | _ => true
def noDs : List D → Bool
  | [] => true
  | d :: ds => noD d && noDs ds
end
def noDk : List (D × D) → Bool
  | [] => true
  | (_, d) :: es => noD d && noDk es
def noDM : Option MO → Bool
  | some (.lst ds) => noDs ds
  | some (.dic es) => noDk es
  | some (.dit es) => noDk es
  | some (.ins _ _) => false
  | _ => true
section
variable {M : Mm} {H : Hp} {d : Addr} {o : Obj} {u : HO} {kvs0 : List (Key × V)}
mutual
theorem RD.lock (hd : H d = some (.dK kvs0)) : ∀ {v : V} {x : D}, RD M H v x → noD x = true → RD M (upd H d u) v x
  | _, _, .non, _ => .non
  | _, _, .bl b, _ => .bl b
  | _, _, .int i, _ => .int i
  | _, _, .str s, _ => .str s
  | _, _, .tup n e r, h => .tup n (e.to fun _ q => by
      rw [upd_ne]; exact q
      rintro rfl
      rcases e with ⟨_, e⟩ | ⟨_, o, _, e⟩ <;> rw [hd] at e <;> cases e) (RDs.lock hd r (by simpa [noD] using h))
  | _, _, .lst n e r, h => .lst n (by
      rw [upd_ne]; exact e
      rintro rfl
      rw [hd] at e; cases e) (RDs.lock hd r (by simpa [noD] using h))
  | _, _, .dic n e r, h => by simp [noD] at h
  | _, _, .dit n e r, h => by simp [noD] at h
theorem RDs.lock (hd : H d = some (.dK kvs0)) : ∀ {v : List V} {x : List D}, RDs M H v x → noDs x = true → RDs M (upd H d u) v x
  | _, _, .nil, _ => .nil
  | _, _, .cons a r, h => by
    simp only [noDs, Bool.and_eq_true] at h
    exact .cons (RD.lock hd a h.1) (RDs.lock hd r h.2)
end
theorem RDk.lock (hd : H d = some (.dK kvs0)) : ∀ {v : List (Key × V)} {x : List (D × D)}, RDk M H v x → noDk x = true → RDk M (upd H d u) v x
  | _, _, .nil, _ => .nil
  | _, _, .cons a r, h => by
    simp only [noDk, Bool.and_eq_true] at h
    exact .cons (RD.lock hd a h.1) (RDk.lock hd r h.2)
theorem RDt.lock (hd : H d = some (.dK kvs0)) : ∀ {v : List KA} {x : List (D × D)}, RDt M H v x → noDk x = true → RDt M (upd H d u) v x
  | _, _, .nil, _ => .nil
  | _, _, .cons n e a r, h => by
    simp only [noDk, Bool.and_eq_true] at h
    exact .cons n (e.to fun _ q => by
      rw [upd_ne]; exact q
      rintro rfl
      rcases e with ⟨_, e⟩ | ⟨_, o, _, e⟩ <;> rw [hd] at e <;> cases e) (RD.lock hd a h.1) (RDt.lock hd r h.2)
theorem RO.lock (hd : H d = some (.dK kvs0)) (hn : ¬ M.Has d) {a : Addr} (ha : M.Has a) {m : MO} (r : RO M H a m) (h : noDM (some m) = true) : RO M (upd H d u) a m := by
  have ne : a ≠ d := fun z => hn (z ▸ ha)
  cases m with
  | lst ds => obtain ⟨xs, e, r⟩ := r; exact ⟨xs, by rw [upd_ne ne]; exact e, r.lock hd h⟩
  | dic ds => obtain ⟨xs, e, r⟩ := r; exact ⟨xs, by rw [upd_ne ne]; exact e, r.lock hd h⟩
  | dit ds => obtain ⟨xs, e, r⟩ := r; exact ⟨xs, by rw [upd_ne ne]; exact e, r.lock hd h⟩
  | ins C fs => cases h
  | tab q P =>
    obtain ⟨z, ps, e, t, r⟩ := r
    refine ⟨z, ps, by rw [upd_ne ne]; exact e, t, fun pos cv hc => ?_⟩
    obtain ⟨c, e1, n, e2⟩ := r pos cv hc
    refine ⟨c, e1, n, ?_⟩
    rw [upd_ne]; exact e2
    rintro rfl
    rw [hd] at e2; cases e2
theorem Rep.lock {h : Hh} (r : Rep M H h) (hd : H d = some (.dK kvs0)) (hn : ¬ M.Has d) (hk : h.all noDM = true) : Rep M (upd H d u) h :=
  ⟨fun a m => ⟨(r.us a m).1, let ⟨w, e, ht⟩ := (r.us a m).2; ⟨w, by rw [upd_ne (fun z => hn (.inl (by rw [← z]; exact m)))]; exact e, ht⟩⟩, r.len, r.inj, fun i a e => by
    obtain ⟨m, hm, ro⟩ := r.at_ i a e
    exact ⟨m, hm, ro.lock hd hn (.inr (List.mem_of_getElem? e)) (List.all_eq_true.mp hk _ (List.mem_of_getElem? hm))⟩, r.dead⟩
end
section
variable {X : Cx}
theorem RDk.get {M : Mm} {H : Hp} : ∀ {kvs : List (Key × V)} {es : List (D × D)} {i : Nat} {e : D × D}, RDk M H kvs es → es[i]? = some e → ∃ k v, kvs[i]? = some (k, v) ∧ e.1 = kP k ∧ RD M H v e.2
  | _, _, _, _, .nil, e => by simp at e
  | _, _, 0, _, .cons r t, e => by simp at e; subst e; exact ⟨_, _, rfl, rfl, r⟩
  | _, _, i + 1, _, .cons r t, e => by
    obtain ⟨k, v, h1, h2⟩ := RDk.get (i := i) t (by simpa using e)
    exact ⟨k, v, by simpa using h1, h2⟩
end
end DL
set_option maxRecDepth 100000
set_option maxHeartbeats 1000000
namespace DL
open PySem PySem.Spec PyProof.Rows L2
variable [HW]
end DL
set_option maxRecDepth 100000
set_option maxHeartbeats 1000000
namespace DL
open PySem PySem.Spec PyProof.Rows L2
variable [HW]
section
variable {X : Cx}
def extendW (w : W) (ws : List W) (h : Hh) : Option (W × Hh) := match w, ws with
  | .ref n, [.dat (.list zs)] => match lstAt h n with
    | some ds => if ds.length + zs.length ≤ sizeLine then setL h n (ds ++ zs) .none else none
    | none => none
  | _, _ => none
theorem s_extend : SemM rExtend extendW := by
  intro M H h x w vs ws Q rep rx rv c
  unfold extendW at c
  split at c
  · rename_i n zs
    obtain ⟨a, ea, rfl⟩ := rx
    obtain ⟨v, rfl, r⟩ := rvs1 rv
    split at c
    · rename_i ds e
      obtain ⟨xs, ha, q⟩ := lstAt_ok rep e ea
      split at c
      · rename_i hz
        cases (show RD M H v _ from r) with
        | lst nb hb qb => exact ⟨a, _, xs, _, rfl, rfl, ha, hb, by rw [q.length, qb.length]; exact hz, setL_fin rep ea (q.app qb) .non c⟩
      · exact c.no.elim
    · exact c.no.elim
  · exact c.no.elim
end
end DL
set_option maxRecDepth 100000
set_option maxHeartbeats 1000000
namespace DL
open PySem PySem.Spec PyProof.Rows L2
variable [HW]
end DL
set_option maxRecDepth 100000
set_option maxHeartbeats 1000000
namespace DL
open PySem PySem.Spec PyProof.Rows L2
variable [HW]
end DL
set_option maxRecDepth 100000
set_option maxHeartbeats 1000000
namespace DL
open PySem PySem.Spec PyProof.Rows L2
variable [HW]
end DL
set_option maxRecDepth 100000
namespace DL
open PySem PySem.Spec PyProof.Rows L2
variable [HW]
theorem lookup_relabel {env : PySem.Env} : ∀ {names : List (Str × NameKind)} {x : Str}, names.lookup x = some .cell ∨ names.lookup x = some .free →
    (names.map fun (n, k) => if (k == NameKind.free && env.scope.kind == .function && env.kindOf n == some .cell) then (n, NameKind.cell) else (n, k)).lookup x = some .cell ∨
    (names.map fun (n, k) => if (k == NameKind.free && env.scope.kind == .function && env.kindOf n == some .cell) then (n, NameKind.cell) else (n, k)).lookup x = some .free
  | [], _, h => by simp at h
  | (n, k) :: r, x, h => by
    have ih := @lookup_relabel env r x
    rw [List.map_cons]
    show List.lookup x ((if (k == NameKind.free && env.scope.kind == .function && env.kindOf n == some .cell) = true then (n, NameKind.cell) else (n, k)) :: _) = _ ∨ List.lookup x ((if (k == NameKind.free && env.scope.kind == .function && env.kindOf n == some .cell) = true then (n, NameKind.cell) else (n, k)) :: _) = _
    cases hx : x == n with
    | true =>
      simp only [List.lookup_cons, hx] at h
      by_cases hc : (k == NameKind.free && env.scope.kind == .function && env.kindOf n == some .cell) = true
      · rw [if_pos hc]; left; simp only [List.lookup_cons, hx]
      · rw [if_neg hc]; simp only [List.lookup_cons, hx]; exact h
    | false =>
      simp only [List.lookup_cons, hx] at h
      by_cases hc : (k == NameKind.free && env.scope.kind == .function && env.kindOf n == some .cell) = true
      · rw [if_pos hc]; simp only [List.lookup_cons, hx]; exact ih h
      · rw [if_neg hc]; simp only [List.lookup_cons, hx]; exact ih h
theorem blk_re {N : List Str} {sc scope : Scope} {own : List (Str × Nat)} {env : PySem.Env} (h : BlkOk N sc scope own) : BlkOk N (relabel sc env) scope own :=
  ⟨h.kind, h.uniq, h.ix, fun y hy e => lookup_relabel (h.free y hy e), h.own⟩
end DL
set_option maxRecDepth 100000
set_option maxHeartbeats 1000000
namespace DL
open PySem PySem.Spec PyProof.Rows L2
variable [HW]
end DL
set_option maxRecDepth 100000
set_option maxHeartbeats 1000000
namespace DL
open PySem PySem.Spec PyProof.Rows L2
variable [HW]
end DL
set_option maxRecDepth 100000
set_option maxHeartbeats 1000000
namespace DL
open PySem PySem.Spec PyProof.Rows L2
variable [HW]
section
variable {X : Cx} {M : Mm} {H : Hp}
theorem rf_look : ∀ {gs : List (Str × V)} {fs : List (Str × D)}, RF M H gs fs → ∀ {f : Str} {d : D}, fs.lookup f = some d → ∃ v, gs.lookup f = some v ∧ RD M H v d
  | _, _, .nil, f, d, e => by simp at e
  | (g, v) :: gs, (g', d') :: fs, .cons ⟨e1, r1⟩ t, f, d, e => by
    have e1 : g = g' := e1
    subst e1
    rw [List.lookup_cons] at e ⊢
    by_cases z : f = g
    · rw [beq_iff_eq.mpr z] at e ⊢
      cases e
      exact ⟨v, rfl, r1⟩
    · rw [beq_eq_false_iff_ne.mpr z] at e ⊢
      exact rf_look t e
theorem rf_len : ∀ {gs : List (Str × V)} {fs : List (Str × D)}, RF M H gs fs → gs.length = fs.length
  | _, _, .nil => rfl
  | _ :: gs, _ :: fs, .cons _ t => by rw [List.length_cons, List.length_cons, rf_len t]
def putE (f : Str) (d : D) : List (Str × D) → List (Str × D)
  | [] => [(f, d)]
  | (g, x) :: r => if g = f then (g, d) :: r else (g, x) :: putE f d r
theorem rf_put {f : Str} {v : V} {d : D} (rv : RD M H v d) : ∀ {gs : List (Str × V)} {fs : List (Str × D)}, RF M H gs fs → RF M H (putF f v gs) (putE f d fs)
  | _, _, .nil => .cons ⟨rfl, rv⟩ .nil
  | (g, x) :: gs, (g', x') :: fs, .cons ⟨e1, r1⟩ t => by
    have e1 : g = g' := e1
    subst e1
    unfold putF putE
    by_cases z : g = f
    · rw [if_pos z, if_pos z]; exact .cons ⟨rfl, rv⟩ t
    · rw [if_neg z, if_neg z]; exact .cons ⟨rfl, r1⟩ (rf_put rv t)
def insF (C : Addr) (w : W) (h : Hh) : Option (List (Str × D)) := match w with
  | .ins C' fs => if C' = C then some fs else none
  | .ref n => match h[n]? with
    | some (some (.ins C' fs)) => if C' = C then some fs else none
    | _ => none
  | _ => none
theorem insF_ok {C : Addr} {w : W} {h : Hh} {fs : List (Str × D)} {v : V} (rep : Rep M H h) (r : RV M H v w) (e : insF C w h = some fs) : ∃ a dx gs, v = .ref a ∧ H a = some (.ins C dx gs) ∧ RF M H gs fs := by
  unfold insF at e
  split at e
  · split at e
    · rename_i C' fs' z
      cases e
      subst z
      obtain ⟨a, dx, gs, e1, _, q, rf⟩ := r
      exact ⟨a, dx, gs, e1, q, rf⟩
    · cases e
  · rename_i n
    obtain ⟨a, ea, rfl⟩ := r
    obtain ⟨o, ho, ro⟩ := rep.at_ n a ea
    split at e
    · rename_i C' fs' hq
      rw [ho] at hq
      cases hq
      split at e
      · rename_i z
        cases e
        subst z
        obtain ⟨dx, gs, q, rf⟩ := ro
        exact ⟨a, dx, gs, rfl, q, rf⟩
      · cases e
    · cases e
  · cases e
def fFld (C : Addr) (f : Str) (g : EM) : EM := fun ρ h => obnd (g ρ h) fun w h1 => match insF C w h1 with
  | some fs => match fs.lookup f with
    | some d => some (.dat d, h1)
    | none => none
  | none => none
theorem d_fld {C : Addr} {e : Expr} {f : Str} {pos : Pos} {g : EM} (c : Cls X.K C) (na : NoAttr X.K C f) (he : DE X e g) (hb : attributeBase e f X.env (eval e X.env) = eval e X.env := by rfl) : DE X (.Attribute e f pos) (fFld C f g) := (pe_fld he hb).weak fun σ H Q => by
  rintro ⟨M, h, ρ, r, rs, c0⟩
  obtain ⟨w, h1, e1, c1⟩ := Cont.bind (δ := Unit) c0
  refine ⟨M, h, ρ, r, rs, w, h1, e1, fun M1 H1 v x1 r1 v1 => ?_⟩
  have c2 := c1 M1 H1 x1
  split at c2
  · rename_i fs ei
    obtain ⟨a, dx, gs, rfl, ha, rf⟩ := insF_ok r1 v1 ei
    split at c2
    · rename_i d el
      obtain ⟨y, hy, ry⟩ := rf_look rf el
      exact ⟨a, C, dx, gs, y, rfl, ha, c, na, hy, c2.here r1 ry⟩
    · exact c2.no.elim
  · exact c2.no.elim
def sSetF (C : Addr) (f : Str) (go gv : EM) : SM := fun ρ h => sbnd (gv ρ h) fun y h1 => sbnd (go ρ h1) fun x h2 => match x, y with
  | .ref n, .dat d => match h2[n]? with
    | some (some (.ins C' fs)) => if C' = C ∧ fs.length < 100 then some (.nx ρ, h2.set n (some (.ins C (putE f d fs)))) else none
    | _ => none
  | _, _ => none
theorem ds_setF {C : Addr} {o value : Expr} {f : Str} {pos pos' : Pos} {go gv : EM} (c : Cls X.K C) (na : NoAttr X.K C f) (ho : DE X o go) (hv : DE X value gv) (hs : swapsWith value (some (.Attribute o f pos')) pos.line X.env = pure false := by rfl) : DS X (.Assign [.Attribute o f pos'] value pos) (sSetF C f go gv) := (ps_fld ho hv hs).weak fun D σ H => by
  rintro ⟨M, h, ρ, r, rs, p⟩
  obtain ⟨y, h1, e1, p1⟩ := p.bind
  refine ⟨M, h, ρ, r, rs, y, h1, e1, fun M1 H1 v x1 r1 v1 => ?_⟩
  obtain ⟨x, h2, e2, p2⟩ := p1.bind
  refine ⟨M1, h1, ρ, r1, rs.mono x1, x, h2, e2, fun M2 H2 v2 x2 r2 v2' => ?_⟩
  split at p2
  · rename_i n d
    obtain ⟨a, ea, rfl⟩ := v2'
    obtain ⟨ob, hob, ro⟩ := r2.at_ n a ea
    split at p2
    · rename_i C' fs hq
      rw [hob] at hq
      cases hq
      split at p2
      · rename_i z
        obtain ⟨z1, z2⟩ := z
        subst z1
        obtain ⟨dx, gs, q, rf⟩ := ro
        have rv : RD M2 H2 v d := RD.mono x2.ext v1
        refine ⟨a, C', dx, gs, rfl, q, c, na, by rw [rf_len rf]; omega, ?_⟩
        have xs := ext_set (H := H2) (o := .ins C' dx (putF f v gs)) ea
        have rp := r2.set (m := .ins C' (putE f d fs)) ea ⟨dx, putF f v gs, upd_same, (rf_put rv rf).to fun _ _ => RD.mono xs.ext⟩
        exact p2 M2 _ σ (x1.trans (x2.trans xs)).same (x1.trans (x2.trans xs)).ext rp (((rs.mono x1).mono x2).mono xs)
      · exact p2.elim
    · exact p2.elim
  · exact p2.elim
def fMeth (C : Addr) (m : Str) (mm : FM) (go : EM) (ga : AM) : EM := fun ρ h => obnd (go ρ h) fun w h1 => match insF C w h1 with
  | some fs => match fs.lookup m with
    | some _ => none
    | none => obnd (ga ρ h1) fun ws h2 => mm (w :: ws) h2
  | none => none
def fMk (C : Addr) (mi : FM) (ga : AM) : EM := fun ρ h => obnd (ga ρ h) fun ws h1 => match mi (.ref h1.length :: ws) (h1 ++ [some (.ins C [])]) with
  | some (.dat .none, h2) => match h2[h1.length]? with
    | some (some (.ins C' fs)) => if C' = C then some (.ins C fs, h2.set h1.length none) else none
    | _ => none
  | _ => none
end
end DL
set_option maxRecDepth 100000
set_option maxHeartbeats 1000000
namespace DL
open PySem PySem.Spec PyProof.Rows L2
variable [HW]
section
variable {X : Cx}
def tDcT (wi : TI) (g : TG) (tt : TT) (tk tv : TE) (vs : List Nat) : TE := fun σ H Q => wi σ H fun J H1 => ∀ D, H1 D = none → ∃ W : Nat → Nat → Hp → Prop, (∃ m, W 0 m (upd H1 D (dtO D []))) ∧ ∀ i m H, W i m H →
  (J.stop i H ∧ ∃ acc, H D = some (dtO D acc) ∧ ∀ o, Q (.ref D) (upd H D (.frz o (dtO D acc)))) ∨ (J.go i H ∧ ∃ Nx : Hp → Prop, (∀ H', Nx H' → ∃ m', m' < m ∧ W (i + 1) m' H') ∧ ∀ x H', J.yld i H x H' → g x (wipe σ vs) H' fun σ2 H2 => wipe σ2 vs = wipe σ vs ∧ tt σ2 H2 fun b H3 =>
    if b = true then tk σ2 H3 fun y H4 => tv σ2 H4 fun z H5 => ∃ kvs k kb, y = .ref kb ∧ Rd H5 kb (.tup (k.map kV)) ∧ H5 D = some (dtO D kvs) ∧ KX H5 kvs ∧ kvs.length < sizeLine ∧ Nx (upd H5 D (dtO D (putA kvs k kb z))) else Nx H3)
theorem dcT_core (Wx : HWX X) {pins : List (Addr × Obj)} {s : Shared} {σ : L2.St} {H : Hp} {Q : VK} {kx vx tg iter : Expr} {ifs : List Expr} {scope : Scope} {own : List (Str × Nat)} {pos pos' : Pos} {wi : TI} {g : TG} {tt : TT} {tk tv : TE} {use : Option (Value → Sem Unit)} {Qf : Value → Shared → Prop}
    (hu : X.A.units + 1 < cLine) (hc : X.calm = true) (hN : X.N.Nodup) (I : Inv X pins σ H s) (hi : PI X tg iter wi) (ok : BlkOk X.N X.env.scope scope own)
    (hg : ∀ (s : Shared) (H : Hp) (C : Addr) (cl : List (Str × Addr)) (fp : List Addr), PG (X.blk s H scope (compEnvC scope cl C X.env) fp) tg g) (ht : ∀ (s : Shared) (H : Hp) (C : Addr) (cl : List (Str × Addr)) (fp : List Addr), PTs (X.blk s H scope (compEnvC scope cl C X.env) fp) ifs tt)
    (hk : ∀ (s : Shared) (H : Hp) (C : Addr) (cl : List (Str × Addr)) (fp : List Addr), PE (X.blk s H scope (compEnvC scope cl C X.env) fp) kx tk)
    (he : ∀ (s : Shared) (H : Hp) (C : Addr) (cl : List (Str × Addr)) (fp : List Addr), PE (X.blk s H scope (compEnvC scope cl C X.env) fp) vx tv) (hs : ∀ x, foldedSetIterable iter X.env x = pure x)
    (h : tDcT wi g tt tk tv (own.map (·.2)) σ H Q)
    (hRR : ∀ D C s' m H', Inv X pins σ H' s' → Q (.ref D) H' → s'.heap.Ns C m → FpOk X pins H' C → compPost (model X.prog X.w) X.A X.xe use Qf (.ref D) C (.ok .next) s') :
    wpAny (model X.prog X.w) X.A (comprehension (.DictComp kx vx [⟨tg, iter, ifs, 0⟩] scope pos) scope X.env pos' newDict false (eval iter X.env) use) Qf X.xe s := by
  have hfree : ∀ y ∈ scope.names, y.2 = .free → ∃ c, X.env.cells.lookup y.1 = some c := fun y hy e => by
    rcases ok.free y hy e with k | k
    · exact I.ok.has _ (.inl k)
    · exact I.ok.has _ (.inr k)
  refine wpAny_comprehension_free (use := use) rfl hs (closure_ok hfree) ok.kind (fun y hy e => by rw [ok.uniq y hy, e])
    (thn (hi.run pins s σ H _ I h) fun xv s1 hx => thn hx fun itv s2 h2 => ?_)
  obtain ⟨it, fp, tn, J, H2, e, I2, T, st2, f2, q⟩ := h2
  subst e
  refine wpAny_newObj_type (newEnv_comp ?_)
  generalize hD : s2.heap.objs.size = D
  have hDn : H2 D = none := I2.hok.fresh (Nat.le_of_eq hD)
  obtain ⟨W, ⟨m0, w0⟩, turn⟩ := q D hDn
  -- the new list
  generalize hs3 : ({ s2 with heap := s2.heap.push { cls := .type "dict", data := .dict #[] } } : Shared) = s3
  have I3 : Inv X pins σ (upd H2 D (dtO D [])) s3 := by
    rw [← hs3]
    refine I2.laid (t' := s2.toks) (fun b o e => Heap.get?_push_of_some _ e) (Nat.le_of_eq hD) ?_
    rw [← hD]
    have ee := dtx_empty (P := X.prog) (w := X.w) s2.heap I2.big
    rw [← Wx.1, ← Wx.2] at ee
    exact dtx_ok' Wx ee
  have h3 : s3.heap = s2.heap.push { cls := .type "dict", data := .dict #[] } := by rw [← hs3]
  have sz : ∀ b ∈ fp, b < s2.heap.objs.size := fun b hb => by
    obtain ⟨o, e, _⟩ := T.obj _ _ st2 b hb
    exact Heap.lt_size e
  have f3 : ∀ b ∈ fp, FpOk X pins (upd H2 D (dtO D [])) b ∧ b < s3.heap.objs.size := fun b hb => by
    have hlt := sz b hb
    refine ⟨⟨?_, (f2 b hb).2⟩, by rw [h3, Heap.size_push]; exact Nat.lt_succ_of_lt hlt⟩
    rw [upd_ne (by rw [← hD]; exact Nat.ne_of_lt hlt)]
    exact (f2 b hb).1
  have st3 : tn 0 s3.heap := T.keep _ _ _ st2 fun b _ o e => by rw [h3]; exact Heap.get?_push_of_some _ e
  have I4 := block_start I3 ok hN f3
  have pg := hg s3 (upd H2 D (dtO D [])) s3.heap.objs.size (cellsFrom (s3.heap.objs.size + 1) scope.names (cloFrom X.env.cells scope.names [])) fp
  have pt := ht s3 (upd H2 D (dtO D [])) s3.heap.objs.size (cellsFrom (s3.heap.objs.size + 1) scope.names (cloFrom X.env.cells scope.names [])) fp
  have pk := hk s3 (upd H2 D (dtO D [])) s3.heap.objs.size (cellsFrom (s3.heap.objs.size + 1) scope.names (cloFrom X.env.cells scope.names [])) fp
  have pe := he s3 (upd H2 D (dtO D [])) s3.heap.objs.size (cellsFrom (s3.heap.objs.size + 1) scope.names (cloFrom X.env.cells scope.names [])) fp
  show codeAny _ _ (.compStart (.DictComp kx vx [⟨tg, iter, ifs, 0⟩] scope pos) 0 (.ref it) (.ref D) (compEnvC scope (cellsFrom (s3.heap.objs.size + 1) scope.names (cloFrom X.env.cells scope.names [])) s3.heap.objs.size X.env)) (compPost (model X.prog X.w) X.A X.xe use Qf (.ref D) s3.heap.objs.size) { s3 with heap := pushCells (s3.heap.push { cls := .type "dict", data := .dict #[] }) scope.names }
  have nfp : ∀ b ∈ fp, (upd H2 D (dtO D [])) b = none := fun b hb => (f3 b hb).1.1
  generalize hce : compEnvC scope (cellsFrom (s3.heap.objs.size + 1) scope.names (cloFrom X.env.cells scope.names [])) s3.heap.objs.size X.env = ce at I4 pg pt pk pe ⊢
  have cL : ce.locals = s3.heap.objs.size := by subst hce; rfl
  generalize hH3 : upd H2 D (dtO D []) = H3 at I3 I4 pg pt pk pe w0 nfp f3
  generalize hs4 : ({ s3 with heap := pushCells (s3.heap.push { cls := .type "dict", data := .dict #[] }) scope.names } : Shared) = s4 at I4 ⊢
  have st4 : tn 0 s4.heap := T.keep _ _ _ st3 fun b _ o e => by rw [← hs4]; exact pushCells_keeps _ _ _ _ (Heap.get?_push_of_some _ e)
  have stat : ∀ {σ' : L2.St} {H' : Hp} {s' : Shared}, Inv (X.blk s3 H3 scope ce fp) [] σ' H' s' → (∀ b ∈ fp, H' b = none) → ∀ b ∈ fp, FpOk (X.blk s3 H3 scope ce fp) [] H' b := fun {σ' H' s'} I' hn b hb =>
    ⟨hn b hb, (I'.ok.exf b hb).1, I'.ok.exfs b hb, .inl hb, fun x c e => (I'.ok.exf b hb).2 x c e, fun p hp => absurd (show p ∈ ([] : List (Addr × Obj)) ++ [] from hp) (by simp)⟩
  have loop : codeAny (model X.prog X.w) X.A (.compLoop (.DictComp kx vx [⟨tg, iter, ifs, 0⟩] scope pos) 0 (.ref it) (.ref D) ce) (compPost (model X.prog X.w) X.A X.xe use Qf (.ref D) s3.heap.objs.size) s4 := by
    refine compLoop_anyD (fun n s' => ∃ i H', Inv (X.blk s3 H3 scope ce fp) [] (wipe σ (own.map (·.2))) H' s' ∧ tn i s'.heap ∧ (∀ b ∈ fp, H' b = none) ∧ W i n H') ?_ m0 ⟨0, H3, I4, st4, nfp, w0⟩
    rintro n s5 ⟨i, H5, I5, st5, n5, w5⟩
    rcases turn i n H5 w5 with ⟨stop, qq⟩ | ⟨go, Nx, hNx, step⟩
    · have td := T.done (X.blk s3 H3 scope ce fp) rfl rfl rfl hc i [] s5 _ H5 (fun _ _ => False) I5 (stat I5 n5) st5 stop
      refine thnF td fun r s6 ⟨hr, I6⟩ => ?_
      subst hr
      -- back in the def's context
      have I7 : Inv X pins σ H5 s6 := I3.call' (ch := fp) I6.os I6.base I6.hok I6.bare fun b hb => ⟨(f3 b hb).1.2.2.2.1, (f3 b hb).1.2.1, (f3 b hb).1.2.2.2.2.1, (f3 b hb).1.2.2.2.2.2⟩
      have nC : H5 s3.heap.objs.size = none := by
        have z : H5 ce.locals = none := I6.free
        rw [cL] at z
        exact z
      obtain ⟨m, hn, _⟩ := I6.loc
      have hn : s6.heap.Ns ce.locals m := hn
      rw [cL] at hn
      obtain ⟨acc, hacc, qq⟩ := qq
      obtain ⟨od, I8⟩ := I7.lock hacc True.intro
      have neD : s3.heap.objs.size ≠ D := fun z => by rw [z, hacc] at nC; cases nC
      exact hRR D s3.heap.objs.size s6 m _ I8 (qq od) hn (I3.fpOk (Nat.le_refl _) (by rw [upd_ne neD]; exact nC))
    · have ti := T.item (X.blk s3 H3 scope ce fp) rfl rfl rfl hc i [] s5 _ H5 (fun _ _ => False) I5 (stat I5 n5) st5 go
      refine thnF ti fun r s6 ⟨u, hr, h6⟩ => ?_
      subst hr
      refine thnF h6 fun _ s7 ⟨x, H7, I7, r7, y7, st7, n7⟩ => ?_
      have I7' := I7.pinned (stat I7 n7) (T.obj _ _ st7)
      refine thnF (pg.run _ s7 _ H7 x u _ I7' r7 (step x H7 y7)) fun _ s8 ⟨σ8, H8, I8, hw8, q8⟩ => ?_
      refine thnF (pt.run _ s8 σ8 H8 _ I8 q8) fun b s9 ⟨H9, I9, q9⟩ => ?_
      -- the turn's end
      have fin : ∀ {s' : Shared} {H' : Hp}, Inv (X.blk s3 H3 scope ce fp) ([] ++ pinsAt fp s7.heap) σ8 H' s' → Nx H' → ∃ m, m < n ∧ ∃ i H', Inv (X.blk s3 H3 scope ce fp) [] (wipe σ (own.map (·.2))) H' s' ∧ tn i s'.heap ∧ (∀ b ∈ fp, H' b = none) ∧ W i m H' := fun {s' H'} I' nx => by
        obtain ⟨m', hm, w'⟩ := hNx H' nx
        have pin' : ∀ b ∈ fp, ∀ o, s7.heap.get? b = some o → s'.heap.get? b = some o ∧ H' b = none := fun b hb o e =>
          let z := I'.pin (b, o) (List.mem_append_right _ (List.mem_append_right _ (mem_pinsAt hb e)))
          ⟨z.1, z.2.1⟩
        have hl : (wipe σ (own.map (·.2))).length = σ8.length := by rw [← hw8, wipe_length]
        refine ⟨m', hm, i + 1, H', (I'.unpinned (pins := [])).weak hl (fun j v e => ?_), T.keep _ _ _ st7 fun b hb o e => (pin' b hb o e).1, fun b hb => ?_, w'⟩
        · rw [← hw8] at e
          exact (wipe_some e).1
        · obtain ⟨o, e, _⟩ := T.obj _ _ st7 b hb
          exact (pin' b hb o e).2
      cases b with
      | false =>
        simp only [Bool.false_eq_true, if_false] at q9 ⊢
        exact fin I9 q9
      | true =>
        simp only [if_true] at q9 ⊢
        refine thnF (pk.run _ s9 σ8 H9 _ I9 q9) fun z s10 ⟨yk, H10, I10, r10, q10⟩ => ?_
        refine thnF (pe.run _ s10 σ8 H10 _ I10 q10) fun z2 s11 ⟨yv, H11, I11, r11, kvs, k, kb, ek, hkb, hD11, hx11, hz11, nx⟩ => ?_
        subst ek
        cases r10
        exact dtx_dictSet (X := X.blk s3 H3 scope ce fp) hu Wx I11 hD11 hx11 hkb hz11 r11 fun s12 I12 => fin I12 nx
  exact codeAny_compStart_dict loop (T.self X.A 0 _ _ _ st4 loop)
theorem pe_dcT (Wx : HWX X) {kx vx tg iter : Expr} {ifs : List Expr} {scope : Scope} {own : List (Str × Nat)} {pos : Pos} {wi : TI} {g : TG} {tt : TT} {tk tv : TE} (hu : X.A.units + 1 < cLine) (hc : X.calm = true) (hN : X.N.Nodup) (hi : PI X tg iter wi) (ok : BlkOk X.N X.env.scope scope own)
    (hg : ∀ (s : Shared) (H : Hp) (C : Addr) (cl : List (Str × Addr)) (fp : List Addr), PG (X.blk s H scope (compEnvC scope cl C X.env) fp) tg g) (ht : ∀ (s : Shared) (H : Hp) (C : Addr) (cl : List (Str × Addr)) (fp : List Addr), PTs (X.blk s H scope (compEnvC scope cl C X.env) fp) ifs tt)
    (hk : ∀ (s : Shared) (H : Hp) (C : Addr) (cl : List (Str × Addr)) (fp : List Addr), PE (X.blk s H scope (compEnvC scope cl C X.env) fp) kx tk)
    (he : ∀ (s : Shared) (H : Hp) (C : Addr) (cl : List (Str × Addr)) (fp : List Addr), PE (X.blk s H scope (compEnvC scope cl C X.env) fp) vx tv) (hs : ∀ x, foldedSetIterable iter X.env x = pure x := by intro _; rfl) :
    PE X (.DictComp kx vx [⟨tg, iter, ifs, 0⟩] scope pos) (tDcT wi g tt tk tv (own.map (·.2))) := by
  refine ⟨fun pins s σ H Q I h => ?_⟩
  rw [arm_eval_DictComp]
  refine dcT_core Wx hu hc hN I hi ok hg ht hk he hs h fun D C s' m H' I' q hn f => ⟨m, hn, fun h'' sb => ?_⟩
  obtain ⟨f0, f1, f2, f3, f4, f5⟩ := f
  exact ⟨.ref D, H', I'.turned (t' := s'.toks) (fun b o hb e => (sb.2 b hb).trans e) f0 f1 f3 f4 f5, rfl, q⟩
end
def putT (es : List (D × D)) (k : List Key) (v : D) : List (D × D) := if (getT es k).isSome = true then es.map (fun e => if tKey e.1 = some k then (e.1, v) else e) else es ++ [(.tuple (k.map kP), v)]
section
variable {M : Mm} {H : Hp}
theorem rdt_len : ∀ {kvs : List KA} {es : List (D × D)}, RDt M H kvs es → kvs.length = es.length
  | _, _, .nil => rfl
  | _, _, .cons _ _ _ t => by rw [List.length_cons, List.length_cons, rdt_len t]
theorem rdt_snoc {k : List Key} {q : Addr} {v : V} {d : D} (n : ¬ M.Has q) (e : TupAt H q (k.map kV) (k.map kP)) (r : RD M H v d) : ∀ {kvs : List KA} {es : List (D × D)}, RDt M H kvs es → RDt M H (kvs ++ [(k, q, v)]) (es ++ [(.tuple (k.map kP), d)])
  | _, _, .nil => .cons n e r .nil
  | _, _, .cons n' e' a t => .cons n' e' a (rdt_snoc n e r t)
theorem rdt_repl {k : List Key} {v : V} {d : D} (q : RD M H v d) : ∀ {kvs : List KA} {es : List (D × D)}, RDt M H kvs es → RDt M H (kvs.map (replA k v)) (es.map fun e => if tKey e.1 = some k then (e.1, d) else e)
  | _, _, .nil => .nil
  | _, _, .cons (k := j) n e' a t => by
    simp only [List.map_cons, tKey, dKeys_kP, Option.some.injEq, replA]
    by_cases e : j = k
    · rw [if_pos e, if_pos e]; exact .cons n e' q (rdt_repl q t)
    · rw [if_neg e, if_neg e]; exact .cons n e' a (rdt_repl q t)
theorem rdt_put {kvs : List KA} {es : List (D × D)} (r : RDt M H kvs es) (k : List Key) {b : Addr} (n : ¬ M.Has b) (e : TupAt H b (k.map kV) (k.map kP)) {v : V} {d : D} (q : RD M H v d) : RDt M H (putA kvs k b v) (putT es k d) := by
  unfold putA putT
  rw [← valA_some, (r.val k).some_iff]
  split
  · exact rdt_repl q r
  · exact rdt_snoc n e q r
end
def dcTL (k : TM) (t : BM) (fk fv : EM) (ρ : Env) : List D → List (D × D) → Hh → Option (List (D × D) × Hh)
  | [], es, h => some (es, h)
  | d :: ds, es, h => match k (.dat d) ρ h with
    | some ρ1 => obnd (t ρ1 h) fun b h2 => if b = true then obnd (fk ρ1 h2) fun w h3 => obnd (fv ρ1 h3) fun v h4 => match w, v with
        | .dat (.tuple ks), .dat d' => match dKeys ks with
          | some key => if es.length < sizeLine ∧ pairD ks = false then dcTL k t fk fv ρ ds (putT es key d') h4 else none
          | none => none
        | _, _ => none
      else dcTL k t fk fv ρ ds es h2
    | none => none
def fDcT (gi : IM) (k : TM) (t : BM) (fk fv : EM) (vs : List Nat) : EM := fun ρ h => obnd (gi ρ h) fun ds h1 => obnd (dcTL k t fk fv (wipeE ρ vs) ds [] h1) fun es h2 => some (.dat (.dict ((.none, .none) :: es)), h2)
theorem dcT_imp {gi : IM} {k : TM} {t : BM} {fk fv : EM} {ts vs : List Nat} (hs : ∀ j ∈ ts, j ∈ vs) : ∀ σ H Q, tE (fDcT gi k t fk fv vs) σ H Q → tDcT (tI gi) (tGd ts k) (tT t) (tE fk) (tE fv) vs σ H Q := fun σ H Q => by
  rintro ⟨M, h, ρ, r, rs, c⟩
  obtain ⟨ds, h1, e1, c1⟩ := Cont.bind (δ := Unit) c
  refine ⟨M, h, ρ, ds, h1, r, rs, e1, fun M1 H1 J x1 r1 it D nD => ?_⟩
  obtain ⟨out, h2, e2, c2⟩ := Cont.bind (δ := Unit) (c1 M1 H1 x1)
  have x0 := ext_made (M := M1) (o := dtO D []) nD
  have r0 := r1.make (o := dtO D []) nD
  have rs0 : RS (M1.made D) (upd H1 D (dtO D [])) (wipeE ρ vs) (L2.wipe σ vs) := ((rs.mono x1).moveu x0 rfl).wipe vs
  let P : Nat → Hp → Prop := fun i Hi => ∃ mi hi acc dacc, ExtE M1 ⟨M1.u, mi⟩ H1 Hi ∧ Rep ⟨D :: M1.u, mi⟩ Hi hi ∧ RS ⟨D :: M1.u, mi⟩ Hi (wipeE ρ vs) (L2.wipe σ vs) ∧ Hi D = some (dtO D acc) ∧ RDt ⟨D :: M1.u, mi⟩ Hi acc dacc ∧ dcTL k t fk fv (wipeE ρ vs) (ds.drop i) dacc hi = some (out, h2)
  refine ⟨fun i n Hi => n + i = ds.length ∧ P i Hi, ⟨ds.length, by omega, M1.m, h1, [], [], (ExtE.refl M1 H1).beside nD, r0, rs0, upd_same, .nil, by rw [List.drop_zero]; exact e2⟩, fun i n Hi w => ?_⟩
  obtain ⟨hn, mi, hi, acc, dacc, xi, ri, rsi, hD, qa, el⟩ := w
  have inD : D ∈ (⟨D :: M1.u, mi⟩ : Mm).u := List.mem_cons_self
  obtain ⟨ity, its⟩ := it _ Hi (xi.into nD) fun a ha => ri.tracked ha
  by_cases hlt : i < ds.length
  · refine .inr ?_
    have ed : ds[i]? = some ds[i] := List.getElem?_eq_getElem hlt
    obtain ⟨go, yl⟩ := ity i _ ed
    rw [List.drop_eq_getElem_cons hlt] at el
    refine ⟨go, P (i + 1), fun H' p => ⟨n - 1, by omega, by omega, p⟩, fun x H2 hy => ?_⟩
    obtain ⟨sm, rx⟩ := yl x H2 hy
    obtain ⟨ri2, xi2⟩ := ri.grow sm
    unfold dcTL at el
    split at el
    · rename_i ρ1 ek
      refine ⟨_, hi, wipeE ρ vs, .dat ds[i], ρ1, ri2, rsi.mono xi2, rx, ek, fun σ2 rs2 l2 o2 => ⟨wipe_of (by rw [l2, L2.wipe_length]) o2 hs, ?_⟩⟩
      cases et : t ρ1 hi with
      | none => rw [et] at el; cases el
      | some pr =>
        obtain ⟨b, h3⟩ := pr
        rw [et] at el
        simp only [obnd_some] at el
        refine ⟨_, hi, ρ1, ri2, rs2, b, h3, et, fun M3 H3 b' x3 r3 eb => ?_⟩
        subst eb
        obtain ⟨u3, m3⟩ := M3
        obtain rfl : u3 = D :: M1.u := x3.same
        have xi3 : ExtE M1 ⟨M1.u, m3⟩ H1 H3 := xi.trans ((xi2.trans x3).reu M1.u)
        have hD3 : H3 D = some (dtO D acc) := x3.stab _ _ (sm _ _ hD) fun z => (ri.us D inD).1 z
        cases b' with
        | false =>
          simp only [Bool.false_eq_true, if_false] at el
          exact iteF ⟨m3, h3, acc, dacc, xi3, r3, (rsi.mono xi2).mono x3, hD3, (qa.mono xi2.ext).mono x3.ext, el⟩
        | true =>
          simp only [if_true] at el
          refine iteT ?_
          cases ef : fk ρ1 h3 with
          | none => rw [ef] at el; cases el
          | some pr =>
            obtain ⟨w, h4⟩ := pr
            rw [ef] at el
            simp only [obnd_some] at el
            refine ⟨_, h3, ρ1, r3, rs2.mono x3, w, h4, ef, fun M4 H4 y x4 r4 ry => ?_⟩
            obtain ⟨u4, m4⟩ := M4
            obtain rfl : u4 = D :: M1.u := x4.same
            have hD4 : H4 D = some (dtO D acc) := x4.stab _ _ hD3 fun z => (r3.us D List.mem_cons_self).1 z
            cases eg : fv ρ1 h4 with
            | none => rw [eg] at el; cases el
            | some pr =>
              obtain ⟨w', h5⟩ := pr
              rw [eg] at el
              simp only [obnd_some] at el
              refine ⟨_, h4, ρ1, r4, (rs2.mono x3).mono x4, w', h5, eg, fun M5 H5 z x5 r5 rz => ?_⟩
              obtain ⟨u5, m5⟩ := M5
              obtain rfl : u5 = D :: M1.u := x5.same
              have hD5 : H5 D = some (dtO D acc) := x5.stab _ _ hD4 fun z => (r4.us D List.mem_cons_self).1 z
              split at el
              · rename_i ks d'
                split at el
                · rename_i key ekey
                  split at el
                  · rename_i hz
                    obtain ⟨hz1, hz2⟩ := hz
                    have := kP_dKeys ekey
                    subst this
                    have ry' : RD ⟨D :: M1.u, m5⟩ H5 y (.tuple (key.map kP)) := (show RD _ _ y _ from ry).mono x5.ext
                    have q5 := (((qa.mono xi2.ext).mono x3.ext).mono x4.ext).mono x5.ext
                    have in5 : D ∈ (⟨D :: M1.u, m5⟩ : Mm).u := List.mem_cons_self
                    cases ry' with
                    | tup nb hb rb =>
                      rename_i kb xs
                      rw [rds_kP rb] at hb
                      exact ⟨acc, key, kb, rfl, hb.rd, hD5, q5.kx, by rw [rdt_len qa]; exact hz1, m5, h5, _, putT dacc key d', ((xi3.trans (x4.reu M1.u)).trans (x5.reu M1.u)).beside nD, r5.off in5, ((((rsi.mono xi2).mono x3).mono x4).mono x5).off in5, upd_same, (rdt_put q5 key nb hb rz).off in5, el⟩
                  · cases el
                · cases el
              · cases el
    · cases el
  · refine .inl ?_
    have hi' : i = ds.length := by omega
    subst hi'
    rw [List.drop_length] at el
    cases el
    refine ⟨its, ?_⟩
    have c3 := c2 M1 H1 (.refl _ _)
    have nu : D ∉ M1.u := fun z => r1.new nD (.inl z)
    have nm : some D ∉ mi := (ri.us D inD).1
    refine ⟨acc, hD, fun o => ?_⟩
    exact c3.fin (xi.beside nD) (ri.off inD).told (RD.dit (o := o) (fun z => z.elim nu nm) upd_same ((qa.off inD).sub less_has))
section
variable {X : Cx}
theorem d_dcT {k : Nat} (hr : Room k X.A) {kx vx tg iter : Expr} {ifs : List Expr} {scope : Scope} {own : List (Str × Nat)} {pos : Pos} {gi : IM} {ts : List Nat} {k : TM} {t : BM} {fk fv : EM} (hc : X.calm = true) (hN : X.N.Nodup) (hi : DI X tg iter gi) (ok : BlkOk X.N X.env.scope scope own)
    (hg : ∀ (s : Shared) (H : Hp) (C : Addr) (cl : List (Str × Addr)) (fp : List Addr), DG (X.blk s H scope (compEnvC scope cl C X.env) fp) tg ts k) (ht : ∀ (s : Shared) (H : Hp) (C : Addr) (cl : List (Str × Addr)) (fp : List Addr), DTs (X.blk s H scope (compEnvC scope cl C X.env) fp) ifs t)
    (hk : ∀ (s : Shared) (H : Hp) (C : Addr) (cl : List (Str × Addr)) (fp : List Addr), DE (X.blk s H scope (compEnvC scope cl C X.env) fp) kx fk) (he : ∀ (s : Shared) (H : Hp) (C : Addr) (cl : List (Str × Addr)) (fp : List Addr), DE (X.blk s H scope (compEnvC scope cl C X.env) fp) vx fv)
    (hsub : ∀ j ∈ ts, j ∈ own.map (·.2)) (hs : ∀ x, foldedSetIterable iter X.env x = pure x := by intro _; rfl) (Wx : HWX X := by exact ⟨rfl, rfl⟩) :
    DE X (.DictComp kx vx [⟨tg, iter, ifs, 0⟩] scope pos) (fDcT gi k t fk fv (own.map (·.2))) := (pe_dcT Wx (by have := hr.units; omega) hc hN hi ok hg ht hk he hs).weak (dcT_imp hsub)
end
end DL
set_option maxRecDepth 100000
set_option maxHeartbeats 1000000
namespace DL
open PySem PySem.Spec PyProof.Rows L2
variable [HW]
def datL : Option (Option W) → Option (List D)
  | some (some (.dat (.list ds))) => some ds
  | some (some (.dat (.tuple ds))) => some ds
  | _ => none
def lc2L (k : TM) (t : BM) (i1 : Nat) (k1 : TM) (t1 : BM) (f : EM) (vs1 : List Nat) (ρ : Env) : List D → Hh → Option (List D × Hh)
  | [], h => some ([], h)
  | d :: ds, h => match k (.dat d) ρ h with
    | some ρ1 => obnd (t ρ1 h) fun b h2 => if b = true then match datL ρ1[i1]? with
        | some ds1 => obnd (lcL k1 t1 f (wipeE ρ1 vs1) ds1 h2) fun r1 h3 => obnd (lc2L k t i1 k1 t1 f vs1 ρ ds h3) fun r h4 => some (r1 ++ r, h4)
        | none => none
      else lc2L k t i1 k1 t1 f vs1 ρ ds h2
    | none => none
def fLc2 (m : Bool) (gi : IM) (k : TM) (t : BM) (i1 : Nat) (k1 : TM) (t1 : BM) (f : EM) (vs vs1 : List Nat) : EM := fun ρ h => obnd (gi ρ h) fun ds h1 => obnd (lc2L k t i1 k1 t1 f vs1 (wipeE ρ vs) ds h1) fun r h2 => if r.length ≤ sizeLine then mkL m r h2 else none
def iV (K : PySem.W.Frag) (i : Nat) : TI := fun σ H R => iList K (tVar i) σ H R ∨ iTup K (tVar i) σ H R
theorem datL_it {K : PySem.W.Frag} {M : Mm} {H : Hp} {ρ : Env} {σ : L2.St} {i : Nat} {ds : List D} (rs : RS M H ρ σ) (e : datL ρ[i]? = some ds) : ∃ (a : Addr) (J : It), σ[i]? = some (some (.ref a)) ∧ (∀ R : It → Hp → Prop, R J H → iV K i σ H R) ∧
    ∀ (M1 : Mm) (H1 : Hp) (ρ1 : Env) (σ1 : L2.St), RS M1 H1 ρ1 σ1 → ρ1[i]? = ρ[i]? → σ1[i]? = σ[i]? → ItD M1 H1 J ds := by
  unfold datL at e
  split at e
  · rename_i ds' q
    cases e
    obtain ⟨v, ev, rv⟩ := rs.2 i _ q
    cases (show RD M H v _ from rv) with
    | lst n ha qa =>
      rename_i a xs
      refine ⟨a, Itl K a, ev, fun R r => .inl ⟨_, ev, a, rfl, ⟨_, .of ha⟩, r⟩, fun M1 H1 ρ1 σ1 rs1 e1 e2 => ?_⟩
      obtain ⟨v, ev1, rv1⟩ := rs1.2 i _ (e1.trans q)
      rw [e2, ev] at ev1
      cases ev1
      cases (show RD M1 H1 (.ref a) (.list ds) from rv1) with
      | lst n1 ha1 qa1 => exact itd_list n1 ha1 qa1
  · rename_i ds' q
    cases e
    obtain ⟨v, ev, rv⟩ := rs.2 i _ q
    cases (show RD M H v _ from rv) with
    | tup n ha qa =>
      rename_i a xs
      refine ⟨a, Itt K a, ev, fun R r => .inr ⟨_, ev, a, rfl, ⟨_, ha.sq⟩, r⟩, fun M1 H1 ρ1 σ1 rs1 e1 e2 => ?_⟩
      obtain ⟨v, ev1, rv1⟩ := rs1.2 i _ (e1.trans q)
      rw [e2, ev] at ev1
      cases ev1
      cases (show RD M1 H1 (.ref a) (.tuple ds) from rv1) with
      | tup n1 ha1 qa1 => exact itd_tup n1 ha1 qa1
  · cases e
theorem wipeE_out {ρ : Env} {i : Nat} : ∀ {vs : List Nat}, i ∉ vs → (wipeE ρ vs)[i]? = ρ[i]?
  | [], _ => rfl
  | v :: vs, h => by
    have h1 : v ≠ i := fun e => h (by rw [e]; exact List.mem_cons_self)
    have h2 : i ∉ vs := fun m => h (List.mem_cons_of_mem _ m)
    unfold wipeE
    rw [List.getElem?_set_ne h1]
    exact wipeE_out h2
theorem lc2_imp {K : PySem.W.Frag} {gi : IM} {k : TM} {t : BM} {i1 : Nat} {k1 : TM} {t1 : BM} {f : EM} {ts ts1 vs vs1 : List Nat} {m : Bool} (hs : ∀ j ∈ ts, j ∈ vs) (hs1 : ∀ j ∈ ts1, j ∈ vs1) (hi1 : i1 ∉ vs1) :
    ∀ σ H Q, tE (fLc2 m gi k t i1 k1 t1 f vs vs1) σ H Q → tLc2 (tI gi) (tGd ts k) (tT t) (iV K i1) (tGd ts1 k1) (tT t1) (tE f) vs vs1 σ H Q := fun σ H Q => by
  rintro ⟨M, h, ρ, r, rs, c⟩
  obtain ⟨ds, h1, e1, c1⟩ := Cont.bind (δ := Unit) c
  refine ⟨M, h, ρ, ds, h1, r, rs, e1, fun M1 H1 J x1 r1 it D nD => ?_⟩
  obtain ⟨out, h2, e2, c2⟩ := Cont.bind (δ := Unit) (c1 M1 H1 x1)
  have x0 := ext_made (M := M1) (o := .lst []) nD
  have r0 := r1.make (o := .lst []) nD
  have rs0 : RS (M1.made D) (upd H1 D (.lst [])) (wipeE ρ vs) (L2.wipe σ vs) := ((rs.mono x1).moveu x0 rfl).wipe vs
  let P : Nat → Hp → Prop := fun i Hi => ∃ mi hi acc dacc rest, ExtE M1 ⟨M1.u, mi⟩ H1 Hi ∧ Rep ⟨D :: M1.u, mi⟩ Hi hi ∧ RS ⟨D :: M1.u, mi⟩ Hi (wipeE ρ vs) (L2.wipe σ vs) ∧ Hi D = some (.lst acc) ∧ RDs ⟨D :: M1.u, mi⟩ Hi acc dacc ∧ lc2L k t i1 k1 t1 f vs1 (wipeE ρ vs) (ds.drop i) hi = some (rest, h2) ∧ dacc ++ rest = out
  have outlen : out.length ≤ sizeLine := by
    have c3 := c2 M1 H1 (.refl _ _)
    by_cases hz : out.length ≤ sizeLine
    · exact hz
    · rw [if_neg hz] at c3; exact c3.no.elim
  refine ⟨fun i n Hi => n + i = ds.length ∧ P i Hi, ⟨ds.length, by omega, M1.m, h1, [], [], out, (ExtE.refl M1 H1).beside nD, r0, rs0, upd_same, .nil, by rw [List.drop_zero]; exact e2, rfl⟩, fun i n Hi w => ?_⟩
  obtain ⟨hn, mi, hi, acc, dacc, rest, xi, ri, rsi, hD, qa, el, eo⟩ := w
  have inD : D ∈ (⟨D :: M1.u, mi⟩ : Mm).u := List.mem_cons_self
  obtain ⟨ity, its⟩ := it _ Hi (xi.into nD) fun a ha => ri.tracked ha
  by_cases hlt : i < ds.length
  · refine .inr ?_
    obtain ⟨go, yl⟩ := ity i _ (List.getElem?_eq_getElem hlt)
    rw [List.drop_eq_getElem_cons hlt] at el
    refine ⟨go, P (i + 1), fun H' p => ⟨n - 1, by omega, by omega, p⟩, fun x H2 hy => ?_⟩
    obtain ⟨sm, rx⟩ := yl x H2 hy
    obtain ⟨ri2, xi2⟩ := ri.grow sm
    unfold lc2L at el
    split at el
    · rename_i ρ1 ek
      refine ⟨_, hi, wipeE ρ vs, .dat ds[i], ρ1, ri2, rsi.mono xi2, rx, ek, fun σ2 rs2 l2 o2 => ⟨wipe_of (by rw [l2, L2.wipe_length]) o2 hs, ?_⟩⟩
      cases et : t ρ1 hi with
      | none => rw [et] at el; cases el
      | some pr =>
        obtain ⟨b, h3⟩ := pr
        rw [et] at el
        simp only [obnd_some] at el
        refine ⟨_, hi, ρ1, ri2, rs2, b, h3, et, fun M3 H3 b' x3 r3 eb => ?_⟩
        subst eb
        obtain ⟨u3, m3⟩ := M3
        obtain rfl : u3 = D :: M1.u := x3.same
        have xi3 : ExtE M1 ⟨M1.u, m3⟩ H1 H3 := xi.trans ((xi2.trans x3).reu M1.u)
        have hD3 : H3 D = some (.lst acc) := x3.stab _ _ (sm _ _ hD) fun z => (ri.us D inD).1 z
        cases b' with
        | false =>
          simp only [Bool.false_eq_true, if_false] at el
          exact iteF ⟨m3, h3, acc, dacc, rest, xi3, r3, (rsi.mono xi2).mono x3, hD3, (qa.mono xi2.ext).mono x3.ext, el, eo⟩
        | true =>
          simp only [if_true] at el
          refine iteT ?_
          split at el
          · rename_i ds1 ed1
            cases er1 : lcL k1 t1 f (wipeE ρ1 vs1) ds1 h3 with
            | none => rw [er1] at el; cases el
            | some pr =>
              obtain ⟨out1, h4⟩ := pr
              rw [er1] at el
              simp only [obnd_some] at el
              cases er : lc2L k t i1 k1 t1 f vs1 (wipeE ρ vs) (ds.drop (i + 1)) h4 with
              | none => rw [er] at el; cases el
              | some pr =>
                obtain ⟨rest', h5⟩ := pr
                rw [er] at el
                simp only [obnd_some, Option.some.injEq, Prod.mk.injEq] at el
                obtain ⟨e5, e6⟩ := el
                subst e5 e6
                have rs3 := rs2.mono x3
                obtain ⟨a, J1, ea, hR, hit⟩ := datL_it (K := K) rs3 ed1
                refine hR _ ?_
                let P1 : Nat → Hp → Prop := fun j Hj => ∃ mj hj ac dac rst, ExtE M1 ⟨M1.u, mj⟩ H1 Hj ∧ Rep ⟨D :: M1.u, mj⟩ Hj hj ∧ RS ⟨D :: M1.u, mj⟩ Hj (wipeE ρ vs) (L2.wipe σ vs) ∧ RS ⟨D :: M1.u, mj⟩ Hj (wipeE ρ1 vs1) (L2.wipe σ2 vs1) ∧ Hj D = some (.lst ac) ∧ RDs ⟨D :: M1.u, mj⟩ Hj ac dac ∧ lcL k1 t1 f (wipeE ρ1 vs1) (ds1.drop j) hj = some (rst, h4) ∧ dac ++ (rst ++ rest') = out
                refine ⟨fun j n Hj => n + j = ds1.length ∧ P1 j Hj, ⟨ds1.length, by omega, m3, h3, acc, dacc, out1, xi3, r3, (rsi.mono xi2).mono x3, rs3.wipe vs1, hD3, (qa.mono xi2.ext).mono x3.ext, by rw [List.drop_zero]; exact er1, eo⟩, fun j n1 Hj w1 => ?_⟩
                obtain ⟨hn1, mj, hj, ac, dac, rst, xj, rj, rsj, rsk, hDj, qj, elj, eoj⟩ := w1
                have inDj : D ∈ (⟨D :: M1.u, mj⟩ : Mm).u := List.mem_cons_self
                obtain ⟨ity1, its1⟩ := hit _ Hj _ _ rsk (wipeE_out hi1) (L2.wipe_out hi1) _ Hj (Ext.refl _ _) fun a ha => rj.tracked ha
                by_cases hlt1 : j < ds1.length
                · refine .inr ?_
                  obtain ⟨go1, yl1⟩ := ity1 j _ (List.getElem?_eq_getElem hlt1)
                  rw [List.drop_eq_getElem_cons hlt1] at elj
                  refine ⟨go1, P1 (j + 1), fun H' p => ⟨n1 - 1, by omega, by omega, p⟩, fun x1' H6 hy1 => ?_⟩
                  obtain ⟨sm1, rx1⟩ := yl1 x1' H6 hy1
                  obtain ⟨rj2, xj2⟩ := rj.grow sm1
                  unfold lcL at elj
                  split at elj
                  · rename_i ρ2 ek1
                    refine ⟨_, hj, wipeE ρ1 vs1, .dat ds1[j], ρ2, rj2, rsk.mono xj2, rx1, ek1, fun σ3 rs4 l4 o4 => ⟨wipe_of (by rw [l4, L2.wipe_length]) o4 hs1, ?_⟩⟩
                    cases et1 : t1 ρ2 hj with
                    | none => rw [et1] at elj; cases elj
                    | some pr =>
                      obtain ⟨b1, h6⟩ := pr
                      rw [et1] at elj
                      simp only [obnd_some] at elj
                      refine ⟨_, hj, ρ2, rj2, rs4, b1, h6, et1, fun M6 H7 b1' x6 r6 eb1 => ?_⟩
                      subst eb1
                      obtain ⟨u6, m6⟩ := M6
                      obtain rfl : u6 = D :: M1.u := x6.same
                      have xj6 : ExtE M1 ⟨M1.u, m6⟩ H1 H7 := xj.trans ((xj2.trans x6).reu M1.u)
                      have hD6 : H7 D = some (.lst ac) := x6.stab _ _ (sm1 _ _ hDj) fun z => (rj.us D inDj).1 z
                      cases b1' with
                      | false =>
                        simp only [Bool.false_eq_true, if_false] at elj
                        exact iteF ⟨m6, h6, ac, dac, rst, xj6, r6, (rsj.mono xj2).mono x6, (rsk.mono xj2).mono x6, hD6, (qj.mono xj2.ext).mono x6.ext, elj, eoj⟩
                      | true =>
                        simp only [if_true] at elj
                        refine iteT ?_
                        cases ef : f ρ2 h6 with
                        | none => rw [ef] at elj; cases elj
                        | some pr =>
                          obtain ⟨w, h7⟩ := pr
                          rw [ef] at elj
                          simp only [obnd_some] at elj
                          refine ⟨_, h6, ρ2, r6, rs4.mono x6, w, h7, ef, fun M7 H8 y x7 r7 ry => ?_⟩
                          obtain ⟨u7, m7⟩ := M7
                          obtain rfl : u7 = D :: M1.u := x7.same
                          have hD7 : H8 D = some (.lst ac) := x7.stab _ _ hD6 fun z => (r6.us D List.mem_cons_self).1 z
                          split at elj
                          · rename_i d'
                            cases er7 : lcL k1 t1 f (wipeE ρ1 vs1) (ds1.drop (j + 1)) h7 with
                            | none => rw [er7] at elj; cases elj
                            | some pr =>
                              obtain ⟨rst', h8⟩ := pr
                              rw [er7] at elj
                              simp only [obnd_some, Option.some.injEq, Prod.mk.injEq] at elj
                              obtain ⟨e7, e8⟩ := elj
                              subst e7 e8
                              have q7 := ((qj.mono xj2.ext).mono x6.ext).mono x7.ext
                              have hlen : ac.length < sizeLine := by
                                have h9 := congrArg List.length eoj
                                rw [List.length_append, List.length_append, List.length_cons] at h9
                                rw [qj.length]; omega
                              have in7 : D ∈ (⟨D :: M1.u, m7⟩ : Mm).u := List.mem_cons_self
                              exact ⟨ac, hD7, hlen, m7, h7, ac ++ [y], dac ++ [d'], rst', (xj6.trans (x7.reu M1.u)).beside nD, r7.off in7, (((rsj.mono xj2).mono x6).mono x7).off in7, (((rsk.mono xj2).mono x6).mono x7).off in7, upd_same, (q7.off in7).app (.cons (RD.off in7 ry) .nil), er7, by rw [List.append_assoc]; exact eoj⟩
                          · cases elj
                  · cases elj
                · refine .inl ?_
                  have hj' : j = ds1.length := by omega
                  subst hj'
                  rw [List.drop_length] at elj
                  cases elj
                  exact ⟨its1, mj, _, ac, dac, rest', xj, rj, rsj, hDj, qj, er, eoj⟩
          · cases el
    · cases el
  · refine .inl ?_
    have hi' : i = ds.length := by omega
    subst hi'
    rw [List.drop_length] at el
    cases el
    rw [List.append_nil] at eo
    subst eo
    refine ⟨its, ?_⟩
    have c3 := c2 M1 H1 (.refl _ _)
    rw [if_pos outlen] at c3
    have nu : D ∉ M1.u := fun z => r1.new nD (.inl z)
    have nm : some D ∉ mi := (ri.us D inD).1
    cases m with
    | false =>
      exact c3.fin xi ri.told (RD.lst (fun z => z.elim nu nm) hD (qa.sub less_has))
    | true =>
      refine c3.fin (M' := ⟨M1.u, mi ++ [some D]⟩) ⟨rfl, xi.trk, xi.stab, fun a z => ?_, Nat.le_trans xi.len (by simp), fun j hj => ?_⟩ (ri.owned nu ⟨acc, hD, qa⟩) ⟨D, ?_, rfl⟩
      · rcases List.mem_append.mp z with z | z
        · exact xi.fresh a z
        · have : a = D := by simpa using z
          rw [this]; exact .inr nD
      · have hl : j < mi.length := Nat.lt_of_lt_of_le hj xi.len
        show (mi ++ [some D])[j]? = _
        rw [List.getElem?_append_left hl]; exact xi.pre j hj
      · show (mi ++ [some D])[h2.length]? = _
        rw [← show mi.length = h2.length from ri.len]; simp
section
variable {X : Cx}
theorem d_lc2 (m : Bool) (i1 : Nat) {elt tg iter tg1 : Expr} {x1 : Str} {px : Pos} {ifs ifs1 : List Expr} {scope : Scope} {own : List (Str × Nat)} {vs1 : List Nat} {pos : Pos} {gi : IM} {ts ts1 : List Nat} {k k1 : TM} {t t1 : BM} {f : EM} (hc : X.calm = true) (hN : X.N.Nodup) (hi : DI X tg iter gi) (ok : BlkOk X.N X.env.scope scope own)
    (hg : ∀ (s : Shared) (H : Hp) (C : Addr) (cl : List (Str × Addr)) (fp : List Addr), DG (X.blk s H scope (compEnvC scope cl C X.env) fp) tg ts k) (ht : ∀ (s : Shared) (H : Hp) (C : Addr) (cl : List (Str × Addr)) (fp : List Addr), DTs (X.blk s H scope (compEnvC scope cl C X.env) fp) ifs t)
    (hv1 : ∀ (s : Shared) (H : Hp) (C : Addr) (cl : List (Str × Addr)) (fp : List Addr), PE (X.blk s H scope (compEnvC scope cl C X.env) fp) (.Name x1 px) (tVar i1))
    (hg1 : ∀ (s : Shared) (H : Hp) (C : Addr) (cl : List (Str × Addr)) (fp : List Addr), DG (X.blk s H scope (compEnvC scope cl C X.env) fp) tg1 ts1 k1) (ht1 : ∀ (s : Shared) (H : Hp) (C : Addr) (cl : List (Str × Addr)) (fp : List Addr), DTs (X.blk s H scope (compEnvC scope cl C X.env) fp) ifs1 t1)
    (he : ∀ (s : Shared) (H : Hp) (C : Addr) (cl : List (Str × Addr)) (fp : List Addr), DE (X.blk s H scope (compEnvC scope cl C X.env) fp) elt f)
    (hsub : ∀ j ∈ ts, j ∈ own.map (·.2)) (hsub1 : ∀ j ∈ ts1, j ∈ vs1) (hi1 : i1 ∉ vs1) (hv : ∀ i ∈ vs1, i ∈ own.map (·.2)) (hs : ∀ x, foldedSetIterable iter X.env x = pure x := by intro _; rfl) (hs1 : ∀ env x, foldedSetIterable (.Name x1 px) env x = pure x := by intro _ _; rfl) :
    DE X (.ListComp elt [⟨tg, iter, ifs, 0⟩, ⟨tg1, .Name x1 px, ifs1, 0⟩] scope pos) (fLc2 m gi k t i1 k1 t1 f (own.map (·.2)) vs1) :=
  (pe_lc2 hc hN hi ok hv hg ht (fun s H C cl fp => (pi_list (hv1 s H C cl fp)).or (pi_tup (hv1 s H C cl fp))) hg1 ht1 he hs hs1).weak (lc2_imp (K := X.K) hsub hsub1 hi1)
end
end DL
set_option maxRecDepth 100000
set_option maxHeartbeats 1000000
namespace DL
open PySem PySem.Spec PyProof.Rows L2
variable [HW]
end DL
set_option maxRecDepth 100000
set_option maxHeartbeats 1000000
namespace DL
open PySem PySem.W PySem.Calls PyProof.Rows PyProof.V PySem.Spec
variable [HW]
end DL
set_option maxRecDepth 100000
set_option maxHeartbeats 1000000
namespace DL
open PySem PySem.Spec PyProof.Rows L2
variable [HW]
end DL
set_option maxRecDepth 100000
set_option maxHeartbeats 1000000
namespace DL
open PySem PySem.Spec PyProof.Rows L2
variable [HW]
section
variable {X : Cx}
structure ClsI (K : PySem.W.Frag) (C : Addr) : Prop where
  cl : Cls K C
  ha : PySem.W.findIn K (.ref C) "__class__" = some (some (.builtin "object.__class__"))
  hn : PySem.W.specialIn K (.builtin "object.__class__") "__get__" = some (some (.builtin "getset_descriptor.__get__"))
  htk : PySem.W.takesIn K (.builtin "object.__class__") = some true
  hm : PySem.W.mroIn K C (.type "object") = some true
  kit : PySem.W.kitOne K (.ref C) (.ref C) = some true
end
end DL
set_option maxRecDepth 100000
set_option maxHeartbeats 1000000
namespace DL
open PySem PySem.Spec PyProof.Rows L2
variable [HW]
section
variable {P : Program} {w : World} {K : PySem.W.Frag} {mg : Str → Option Value} {base : Heap}
theorem fng_okQ0 {x qual : Str} {st : Stmt} {f : Addr} {fd : FuncData} {N ps : List Str} {k : Nat} {body : SM} (rm : Bool) (F : Fun K x qual st f fd) (S : FnScope N ps (defScope st))
    (hb : ∀ (cdv : Value), fd.code = cdv → ∀ (A : Around) (outer : List PySem.Env) (s : Shared) (H : Hp) (E : XK), RG k (A.deeper (envOfC qual (defScope st) s.heap.objs.size f cdv)) → DSs (cxOf CX0 P w K mg base N qual (defScope st) f cdv A outer s H E).nox (defBody st) body) :
    FnG P w K mg base CX0 (k + 1) f fd ps (spD (fnM rm ps.length N.length body)) := by
  refine fn_g0 F S (fun vs H Q E q => ?_) (fun cdv ec A outer s H vs Q E hr q => ?_)
  · obtain ⟨M, h, ws, rep, rv, c⟩ := q
    unfold fnM at c
    split at c
    · rename_i hl
      rw [rv.length]; exact hl
    · exact c.no.elim
  · obtain ⟨M, h, ws, rep, rv, c⟩ := q
    unfold fnM at c
    split at c
    · rename_i hl
      refine ⟨_, hb cdv ec A outer s H E hr, M, h, ws.map some ++ List.replicate (N.length - ps.length) none, rep, ?_, ?_⟩
      · have e : L2.start N vs = vs.map some ++ List.replicate (N.length - ps.length) none := by unfold L2.start; rw [rv.length, hl]
        rw [e]
        exact rs_start rv _
      · cases eb : body (ws.map some ++ List.replicate (N.length - ps.length) none) h with
        | none => rw [eb] at c; exact c.no.elim
        | some pr =>
          obtain ⟨o, h'⟩ := pr
          rw [eb] at c
          cases o with
          | nx ρ => exact fun M1 H1 σ u x1 r1 rs1 => leave_ok x1 u rep r1 (show RV M1 H1 .non (.dat .none) from .non) c
          | rt w => exact fun M1 H1 v u x1 r1 v1 => leave_ok x1 u rep r1 v1 c
          | bk ρ => exact c.no.elim
          | ct ρ => exact c.no.elim
    · exact c.no.elim
structure GM (P : Program) (w : World) (K : PySem.W.Frag) (mg : Str → Option Value) (base : Heap) (k : Nat) (C : Addr) (m qual : Str) (st : Stmt) (ps : List Str) (mm : FM) : Prop where
  ex : ∃ (f : Addr) (fd : FuncData), Fun K m qual st f fd ∧ Meth K C m f ∧ FnG P w K mg base CX0 k f fd ps (spD mm)
theorem gm_ok {C : Addr} {x qual : Str} {st : Stmt} {f : Addr} {fd : FuncData} {N ps : List Str} {k : Nat} {body : SM} (rm : Bool) (F : Fun K x qual st f fd) (hm : Meth K C x f) (S : FnScope N ps (defScope st))
    (hb : ∀ (cdv : Value) (A : Around) (outer : List PySem.Env) (s : Shared) (H : Hp) (E : XK), RG k (A.deeper (envOfC qual (defScope st) s.heap.objs.size f cdv)) → DSs (cxOf CX0 P w K mg base N qual (defScope st) f cdv A outer s H E).nox (defBody st) body) :
    GM P w K mg base (k + 1) C x qual st ps (fnM rm ps.length N.length body) := ⟨f, fd, F, hm, fng_okQ0 rm F S fun cdv _ => hb cdv⟩
structure ClsG (K : PySem.W.Frag) (mg : Str → Option Value) (C : Addr) (x : Str) : Prop where
  ci : ClsI K C
  at_ : mg x = some (.ref C)
  mks : PySem.W.makesIn K C = true
  kp : PySem.W.keepIn K (.ref C) = true
end
section
variable {X : Cx} {k : Nat} {C : Addr} {m x qual : Str} {st : Stmt} {ps : List Str} {mm : FM} {o e : Expr} {es : List Expr} {apos p pos : Pos} {go : EM} {ga : AM} {pl : Sem Bool}
theorem makeG {sp : Sp} {f : Addr} {fd : FuncData} {pins : List (Addr × Obj)} {σ : L2.St} {H : Hp} {s : Shared} {Q : VK} {us : List Value} {vs : List V} (M : Mk X.K C f) (F : FnG X.prog X.w X.K X.mg X.base CX0 k f fd ps sp) (hr : RG (k + 1) X.A) (hb : Binds X.K fd ps []) (I : Inv X pins σ H s) (r : Vals vs us)
    (h : ∀ x dx, H x = none → H dx = none → dx ≠ x → sp (.ref x :: vs) (upd (upd H dx (.own x)) x (.ins C dx [])) (fun v H2 => v = .non ∧ Q (.ref x) H2) E0) :
    wpAny (model X.prog X.w) X.A (call (.ref C) us) (EP X pins σ Q) X.xe s := by
  have hq := h (s.heap.objs.size + 1) s.heap.objs.size (I.hok.fresh (Nat.le_succ _)) (I.hok.fresh (Nat.le_refl _)) (Nat.ne_of_lt (Nat.lt_succ_self _))
  have I2 := Inv.made (C := C) I
  have r2 : Vals (V.ref (s.heap.objs.size + 1) :: vs) (Value.ref (s.heap.objs.size + 1) :: us) := .cons rfl r
  have hl : (Value.ref (s.heap.objs.size + 1) :: us).length = ps.length := by
    have e := r2.length
    rw [F.len _ _ _ _ hq] at e
    exact e.symm
  have bd := hb { s with heap := _ } (Value.ref (s.heap.objs.size + 1) :: us) I2.kIn (by simpa using hl)
  rw [List.append_nil] at bd
  refine wpAny_call (make_map (f := f) I.kIn M.makes M.init (beq_iff_eq.mp M.fn) (codeAny_mono (F.run _ X.stack _ _ ⟨Value.ref (s.heap.objs.size + 1) :: us, []⟩ (Value.ref (s.heap.objs.size + 1) :: us) _ _ E0 ⟨hr.room.make C us [], hr.gd⟩
    (I2.env0.make C us []) bd r2 hq) fun r s' hq' => ?_))
  cases r with
  | error e => exact (pass0 pins σ _ _ e s' I2 hq')
  | ok fl =>
    cases fl with
    | ret u =>
      obtain ⟨v, H', I3, rv, ev, q3⟩ := I2.after hq'
      subst ev
      exact ⟨rv, ⟨V.ref (s.heap.objs.size + 1), H', I3, rfl, q3⟩⟩
    | next => exact False.elim hq'
    | brk => exact False.elim hq'
    | cont => exact False.elim hq'
theorem make_preV {mi : FM} {σ : L2.St} {H : Hp} {Q : VK} (q : tE (fMk C mi ga) σ H Q) : tA ga σ H fun vs H1 => ∀ x dx, H1 x = none → H1 dx = none → dx ≠ x → spD mi (.ref x :: vs) (upd (upd H1 dx (.own x)) x (.ins C dx [])) (fun v H2 => v = .non ∧ Q (.ref x) H2) E0 := by
  obtain ⟨M, h, ρ, r, rs, c0⟩ := q
  obtain ⟨ws, h1, e1, c1⟩ := Cont.bind (δ := Unit) c0
  refine ⟨M, h, ρ, r, rs, ws, h1, e1, fun M1 H1 vs x1 r1 v1 => ?_⟩
  intro y dx ny nd ne
  have c2 := c1 M1 H1 x1
  have ra : Rep M1 (upd H1 dx (.own y)) h1 := r1.upd_new nd
  have xa : ExtE M1 M1 H1 (upd H1 dx (.own y)) := ext_new nd
  have ny' : upd H1 dx (.own y) y = none := by rw [upd_ne (Ne.symm ne)]; exact ny
  have xb := ext_add (M := M1) (o := .ins C dx []) ny'
  have rb := ra.add (m := .ins C []) (o := .ins C dx []) ny' ⟨dx, [], upd_same, .nil⟩
  have xx := xa.trans xb
  have ln : M1.m.length = h1.length := r1.len
  split at c2
  · rename_i h2 em
    refine ⟨M1.more y, h1 ++ [some (.ins C [])], .ref h1.length :: ws, rb, .cons ⟨y, by simp [Mm.more, ← ln], rfl⟩ (v1.mono xx), .dat .none, h2, em, fun M2 H2 v x2 r2 q2 => ?_⟩
    have v0 : v = .non := by cases (show RD M2 H2 v .none from q2); rfl
    refine ⟨v0, ?_⟩
    have ea : M2.m[h1.length]? = some (some y) := by
      rw [x2.pre h1.length (by simp [Mm.more, ← ln])]
      simp [Mm.more, ← ln]
    obtain ⟨o, ho, ro⟩ := r2.at_ _ _ ea
    split at c2
    · rename_i C' fs hq
      rw [ho] at hq
      cases hq
      split at c2
      · rename_i z
        subst z
        obtain ⟨dx', gs, q, rf⟩ := ro
        refine c2.fin (M' := ⟨M2.u, M2.m.set h1.length none⟩) ?_ (r2.frz ea) ⟨y, dx', gs, rfl, not_set r2 ea, q, rf.to fun _ _ => RD.sub less_set⟩
        have x3 := xx.trans x2
        refine ⟨x3.same, x3.trk, x3.stab, fun a m => ?_, by have := x3.len; simpa using this, fun i hi => ?_⟩
        · rcases List.mem_or_eq_of_mem_set m with m | m
          · exact x3.fresh a m
          · cases m
        · show (M2.m.set h1.length none)[i]? = _
          rw [List.getElem?_set_ne (by omega)]
          exact x3.pre i hi
      · exact c2.no.elim
    · exact c2.no.elim
  · exact c2.no.elim
theorem d_makeG {mi : FM} (G : GM X.prog X.w X.K X.mg X.base k C "__init__" qual st ps mi) (cg : ClsG X.K X.mg C x) (hr : RG (k + 1) X.A) (ha : DA X (e :: es) ga)
    (hbd : ∀ (kV doc pm : Value) (an : Option Addr) (cdv ct : Value) (us : List Value), us.length = ps.length → bindArgs (PySem.W.fnOf "__init__" qual (defArgs st) (defBody st) (defScope st) .none kV doc pm an cdv ct) ⟨us, []⟩ = pure (ps.zip us)) (hg : Gl X x := by rfl)
    (hdb : (x == ("__debug__" : Str)) = false := by decide) (he : starEach (e :: es) X.env = (false, eval e X.env) :: starEach es X.env := by rfl) (hpl : (backTo pos (starEach es X.env)).any (·.1) = false := by rfl) : DE X (.Call (.Name x p) (e :: es) [] pos) (fMk C mi ga) := by
  obtain ⟨f, fd, F, hm, G⟩ := G.ex
  refine ⟨fun pins s σ H Q I q => ?_⟩
  refine wpAny_Call_Name_kw (ld_glob I hg cg.at_ ?_ hdb)
  refine PySem.W.callWith_K (h₀ := X.base) I.ok.mod.kin cg.kp (thn (ha.run pos pins s σ H _ I (make_preV q)) fun us s1 ⟨vs, H1, I1, r, q⟩ => ⟨I1.kIn, ?_⟩) he hpl
  exact makeG ⟨cg.mks, hm.at_, hm.fn, cg.kp⟩ G hr (F.binds (ps := ps) hbd) I1 r q
end
end DL
set_option maxRecDepth 100000
set_option maxHeartbeats 1000000
namespace DL
open PySem PySem.Spec PyProof.Rows L2
variable [HW]
def tabsO (os : List (Option (Str × Addr × Addr))) : Hh := os.map fun o => o.map fun t => .tab t.1 t.2.2
theorem inj_O : ∀ (os : List (Option (Str × Addr × Addr))), ((os.filterMap id).map (·.2.2)).Nodup → ∀ {i j : Nat} {t1 t2 : Str × Addr × Addr}, os[i]? = some (some t1) → os[j]? = some (some t2) → t1.2.2 = t2.2.2 → i = j
  | [], _, i, j, t1, t2, h1, _, _ => by simp at h1
  | none :: os, nd, i, j, t1, t2, h1, h2, e => by
    cases i with
    | zero => simp at h1
    | succ i => cases j with
      | zero => simp at h2
      | succ j => exact congrArg (· + 1) (inj_O os nd (by simpa using h1) (by simpa using h2) e)
  | some t :: os, nd, i, j, t1, t2, h1, h2, e => by
    have nd' : (t.2.2 :: (os.filterMap id).map (·.2.2)).Nodup := nd
    obtain ⟨n1, n2⟩ := List.nodup_cons.mp nd'
    have inn : ∀ {k : Nat} {u : Str × Addr × Addr}, os[k]? = some (some u) → u.2.2 ∈ (os.filterMap id).map (·.2.2) := fun {k u} hk => List.mem_map.mpr ⟨u, List.mem_filterMap.mpr ⟨some u, List.mem_of_getElem? hk, rfl⟩, rfl⟩
    cases i with
    | zero => cases j with
      | zero => rfl
      | succ j =>
        simp at h1 h2
        subst h1
        exact (n1 (e ▸ inn h2)).elim
    | succ i => cases j with
      | zero =>
        simp at h1 h2
        subst h2
        exact (n1 (e ▸ inn h1)).elim
      | succ j => exact congrArg (· + 1) (inj_O os n2 (by simpa using h1) (by simpa using h2) e)
omit [HW] in
theorem walk_gO {l : PySem.W.OpenLaw} {k : Nat} {q : Program} {loose : List Str} {XP : (Str → Option Value) → Heap → Prop} {YP : World → Heap → Prop} {d : DefRec} {K : Params → PySem.W.Frag} {x : Str} {xs : List Str}
    (hn : l.most = some 63) (hdf : d.params.defaults = []) (hr : Room k callerA)
    (hY : ∀ (w : World) (h : Heap), YP w h → (K w.params).In h) (hnl : ∀ w : World, noList (K w.params) = true) (hrec : ∀ x ∈ xs, ((recsOf q).find? fun e => e.name == x).isSome = true)
    (F : ∀ (w : World) (mg : Str → Option Value) (fa : Addr) (h : Heap), (K w.params).In h → h.Ns mainGlobals mg → mg d.name = some (.ref fa) →
      ∃ (fd : FuncData) (os : List (Option (Str × Addr × Addr))) (m : FM), (∀ (s : Shared) (u : Value), BindsTo s fd ⟨[u], []⟩ [(x, u)]) ∧ (∀ t ∈ os.filterMap id, (∃ y ∈ xs, PySem.W.tabIn (K w.params) y = some (t.2.1, t.2.2)) ∧ (K w.params).lookup t.2.2 = none) ∧ ((os.filterMap id).map (·.2.2)).Nodup ∧
        (∀ base : Heap, (K w.params).In base → base.Ns mainGlobals mg → (∀ t ∈ os.filterMap id, LamX.TabB base mg t.2.1 t.2.2) → FnG l.prog w (K w.params) mg base CX0 k fa fd [x] (@spD (HW.mk l.prog w) m)) ∧
        ∀ ns : List Int, ns.length ≤ 63 → ∃ h', m [.scr ns] (tabsO os) = some (.dat (.bool true), h')) :
    PySem.W.WalkO q loose XP YP l.row.toRowW d [] (fun f vs => PySem.call f vs) := by
  apply Att.attach_call hn hdf
  intro w s₀ s₁ mg mb fa o pm cd doc a vs ns G Y ho hd hcd hmg hobj hints hlen hg
  letI : HW := HW.mk l.prog w
  have KX := hY w _ Y
  obtain ⟨fd, os, m, hb, hts, hnd, hF, hm⟩ := F w mg fa _ KX G.T.g hmg
  generalize hos : os.filterMap id = ts at hts hnd hF
  have hka : (K w.params).lookup a = none := by
    cases e : (K w.params).lookup a with
    | none => rfl
    | some u =>
      exfalso
      have e1 := KX a u e
      rw [hobj] at e1
      cases e1
      have := List.all_eq_true.mp (hnl w) _ (lookup_mem e)
      cases this
  have hT : ∀ p ∈ ts.map (·.2), PySem.W.CodeHd s₁.heap p.1 p.2 ∧ s₁.heap.get? p.2 = some { cls := .none, data := .fields #[] } := by
    intro p hp
    obtain ⟨t, ht, rfl⟩ := List.mem_map.mp hp
    obtain ⟨⟨y, hy, e⟩, _⟩ := hts t ht
    obtain ⟨dr, hdr⟩ := Option.isSome_iff_exists.mp (hrec y hy)
    exact PySem.W.tab_of G.T KX hdr e
  have nT : ∀ p ∈ ts.map (·.2), (K w.params).lookup p.2 = none := by
    intro p hp
    obtain ⟨t, ht, rfl⟩ := List.mem_map.mp hp
    exact (hts t ht).2
  refine law_gT (sp := spD m) (cs := ts.map (·.2)) KX G.T.g G.T.b G.T.builtins G.T.nolimit hg hT nT G.T.bmain hobj hints (Nat.le_trans hlen (by decide)) hr (fun base kb nb TB => hF base kb nb fun t ht => TB t.2 (List.mem_map.mpr ⟨t, ht, rfl⟩)) hb hka ?_
  intro H ha hH hna
  obtain ⟨ob, ha⟩ := ha
  obtain ⟨h', e⟩ := hm ns hlen
  have at_ : ∀ (i : Nat) (b : Addr), (os.map fun o => o.map fun t => t.2.2)[i]? = some (some b) → ∃ t, os[i]? = some (some t) ∧ t.2.2 = b ∧ t ∈ ts := by
    intro i b z
    rw [List.getElem?_map] at z
    cases y : os[i]? with
    | none => rw [y] at z; cases z
    | some o =>
      cases o with
      | none => rw [y] at z; simp at z
      | some t =>
        rw [y] at z; simp at z
        exact ⟨t, rfl, z, by rw [← hos]; exact List.mem_filterMap.mpr ⟨some t, List.mem_of_getElem? y, rfl⟩⟩
  have rep : Rep ⟨[], os.map fun o => o.map fun t => t.2.2⟩ H (tabsO os) := by
    refine ⟨fun a z => (by cases z), by simp [tabsO], fun i j b z1 z2 => ?_, fun i b z => ?_, fun i z => ?_⟩
    · obtain ⟨t1, y1, e1, _⟩ := at_ i b z1
      obtain ⟨t2, y2, e2, _⟩ := at_ j b z2
      exact inj_O os (by rw [hos]; exact hnd) y1 y2 (e1.trans e2.symm)
    · obtain ⟨t, y, rfl, ht⟩ := at_ i b z
      refine ⟨.tab t.1 t.2.2, by simp [tabsO, y], rfl, #[], hH t.2 (List.mem_map.mpr ⟨t, ht, rfl⟩), trivial, fun pos cv hc => ?_⟩
      have z : codeAmong pos [] = some cv := hc
      simp [codeAmong] at z
    · have z' : (os.map fun o => o.map fun t => t.2.2)[i]? = some none := z
      rw [List.getElem?_map] at z'
      cases y : os[i]? with
      | none => rw [y] at z'; cases z'
      | some o =>
        cases o with
        | none => simp [tabsO, y]
        | some t => rw [y] at z'; simp at z'
  have nh : ¬ Mm.Has ⟨[], os.map fun o => o.map fun t => t.2.2⟩ a := fun z => by
    rcases z with z | z
    · cases z
    · obtain ⟨o, ho, e⟩ := List.mem_map.mp (show some a ∈ os.map fun o => o.map fun t => t.2.2 from z)
      cases o with
      | none => cases e
      | some t =>
        apply hna
        rw [List.map_map]
        exact List.mem_map.mpr ⟨t, by rw [← hos]; exact List.mem_filterMap.mpr ⟨some t, ho, rfl⟩, Option.some.inj e⟩
  refine ⟨_, tabsO os, [.scr ns], rep, .cons ⟨a, ob, rfl, nh, ha⟩ .nil, .dat (.bool true), h', e, fun M' H' v _ _ r => ?_⟩
  cases (show RD M' H' v _ from r)
  rfl
section
variable {X : Cx}
def divBW := intW (fun _ j => decide (0 < j ∧ j < 1000000000000000000)) fun i j => i / j
theorem op_fdivB : OpR X (binaryOp .FloorDiv) (rI (fun _ j => 0 < j ∧ j < 1000000000000000000) fun i j => .int (i / j)) := opI fun i j _ _ _ _ _ hc q => by
  have h1 : (0 : Int) < j := hc.1
  have h2 : j < 1000000000000000000 := hc.2
  refine floordiv_int (by omega) (by rw [Int.fdiv_eq_ediv_of_nonneg i (by omega)]; exact q) (.inl (PyProof.noPylong_of_log2 ?_))
  have h3 : j.natAbs ≠ 0 := by omega
  have h4 : j.natAbs < 2 ^ 60 := by omega
  have := (Nat.log2_lt h3).mpr h4
  omega
theorem d_divB {a b : Expr} {pos : Pos} {f g : EM} (ha : DE X a f) (hb : DE X b g) : DE X (.BinOp a .FloorDiv b pos) (f2 divBW f g) := d_op op_fdivB (s_int fun _ _ h => by simpa using h) ha hb
theorem divBW_e (x y : W) (h : Hh) : divBW x y h = intW (fun _ j => decide (0 < j ∧ j < 1000000000000000000)) (fun i j => i / j) x y h := rfl
end
end DL
set_option maxRecDepth 100000
set_option maxHeartbeats 1000000
namespace DL
open PySem PySem.Spec PyProof.Rows L2
variable [HW]
section
variable {X : Cx}
def fDnT : EM := fun _ h => some (.ref h.length, h ++ [some (.dit [])])
theorem d_dnewT {pos : Pos} (W : HWX X := by exact ⟨rfl, rfl⟩) : DE X (.Dict [] [] pos) fDnT := (pe_dnewX W).weak fun σ H Q => by
  rintro ⟨M, h, ρ, r, rs, c⟩
  exact fun p np => Cont.fin c (ext_add np) (r.add np ⟨[], upd_same, .nil⟩) ⟨p, by simp [Mm.more, ← r.len], rfl⟩
def ditAt (h : Hh) (n : Nat) : Option (List (D × D)) := match h[n]? with
  | some (some (.dit es)) => some es
  | _ => none
theorem ditAt_ok {M : Mm} {H : Hp} {h : Hh} {n : Nat} {es : List (D × D)} {a : Addr} (rep : Rep M H h) (e : ditAt h n = some es) (ea : M.m[n]? = some (some a)) : ∃ kvs, H a = some (dtO a kvs) ∧ RDt M H kvs es := by
  obtain ⟨o, ho, ro⟩ := rep.at_ n a ea
  unfold ditAt at e
  rw [ho] at e
  cases o with
  | lst _ => cases e
  | dic _ => cases e
  | dit es' => cases e; exact ro
  | tab _ _ => cases e
  | ins _ _ => cases e
def putTW (o i w : W) (h : Hh) : Option Hh := match o, i, w with
  | .ref n, .dat (.tuple ks), .dat d => match ditAt h n, dKeys ks with
    | some es, some k => if es.length < sizeLine ∧ pairD ks = false then some (h.set n (some (.dit (putT es k d)))) else none
    | _, _ => none
  | _, _, _ => none
def sPutT (f o i : EM) : SM := fun ρ h => sbnd (f ρ h) fun w h1 => sbnd (o ρ h1) fun a h2 => sbnd (i ρ h2) fun b h3 => match putTW a b w h3 with
  | some h4 => some (.nx ρ, h4)
  | none => none
theorem putT_imp {f o i : EM} : ∀ D σ H, tS (sPutT f o i) D σ H → tAsg (tE f) (L2.gSub (tE o) (tE i) rPutX) D σ H := fun D σ H => by
  rintro ⟨M, h, ρ, r, rs, p⟩
  obtain ⟨w, h1, e1, p1⟩ := p.bind
  refine ⟨M, h, ρ, r, rs, w, h1, e1, fun M1 H1 v x1 r1 v1 => ?_⟩
  obtain ⟨a, h2, e2, p2⟩ := p1.bind
  refine ⟨M1, h1, ρ, r1, rs.mono x1, a, h2, e2, fun M2 H2 v' x2 r2 v2 => ?_⟩
  obtain ⟨b, h3, e3, p3⟩ := p2.bind
  refine ⟨M2, h2, ρ, r2, (rs.mono x1).mono x2, b, h3, e3, fun M3 H3 v'' x3 r3 v3 => ?_⟩
  have ra := v2.mono x3
  have rw' := (v1.mono x2).mono x3
  unfold putTW at p3
  split at p3
  · rename_i h4 e4
    split at e4
    · rename_i n ks d
      obtain ⟨ad, ea, rfl⟩ := ra
      split at e4
      · rename_i es k' el ek
        obtain ⟨kvs, hx, q⟩ := ditAt_ok r3 el ea
        split at e4
        · rename_i hz
          obtain ⟨hz1, hz2⟩ := hz
          cases e4
          have := kP_dKeys ek
          subst this
          cases (show RD M3 H3 v'' (.tuple (k'.map kP)) from v3) with
          | tup nb hb rb =>
            rename_i kb xs
            rw [rds_kP rb] at hb
            refine ⟨ad, kvs, k', kb, rfl, rfl, hx, q.kx, hb.rd, by rw [rdt_len q]; exact hz1, ?_⟩
            have x4 := ext_set (H := H3) (o := dtO ad (putA kvs k' kb v)) ea
            have xx := ((x1.trans x2).trans x3).trans x4
            exact p3 M3 _ σ xx.same xx.ext (r3.set ea ⟨_, upd_same, (rdt_put q k' nb hb rw').mono x4.ext⟩) (rs.mono xx)
        · cases e4
      · cases e4
    · cases e4
  · exact p3.elim
theorem ds_putT {k : Nat} (hr : RG k X.A) {o i e : Expr} {pos tpos : Pos} {f fo fi : EM} (he : DE X e f) (ho : DE X o fo) (hi : DE X i fi) (h : X.A.units + 1 < cLine → PS X (.Assign [.Subscript o i tpos] e pos) (tAsg (tE f) (L2.gSub (tE fo) (tE fi) rPutX))) : DS X (.Assign [.Subscript o i tpos] e pos) (sPutT f fo fi) :=
  (h (by have := hr.room.un; omega)).weak putT_imp
end
def dmW (ws : List W) (h : Hh) : Option (W × Hh) := match ws with
  | [.dat (.int i), .dat (.int j)] => if 0 < j ∧ j < 1073741824 then some (.dat (.tuple [.int (i / j), .int (i % j)]), h) else none
  | _ => none
section
variable {X : Cx}
theorem s_dm : SemA (fun xs H Q => ∃ i j, xs = [.int i, .int j] ∧ CDiv i j ∧ ∀ p, H p = none → Q (.ref p) (upd H p (.tup [.int (i / j), .int (i % j)]))) dmW := by
  intro M H h vs ws Q rep rv c
  unfold dmW at c
  split at c
  · obtain ⟨v, v', rfl, r, r'⟩ := rvs2 rv
    cases (show RD M H _ _ from r)
    cases (show RD M H _ _ from r')
    split at c
    · rename_i hz
      exact ⟨_, _, rfl, hz, fun p n => c.fin (ext_new n) (rep.upd_new n) (RD.tup (rep.new n) (.inl ⟨callD_int _ _, upd_same⟩) (.cons (.int _) (.cons (.int _) .nil)))⟩
    · exact c.no.elim
  · exact c.no.elim
theorem d_dm {e e2 : Expr} {p pos : Pos} {g : AM} (hm : X.mg "divmod" = none) (ha : DA X [e, e2] g) (hg : Gl X "divmod" := by rfl) (he : starEach [e, e2] X.env = (false, eval e X.env) :: starEach [e2] X.env := by rfl) (hpl : (backTo pos (starEach [e2] X.env)).any (·.1) = false := by rfl) : DE X (.Call (.Name "divmod" p) [e, e2] [] pos) (fA dmW g) :=
  d_callB call_divmod s_dm hm (by decide +kernel) ha hg (by decide) (by decide) he hpl
end
end DL
set_option maxRecDepth 100000
namespace DL
open PySem L2
variable [HW]
noncomputable def m_places_of : FM := fnM false 1 3 (sRet (fDc false (enumA (fCons (fVar 0) (fNil))) (gT 2 (gC (gN 1) (gC (gN 2) (gE)))) (bYes) (fVar 2) (fVar 1) [1, 2]))
noncomputable def m_look_alike : FM := fnM false 2 2 (sIf (fB (f2 (eqW true) (fA (sortW false) (fCons (fVar 0) (fNil))) (fA (sortW false) (fCons (fVar 1) (fNil))))) (sNever) (sSkip))
noncomputable def m__law_box : FM := fnM true 2 3 (sSeq (sAsg (fC (.int 0)) (gN 2))
    (sSeq (sIf (fB (f2 lt_W (fVar 1) (fA lenW (fCons (fVar 0) (fNil))))) (sAsg (f2 idxW (fVar 0) (fVar 1)) (gN 2)) (sSkip))
    (sRet (fA (lstW true) (fCons (f2 (mulW false) (fA absW (fCons (fVar 2) (fNil))) (fA intC (fCons (f2 ge_W (fA absW (fCons (fVar 2) (fNil))) (f2 powW (fC (.int 10)) (fC (.int 18)))) (fNil)))) (fCons (f2 (addW false) (f2 (addW false) (f2 modW (fVar 2) (fC (.int 2147483629))) (f2 (mulW false) (fC (.int 7919)) (fVar 1))) (fC (.int 11))) (fCons (fC (.int 0)) (fNil))))))))
noncomputable def m__law_same : Nat → FM
  | 0 => fun _ _ => none
  | n + 1 => fnM false 2 4 (sSeq (sIf (fB (f1 (isiW ["list", "tuple"]) (fVar 1))) (sSeq (sIf (bOr (fB (f2 (eqW true) (f1 (isiW ["list"]) (fVar 0)) (f1 (isiW ["list"]) (fVar 1)))) (fB (f2 (eqW true) (f1 (isiW ["tuple"]) (fVar 0)) (f1 (isiW ["tuple"]) (fVar 1))))) (sRet (fC (.bool false))) (sSkip))
    (sSeq (sIf (fB (f2 (eqW true) (fA lenW (fCons (fVar 0) (fNil))) (fA lenW (fCons (fVar 1) (fNil))))) (sRet (fC (.bool false))) (sSkip))
    (sRet (fA allW (fCons (fLc false (zipI (fCons (fVar 0) (fCons (fVar 1) (fNil)))) (gT 2 (gC (gN 2) (gC (gN 3) (gE)))) (bYes) (fA (m__law_same n) (fCons (fVar 2) (fCons (fVar 3) (fNil)))) [2, 3]) (fNil)))))) (sSkip))
    (sSeq (sIf (bOr (fB (f2 (isW false) (fVar 1) (fC .none))) (fB (f1 (isiW ["str"]) (fVar 1)))) (sRet (fAnd (f2 (eqW false) (fVar 0) (fVar 1)) (f2 (eqW false) (f1 (isiW ["str"]) (fVar 0)) (f1 (isiW ["str"]) (fVar 1))))) (sSkip))
    (sRet (fAnd (f1 (isiW ["int"]) (fVar 0)) (fAnd (f2 (eqW false) (f1 (isiW ["bool"]) (fVar 0)) (f1 (isiW ["bool"]) (fVar 1))) (f2 (eqW false) (fVar 0) (fVar 1)))))))
end DL
namespace DL
open PySem L2
variable [HW]
noncomputable def m_by_names : FM := fnM false 1 3 (sRet (fDc false (seqI (fVar 0)) (gT 2 (gC (gN 1) (gC (gN 2) (gE)))) (bYes) (fVar 1) (fVar 2) [1, 2]))
noncomputable def m_people : FM := fnM false 1 3 (sRet (fA tupleW (fCons (fLc false (seqI (fVar 0)) (gT 2 (gC (gN 1) (gC (gN 2) (gE)))) (bYes) (fVar 1) [1, 2]) (fNil))))
end DL
namespace DL
open PySem L2
variable [HW]
noncomputable def m_gone : FM := fnM false 2 4 (sSeq (sPar (fCons (f2 idxW (fVar 0) (f2 idxW (fVar 1) (fC (.int 0)))) (fCons (f2 idxW (fVar 0) (f2 idxW (fVar 1) (fC (.int 1)))) (fNil))) [2, 3])
    (sRet (fIf (fB (f2 (eqW false) (fVar 2) (fVar 3))) (fVar 1) (fA tupW (fCons (fVar 2) (fCons (fVar 3) (fNil)))))))
noncomputable def m_ways_back : FM := fnM false 1 2 (sRet (fLc false (revI (fVar 0)) (gN 1) (bYes) (fA (m_by_names) (fCons (fVar 1) (fNil))) [1]))
noncomputable def m_walked : FM := fnM false 2 4 (sSeq (sAsg (fA (lstW true) (fCons (fVar 1) (fNil))) (gN 2))
    (sSeq (sFor (seqI (fVar 0)) (gN 3)
    (sExpr (fM isL appendW (fVar 2) (fCons (fA (m_gone) (fCons (fVar 3) (fCons (f2 idxW (fVar 2) (fNeg (fC (.int 1)))) (fNil)))) (fNil)))))
    (sRet (fVar 2))))
end DL
namespace DL
open PySem L2
variable [HW]
end DL
namespace DL
open PySem L2
variable [HW]
noncomputable def m__law_folded : FM := fnM false 2 5 (sSeq (sAsg (fA (listW true) (fCons (fSl false (fVar 0) (oNone) (oSome (fVar 1))) (fNil))) (gN 2))
    (sSeq (sFor (enumA (fCons (fSl false (fVar 0) (oSome (fVar 1)) (oSome (fC (.int 63)))) (fNil))) (gT 2 (gC (gN 3) (gC (gN 4) (gE))))
    (sSub (f2 (addW false) (f2 idxW (fVar 2) (f2 modW (fVar 3) (fVar 1))) (f2 (mulW false) (fVar 4) (f2 (addW false) (fVar 3) (fC (.int 2))))) (fVar 2) (f2 modW (fVar 3) (fVar 1))))
    (sFrz 2 (sRet (fIf (fB (f2 (eqW true) (fVar 2) (fA (lstW false) (fNil)))) (fVar 2) (fA (lstW false) (fCons (fC (.int 0)) (fNil))))))))
noncomputable def m__law_called : FM := fnM false 2 6 (sSeq (sAsg (fA (dictA false) (fCons (fVar 1) (fNil))) (gN 2))
    (sSeq (sAsg (fA (lstW false) (fNil)) (gN 3))
    (sSeq (sFor (seqI (fVar 0)) (gN 4)
    (sAsg (f2 (addW false) (fVar 3) (fLc false (seqI (fVar 0)) (gN 5) (fB (f2 (eqW false) (f2 idxW (fVar 2) (fVar 5)) (fVar 4))) (fVar 5) [5])) (gN 3)))
    (sRet (fA tupleW (fCons (fVar 3) (fNil)))))))
end DL
namespace DL
open PySem L2
variable [HW]
end DL
namespace DL
open PySem L2
variable [HW]
end DL
set_option maxRecDepth 100000
namespace DL
open PySem L2
variable [HW]
noncomputable def m_all_pairs : FM := fnM false 1 3 (sRet (fLc2 false (seqI (fVar 0)) (gN 1) (bYes) 0 (gN 2) (fB (f2 (eqW true) (fVar 1) (fVar 2))) (fA tupW (fCons (fVar 1) (fCons (fVar 2) (fNil)))) [1, 2] [2]))
noncomputable def m_is_less : FM := fnM false 2 2 (sRet (f2 lt_W (f2 idxW (fVar 0) (f2 idxW (fVar 1) (fC (.int 0)))) (f2 idxW (fVar 0) (f2 idxW (fVar 1) (fC (.int 1))))))
noncomputable def m_told_pairs : FM := fnM false 2 4 (sSeq (sAsg (fA (m_ways_back) (fCons (fVar 1) (fNil))) (gN 2))
    (sRet (fDcT (seqI (fA (m_all_pairs) (fCons (fVar 0) (fNil)))) (gN 3) (bYes) (fVar 3) (f2 idxW (fA (m_walked) (fCons (fVar 2) (fCons (fVar 3) (fNil)))) (fNeg (fC (.int 1)))) [3])))
noncomputable def m_Table___init__ (T : Nat → Addr) : FM := fnM false 3 4 (sSeq (sFor (seqI (fVar 2)) (gN 3)
    (sExpr (fA (m_look_alike) (fCons (fVar 1) (fCons (fA (m_people) (fCons (fVar 3) (fNil))) (fNil))))))
    (sSeq (sSetF (T 7) "own_names" (fVar 0) (fA tupleW (fCons (fA (sortW false) (fCons (fVar 1) (fNil))) (fNil))))
    (sSetF (T 7) "own_pairs" (fVar 0) (fA (m_told_pairs) (fCons (fFld (T 7) "own_names" (fVar 0)) (fCons (fVar 2) (fNil)))))))
end DL
set_option maxRecDepth 100000
namespace DL
open PySem L2
variable [HW]
end DL
set_option maxRecDepth 100000
namespace DL
open PySem L2
variable [HW]
noncomputable def m__law_takeG : Nat → FM
  | 0 => fun _ _ => none
  | n + 1 => fnM false 2 4 (sSeq (sIf (fB (f2 gt_W (f2 idxW (fVar 0) (fC (.int 0))) (fC (.int 0)))) (sSeq (sAsg (f2 modW (f2 idxW (fVar 0) (fC (.int 0))) (fVar 1)) (gN 3))
    (sSeq (sSub (f2 divBW (f2 idxW (fVar 0) (fC (.int 0))) (fVar 1)) (fVar 0) (fC (.int 0)))
    (sRet (fVar 3)))) (sSkip))
    (sSeq (sIf (fB (f2 gt_W (fVar 1) (f2 powW (fC (.int 10)) (fC (.int 7))))) (sRet (f2 modW (f2 (addW false) (fA (m__law_takeG n) (fCons (fVar 0) (fCons (f2 powW (fC (.int 10)) (fC (.int 7))) (fNil)))) (f2 (mulW false) (f2 powW (fC (.int 10)) (fC (.int 7))) (fA (m__law_takeG n) (fCons (fVar 0) (fCons (f2 (addW false) (f2 divBW (f2 subW (fVar 1) (fC (.int 1))) (f2 powW (fC (.int 10)) (fC (.int 7)))) (fC (.int 1))) (fNil)))))) (fVar 1))) (sSkip))
    (sSeq (sSub (f2 (addW false) (f2 idxW (fVar 0) (fC (.int 2))) (fC (.int 1))) (fVar 0) (fC (.int 2)))
    (sSeq (sAsg (f2 modW (f2 powW (f2 (addW false) (f2 idxW (fVar 0) (fC (.int 1))) (f2 (mulW false) (fC (.int 39373)) (f2 idxW (fVar 0) (fC (.int 2))))) (fC (.int 5))) (fC (.int 2147483647))) (gN 2))
    (sRet (f2 modW (f2 divBW (f2 modW (f2 (addW false) (f2 (mulW false) (fVar 2) (f2 (addW false) (f2 modW (fVar 2) (fC (.int 40009))) (fC (.int 7)))) (f2 (mulW false) (f2 idxW (fVar 0) (fC (.int 2))) (fC (.int 7919)))) (fC (.int 2147483629))) (fC (.int 64))) (fVar 1)))))))
noncomputable def m__law_pickG : FM := fnM false 2 2 (sRet (f2 idxW (fVar 1) (fA (m__law_takeG 12) (fCons (fVar 0) (fCons (fA lenW (fCons (fVar 1) (fNil))) (fNil))))))
noncomputable def m__law_rowG : FM := fnM false 2 4 (sSeq (sPar (fCons (fA (listW true) (fCons (fVar 1) (fNil))) (fCons (fA (lstW true) (fNil)) (fNil))) [2, 3])
    (sSeq (sWhile 100000 (fB (f2 (eqW true) (fVar 2) (fA (lstW false) (fNil))))
    (sExpr (fM isL appendW (fVar 3) (fCons (fM isL popAtW (fVar 2) (fCons (fA (m__law_takeG 12) (fCons (fVar 0) (fCons (fA lenW (fCons (fVar 2) (fNil))) (fNil)))) (fNil))) (fNil)))))
    (sFrz 3 (sRet (fA tupleW (fCons (fVar 3) (fNil)))))))
noncomputable def m__law_namesG : FM := fnM false 2 6 (sSeq (sPar (fCons (f2 (addW false) (fC (.int 1)) (fA (m__law_takeG 12) (fCons (fVar 0) (fCons (fVar 1) (fNil))))) (fCons (fA (lstW false) (fNil)) (fNil))) [2, 3])
    (sSeq (sWhile 100000 (fB (f2 lt_W (fA lenW (fCons (fVar 3) (fNil))) (fVar 2)))
    (sSeq (sAsg (fJoin (fC (.str "")) (fLc false (rng1I (fCons (f2 (addW false) (fC (.int 1)) (fA (m__law_takeG 12) (fCons (fVar 0) (fCons (fC (.int 3)) (fNil))))) (fNil))) (gN 5) (bYes) (fA (m__law_pickG) (fCons (fVar 0) (fCons (fC (.str "abkmxz")) (fNil)))) [5])) (gN 4))
    (sAsg (fA (sortSW false) (fCons (f2 (addW false) (fVar 3) (fA (lstW false) (fCons (f2 (addW false) (fVar 4) (f2 idxW (fC (.str "abcdefghijklmnopqrstuvwx")) (fA lenW (fCons (fVar 3) (fNil))))) (fNil)))) (fNil))) (gN 3))))
    (sRet (fVar 3))))
noncomputable def m__law_callG : FM := fnM false 2 7 (sSeq (sAsg (fA (m__law_pickG) (fCons (fVar 0) (fCons (fA (lstW false) (fCons (fC (.int 1)) (fCons (fC (.int 2)) (fCons (fA lenW (fCons (fVar 1) (fNil))) (fCons (fA lenW (fCons (fVar 1) (fNil))) (fNil)))))) (fNil)))) (gN 2))
    (sSeq (sAsg (fLc false (rng1I (fCons (fVar 2) (fNil))) (gN 5) (bYes) (fA (m__law_pickG) (fCons (fVar 0) (fCons (fVar 1) (fNil)))) [5]) (gN 3))
    (sSeq (sAsg (f2 (addW false) (fC (.int 1)) (fA (m__law_takeG 12) (fCons (fVar 0) (fCons (fC (.int 4)) (fNil))))) (gN 4))
    (sRet (fA tupleW (fCons (fLc false (seqI (fVar 1)) (gN 6) (bYes) (fA tupW (fCons (fVar 6) (fCons (fIf (fB (f2 gt_W (fA (m__law_takeG 12) (fCons (fVar 0) (fCons (fVar 4) (fNil)))) (fC (.int 0)))) (fVar 6) (fA (m__law_pickG) (fCons (fVar 0) (fCons (fVar 3) (fNil))))) (fNil)))) [6]) (fNil)))))))
noncomputable def m__law_wordG : FM := fnM false 3 4 (sRet (fLc false (rng1I (fCons (fA (m__law_takeG 12) (fCons (fVar 0) (fCons (f2 (addW false) (fVar 2) (fC (.int 1))) (fNil)))) (fNil))) (gN 3) (bYes) (fA (m__law_callG) (fCons (fVar 0) (fCons (fVar 1) (fNil)))) [3]))
end DL
set_option maxRecDepth 100000
namespace DL
open PySem L2
variable [HW]
noncomputable def m_way_on : FM := fnM false 2 4 (sSeq (sPar (fCons (fA (lstW true) (fNil)) (fCons (fDnT) (fNil))) [2, 3])
    (sSeq (sWhile 100000 (fB (f2 (inW true) (fVar 1) (fVar 3)))
    (sSeq (sPutT (fA lenW (fCons (fVar 2) (fNil))) (fVar 3) (fVar 1))
    (sSeq (sExpr (fM isL appendW (fVar 2) (fCons (fVar 1) (fNil))))
    (sAsg (f2 idxW (fVar 0) (fVar 1)) (gN 1)))))
    (sFrz 2 (sRet (fA tupW (fCons (fVar 2) (fCons (f2 idxW (fVar 3) (fVar 1)) (fNil))))))))
noncomputable def m_least_round : FM := fnM false 1 3 (sSeq (sAsg (fA lenW (fCons (fVar 0) (fNil))) (gN 1))
    (sRet (f2 idxW (fLc false (rng2I (fCons (fC (.int 1)) (fCons (f2 (addW false) (fVar 1) (fC (.int 1))) (fNil)))) (gN 2) (bAnd (fB (f2 (eqW false) (f2 modW (fVar 1) (fVar 2)) (fC (.int 0)))) (fB (f2 (eqW false) (f2 (addW false) (fSl false (fVar 0) (oSome (fVar 2)) (oNone)) (fSl false (fVar 0) (oNone) (oSome (fVar 2)))) (fVar 0)))) (fVar 2) [2]) (fC (.int 0)))))
noncomputable def m_truths_of : FM := fnM false 3 9 (sSeq (sAsg (fA (m_way_on) (fCons (fVar 0) (fCons (fVar 2) (fNil)))) (gT 2 (gC (gN 5) (gC (gN 6) (gE)))))
    (sSeq (sAsg (fLc false (seqI (fVar 5)) (gN 8) (bYes) (fA (m_is_less) (fCons (fVar 1) (fCons (fVar 8) (fNil)))) [8]) (gN 3))
    (sSeq (sPar (fCons (fSl false (fVar 3) (oNone) (oSome (fVar 6))) (fCons (fSl false (fVar 3) (oSome (fVar 6)) (oNone)) (fNil))) [7, 4])
    (sSeq (sAsg (fSl false (fVar 4) (oNone) (oSome (fA (m_least_round) (fCons (fVar 4) (fNil))))) (gN 4))
    (sSeq (sWhile 100000 (bAnd (fB (f2 gt_W (fA lenW (fCons (fVar 7) (fNil))) (fC (.int 0)))) (fB (f2 (eqW false) (f2 idxW (fVar 7) (fNeg (fC (.int 1)))) (f2 idxW (fVar 4) (fNeg (fC (.int 1)))))))
    (sSeq (sAsg (f2 (addW false) (fSl false (fVar 4) (oSome (fNeg (fC (.int 1)))) (oNone)) (fSl false (fVar 4) (oNone) (oSome (fNeg (fC (.int 1)))))) (gN 4))
    (sAsg (fSl false (fVar 7) (oNone) (oSome (fNeg (fC (.int 1))))) (gN 7))))
    (sRet (fA tupW (fCons (fVar 7) (fCons (fVar 4) (fNil))))))))))
noncomputable def m_divisor : Nat → FM
  | 0 => fun _ _ => none
  | n + 1 => fnM false 2 2 (sRet (fIf (fB (f2 (eqW false) (fVar 1) (fC (.int 0)))) (fVar 0) (fA (m_divisor n) (fCons (fVar 1) (fCons (f2 modW (fVar 0) (fVar 1)) (fNil))))))
noncomputable def m_comes_round (T : Nat → Addr) : FM := fnM false 2 9 (sSeq (sPar (fCons (fFld (T 7) "own_pairs" (fMk (T 7) (m_Table___init__ T) (fCons (fVar 0) (fCons (fVar 1) (fNil))))) (fCons (fA (m_places_of) (fCons (fVar 0) (fNil))) (fNil))) [3, 4])
    (sSeq (sAsg (fA tupW (fCons (fC (.int 0)) (fCons (fC (.int 1)) (fNil)))) (gT 2 (gC (gN 5) (gC (gN 6) (gE)))))
    (sSeq (sFor (seqI (fA (m_all_pairs) (fCons (fVar 0) (fNil)))) (gN 2)
    (sSeq (sAsg (fA (m_truths_of) (fCons (fVar 3) (fCons (fVar 4) (fCons (fVar 2) (fNil))))) (gT 2 (gC (gN 7) (gC (gN 8) (gE)))))
    (sSeq (sAsg (fA maxW (fCons (fVar 5) (fCons (fA lenW (fCons (fVar 7) (fNil))) (fNil)))) (gN 5))
    (sAsg (f2 divW (f2 (mulW false) (fVar 6) (fA lenW (fCons (fVar 8) (fNil)))) (fA (m_divisor 21) (fCons (fVar 6) (fCons (fA lenW (fCons (fVar 8) (fNil))) (fNil))))) (gN 6)))))
    (sRet (fA tupW (fCons (fVar 5) (fCons (fVar 6) (fNil))))))))
end DL
set_option maxRecDepth 100000
namespace DL
open PySem L2
variable [HW]
noncomputable def m__law_ledW : FM := fnM false 2 3 (sSeq (sFor (seqI (fVar 1)) (gN 2)
    (sAsg (fA (m__law_called) (fCons (fVar 0) (fCons (fVar 2) (fNil)))) (gN 0)))
    (sRet (fVar 0)))
end DL
set_option maxRecDepth 100000
namespace DL
open PySem L2
variable [HW]
noncomputable def m_changed_in : FM := fnM false 2 4 (sRet (fA lenW (fCons (fLc false (zipI (fCons (fSl false (fVar 0) (oNone) (oSome (fVar 1))) (fCons (fSl false (fVar 0) (oSome (fC (.int 1))) (oSome (f2 (addW false) (fVar 1) (fC (.int 1))))) (fNil)))) (gT 2 (gC (gN 2) (gC (gN 3) (gE)))) (fB (f2 (eqW true) (fVar 2) (fVar 3))) (fVar 2) [2, 3]) (fNil))))
noncomputable def m_changes (T : Nat → Addr) : FM := fnM false 5 10 (sSeq (sAsg (fA (m_truths_of) (fCons (fFld (T 7) "own_pairs" (fMk (T 7) (m_Table___init__ T) (fCons (fVar 0) (fCons (fVar 1) (fNil))))) (fCons (fA (m_places_of) (fCons (fVar 0) (fNil))) (fCons (fA tupW (fCons (fVar 2) (fCons (fVar 3) (fNil)))) (fNil))))) (gT 2 (gC (gN 6) (gC (gN 7) (gE)))))
    (sSeq (sIf (fB (f2 le_W (fVar 4) (fA lenW (fCons (fVar 6) (fNil))))) (sRet (fA (m_changed_in) (fCons (f2 (addW false) (fVar 6) (fSl false (fVar 7) (oNone) (oSome (fC (.int 1))))) (fCons (fVar 4) (fNil))))) (sSkip))
    (sSeq (sAsg (fA dmW (fCons (f2 subW (fVar 4) (fA lenW (fCons (fVar 6) (fNil)))) (fCons (fA lenW (fCons (fVar 7) (fNil))) (fNil)))) (gT 2 (gC (gN 8) (gC (gN 9) (gE)))))
    (sSeq (sAsg (f2 (addW false) (fVar 7) (fSl false (fVar 7) (oNone) (oSome (fC (.int 1))))) (gN 5))
    (sRet (f2 (addW false) (f2 (addW false) (fA (m_changed_in) (fCons (f2 (addW false) (fVar 6) (fSl false (fVar 7) (oNone) (oSome (fC (.int 1))))) (fCons (fA lenW (fCons (fVar 6) (fNil))) (fNil)))) (f2 (mulW false) (fVar 8) (fA (m_changed_in) (fCons (fVar 5) (fCons (fA lenW (fCons (fVar 7) (fNil))) (fNil)))))) (fA (m_changed_in) (fCons (fVar 5) (fCons (fVar 9) (fNil))))))))))
end DL
namespace DL
open PySem L2
variable [HW]
end DL
namespace DL
open PySem L2
variable [HW]
end DL
namespace DL
open PySem L2
variable [HW]
end DL
namespace DL
open PySem L2
variable [HW]
end DL
namespace DL
open PySem L2
variable [HW]
end DL
set_option maxRecDepth 100000
set_option maxHeartbeats 1000000
namespace DL
open PySem PySem.Spec PyProof.Rows L2
variable [HW]
end DL
set_option maxRecDepth 100000
set_option maxHeartbeats 1000000
namespace DL
open PySem PySem.Spec PyProof.Rows L2
variable [HW]
end DL
set_option maxRecDepth 100000
set_option maxHeartbeats 400000
namespace DL
open PySem PySem.Spec PyProof.Rows L2
variable [HW]
abbrev Xc := Nat × Addr × List (Str × D)
def XR (M : Mm) (H : Hp) (cls : Value) (d : Option Addr) (x : Xc) : Prop := ∃ gs, cls = .ref x.2.1 ∧ XD M H d gs ∧ RF M H gs x.2.2
theorem XR.mono {M M' : Mm} {H H' : Hp} {cls : Value} {d : Option Addr} {x : Xc} (e : Ext M M' H H') : XR M H cls d x → XR M' H' cls d x
  | ⟨gs, q, y, z⟩ => ⟨gs, q, y.to (fun _ _ q n => e.out n q) fun _ _ q _ n => e.st n q, z.to fun _ _ => RD.mono e⟩
abbrev RE := Env → Hh → Option (Xc × Hh)
abbrev RM := Env → Hh → Option ((Env × Xc) × Hh)
def RPost (W : WX) (M0 : Mm) (H0 : Hp) : Option ((Env × Xc) × Hh) → Prop
  | some ((ρ, x), h) => ∀ M H σ cls d, M.u = M0.u → Ext M0 M H0 H → Rep M H h → RS M H ρ σ → XR M H cls d x → W cls d σ H
  | none => False
theorem RPost.mono {W : WX} {M0 M1 : Mm} {H0 H1 : Hp} {r : Option ((Env × Xc) × Hh)} (p : RPost W M0 H0 r) (u : M1.u = M0.u) (x : Ext M0 M1 H0 H1) : RPost W M1 H1 r := by
  match r, p with
  | some ((ρ, y), h), p => exact fun M H σ cls d e z => p M H σ cls d (e.trans u) (x.trans z)
end DL
set_option maxRecDepth 100000
set_option maxHeartbeats 400000
namespace DL
open PySem PySem.Spec PyProof.Rows L2
variable [HW]
abbrev FR := List W → Hh → Option (Xc × Hh)
theorem XR.sub {M M' : Mm} {H : Hp} {cls : Value} {d : Option Addr} {x : Xc} (s : ∀ b, M'.Has b → M.Has b) : XR M H cls d x → XR M' H cls d x
  | ⟨gs, q, y, z⟩ => ⟨gs, q, y.to (fun b _ _ n m => n (s b m)) (fun _ _ q _ _ => q), z.to fun _ _ => RD.sub s⟩
end DL
set_option maxRecDepth 100000
set_option maxHeartbeats 400000
namespace DL
open PySem PySem.Spec PyProof.Rows L2
variable [HW]
theorem all_cons {α : Type} {P : α → Prop} {a : α} {l : List α} (h : P a) (t : ∀ x ∈ l, P x) : ∀ x ∈ a :: l, P x := fun x m => by
  rcases List.mem_cons.mp m with rfl | m
  · exact h
  · exact t x m
end DL
set_option maxRecDepth 100000
set_option maxHeartbeats 400000
namespace DL
open PySem PySem.Spec PyProof.Rows L2
variable [HW]
section
variable {X : Cx} {a : Addr} {pn pins : List (Addr × Obj)} {σ : L2.St} {H : Hp} {s : Shared} {E : Value → Shared → Prop}
structure EC (K : PySem.W.Frag) (C : Addr) : Prop where
  hg : PySem.W.findIn K (.ref C) "__getattribute__" = some (some (.builtin "BaseException.__getattribute__"))
  hk : PySem.W.findIn K (.ref C) "__getattr__" = some none
  hs : PySem.W.subIn K (.ref C) (.type "BaseException") = some true
  hd : PySem.W.hasDictIn K C = true
  ha : PySem.W.findIn K (.ref C) "__class__" = some (some (.builtin "object.__class__"))
  hn : PySem.W.specialIn K (.builtin "object.__class__") "__get__" = some (some (.builtin "getset_descriptor.__get__"))
  ht : PySem.W.takesIn K (.builtin "object.__class__") = some true
  hm : PySem.W.mroIn K C (.type "object") = some true
theorem EC.cl {K : PySem.W.Frag} {C : Addr} (e : EC K C) : (PySem.W.clsIn K C).isSome = true := by
  obtain ⟨cd, hc, _⟩ := PySem.W.any_some e.hd
  rw [hc]; rfl
end
section
variable {X : Cx} {e : Expr} {f : EM} {p pt pos : Pos} {ks : List (Nat × Addr)} {ys : List Nat}
inductive ClsPA (X : Cx) : List Expr → List V → List Value → Prop
  | nil : ClsPA X [] [] []
  | cons {x : Str} {np : Pos} {C : Addr} {es : List Expr} {cs : List V} {us : List Value} : X.mg x = some (.ref C) → ClsPA X es cs us → (hg : Gl X x := by rfl) → (hd : (x == ("__debug__" : Str)) = false := by decide) →
      (hs : starEach (.Name x np :: es) X.env = (false, eval (.Name x np) X.env) :: starEach es X.env := by rfl) → ClsPA X (.Name x np :: es) (.ref C :: cs) (.ref C :: us)
  | consB {x : Str} {np : Pos} {T : String} {es : List Expr} {cs : List V} {us : List Value} : X.mg x = none → bootBuiltins x = some (.type T) → ClsPA X es cs us → (hg : Gl X x := by rfl) → (hn : x ≠ "__name__" := by decide) → (hd : (x == ("__debug__" : Str)) = false := by decide) →
      (hs : starEach (.Name x np :: es) X.env = (false, eval (.Name x np) X.env) :: starEach es X.env := by rfl) → ClsPA X (.Name x np :: es) (.ty T :: cs) (.type T :: us)
theorem ClsPA.cv : ∀ {es : List Expr} {cs : List V} {us : List Value}, ClsPA X es cs us → Paired ClsV cs us
  | _, _, _, .nil => .nil
  | _, _, _, .cons _ t _ _ _ => .cons (.own _) t.cv
  | _, _, _, .consB _ _ t _ _ _ _ => .cons (.ty _) t.cv
end
end DL
set_option maxRecDepth 100000
set_option maxHeartbeats 400000
namespace DL
open PySem PySem.Spec PyProof.Rows L2
variable [HW]
end DL
set_option maxRecDepth 100000
set_option maxHeartbeats 400000
namespace DL
open PySem L2
variable [HW]
@[reducible] def Dm {α : Sort u} (_ : α) : Type := Unit
def ob {α β : Type} (k : α → Hh → Option (β × Hh)) (u : Dm k) (r : Option (α × Hh)) : Option (β × Hh) := obnd r k
theorem obnd_x {α β : Type} (r : Option (α × Hh)) (k : α → Hh → Option (β × Hh)) : obnd r k = ob k () r := rfl
theorem ob_some {α β : Type} (k : α → Hh → Option (β × Hh)) (u : Dm k) (a : α) (h : Hh) : ob k u (some (a, h)) = k a h := rfl
def sb {α : Type} (k : α → Hh → Option (Out × Hh)) (u : Dm k) (r : Option (α × Hh)) : Option (Out × Hh) := sbnd r k
theorem sbnd_x {α : Type} (r : Option (α × Hh)) (k : α → Hh → Option (Out × Hh)) : sbnd r k = sb k () r := rfl
theorem sb_some {α : Type} (k : α → Hh → Option (Out × Hh)) (u : Dm k) (a : α) (h : Hh) : sb k u (some (a, h)) = k a h := rfl
def seqK (g : SM) (u : Dm g) (r : Option (Out × Hh)) : Option (Out × Hh) := match r with
  | some (.nx ρ1, h1) => g ρ1 h1
  | r => r
theorem sSeq_e (f g : SM) (ρ : Env) (h : Hh) : sSeq f g ρ h = seqK g () (f ρ h) := rfl
theorem seqK_nx (g : SM) (u : Dm g) (ρ : Env) (h : Hh) : seqK g u (some (.nx ρ, h)) = g ρ h := rfl
theorem seqK_rt (g : SM) (u : Dm g) (w : W) (h : Hh) : seqK g u (some (.rt w, h)) = some (.rt w, h) := rfl
theorem seqK_bk (g : SM) (u : Dm g) (ρ : Env) (h : Hh) : seqK g u (some (.bk ρ, h)) = some (.bk ρ, h) := rfl
theorem seqK_ct (g : SM) (u : Dm g) (ρ : Env) (h : Hh) : seqK g u (some (.ct ρ, h)) = some (.ct ρ, h) := rfl
def frK (g : SM) (u : Dm g) (r : Option (Env × Hh)) : Option (Out × Hh) := match r with
  | some (ρ, h) => g ρ h
  | none => none
theorem sFrz_e (i : Nat) (f : SM) (ρ : Env) (h : Hh) : sFrz i f ρ h = frK f () (frz i ρ h) := rfl
theorem frK_some (g : SM) (u : Dm g) (ρ : Env) (h : Hh) : frK g u (some (ρ, h)) = g ρ h := rfl
theorem isR_ref (n m : Nat) : isR n (some (.ref m)) = decide (m = n) := rfl
theorem isR_dat (n : Nat) (d : D) : isR n (some (.dat d)) = false := rfl
theorem isR_scr (n : Nat) (d : List Int) : isR n (some (.scr d)) = false := rfl
theorem isR_none (n : Nat) : isR n none = false := rfl
def retK (rm : Bool) (h : Hh) (r : Option (Out × Hh)) : Option (W × Hh) := match r with
    | some (.rt w, h') => leave rm h w h'
    | some (.nx _, h') => leave rm h (.dat .none) h'
    | _ => none
theorem retK_rt (rm : Bool) (h : Hh) (w : W) (h' : Hh) : retK rm h (some (.rt w, h')) = leave rm h w h' := rfl
theorem retK_nx (rm : Bool) (h : Hh) (ρ : Env) (h' : Hh) : retK rm h (some (.nx ρ, h')) = leave rm h (.dat .none) h' := rfl
def iteK {α : Type} (x y : α) (u : Dm (x, y)) (b : Bool) : α := if b = true then x else y
theorem ite_x {α : Type} (b : Bool) (x y : α) : (if b = true then x else y) = iteK x y () b := rfl
theorem iteK_t {α : Type} (x y : α) (u : Dm (x, y)) : iteK x y u true = x := rfl
theorem iteK_f {α : Type} (x y : α) (u : Dm (x, y)) : iteK x y u false = y := rfl
theorem subW_e (x y : W) (h : Hh) : subW x y h = intW (fun _ _ => true) (fun i j => i - j) x y h := rfl
theorem modW_e (x y : W) (h : Hh) : modW x y h = intW (fun _ j => decide (0 < j)) (fun i j => i % j) x y h := rfl
theorem divW_e (x y : W) (h : Hh) : divW x y h = intW (fun _ j => decide (0 < j ∧ j < 1073741824)) (fun i j => i / j) x y h := rfl
theorem powW_e (x y : W) (h : Hh) : powW x y h = intW (fun i j => decide (0 ≤ j ∧ j ≤ 1000000 ∧ i.natAbs < 18446744073709551616)) (fun i j => i ^ j.toNat) x y h := rfl
theorem lt_e (x y : W) (h : Hh) : lt_W x y h = ltW (fun i j => decide (i < j)) (fun i j => decide (i < j)) x y h := rfl
theorem gt_e (x y : W) (h : Hh) : gt_W x y h = ltW (fun i j => decide (j < i)) (fun i j => decide (j < i)) x y h := rfl
theorem le_e (x y : W) (h : Hh) : le_W x y h = ltW (fun i j => decide (i ≤ j)) (fun i j => !decide (j < i)) x y h := rfl
theorem ge_e (x y : W) (h : Hh) : ge_W x y h = ltW (fun i j => decide (j ≤ i)) (fun i j => !decide (i < j)) x y h := rfl
theorem allW_e (ws : List W) (h : Hh) : allW ws h = lW bools (fun bs => .bool (bs.all id)) ws h := rfl
theorem anyW_e (ws : List W) (h : Hh) : anyW ws h = lW bools (fun bs => .bool (bs.any id)) ws h := rfl
theorem sumW_e (ws : List W) (h : Hh) : sumW ws h = lW intsD (fun bs => .int bs.sum) ws h := rfl
theorem fnM_e (rm : Bool) (np nl : Nat) (body : SM) (ws : List W) (h : Hh) (e : ws.length = np) : fnM rm np nl body ws h = retK rm h (body (ws.map some ++ List.replicate (nl - np) none) h) := by
  unfold fnM
  rw [if_pos e]
  rfl
theorem iLT_none : (["list", "tuple"].any fun t => isT1 t (.none : D)) = false := by rfl
theorem iLT_bool (b : Bool) : (["list", "tuple"].any fun t => isT1 t (.bool b : D)) = false := by rfl
theorem iLT_int (i : Int) : (["list", "tuple"].any fun t => isT1 t (.int i : D)) = false := by rfl
theorem iLT_str (s : Str) : (["list", "tuple"].any fun t => isT1 t (.str s : D)) = false := by rfl
theorem iLT_list (ds : List D) : (["list", "tuple"].any fun t => isT1 t (.list ds : D)) = true := by rfl
theorem iLT_tup (ds : List D) : (["list", "tuple"].any fun t => isT1 t (.tuple ds : D)) = true := by rfl
theorem iL_none : (["list"].any fun t => isT1 t (.none : D)) = false := by rfl
theorem iL_bool (b : Bool) : (["list"].any fun t => isT1 t (.bool b : D)) = false := by rfl
theorem iL_int (i : Int) : (["list"].any fun t => isT1 t (.int i : D)) = false := by rfl
theorem iL_str (s : Str) : (["list"].any fun t => isT1 t (.str s : D)) = false := by rfl
theorem iL_list (ds : List D) : (["list"].any fun t => isT1 t (.list ds : D)) = true := by rfl
theorem iL_tup (ds : List D) : (["list"].any fun t => isT1 t (.tuple ds : D)) = false := by rfl
theorem iT_none : (["tuple"].any fun t => isT1 t (.none : D)) = false := by rfl
theorem iT_bool (b : Bool) : (["tuple"].any fun t => isT1 t (.bool b : D)) = false := by rfl
theorem iT_int (i : Int) : (["tuple"].any fun t => isT1 t (.int i : D)) = false := by rfl
theorem iT_str (s : Str) : (["tuple"].any fun t => isT1 t (.str s : D)) = false := by rfl
theorem iT_list (ds : List D) : (["tuple"].any fun t => isT1 t (.list ds : D)) = false := by rfl
theorem iT_tup (ds : List D) : (["tuple"].any fun t => isT1 t (.tuple ds : D)) = true := by rfl
theorem iS_none : (["str"].any fun t => isT1 t (.none : D)) = false := by rfl
theorem iS_bool (b : Bool) : (["str"].any fun t => isT1 t (.bool b : D)) = false := by rfl
theorem iS_int (i : Int) : (["str"].any fun t => isT1 t (.int i : D)) = false := by rfl
theorem iS_str (s : Str) : (["str"].any fun t => isT1 t (.str s : D)) = true := by rfl
theorem iS_list (ds : List D) : (["str"].any fun t => isT1 t (.list ds : D)) = false := by rfl
theorem iS_tup (ds : List D) : (["str"].any fun t => isT1 t (.tuple ds : D)) = false := by rfl
theorem iI_none : (["int"].any fun t => isT1 t (.none : D)) = false := by rfl
theorem iI_bool (b : Bool) : (["int"].any fun t => isT1 t (.bool b : D)) = true := by rfl
theorem iI_int (i : Int) : (["int"].any fun t => isT1 t (.int i : D)) = true := by rfl
theorem iI_str (s : Str) : (["int"].any fun t => isT1 t (.str s : D)) = false := by rfl
theorem iI_list (ds : List D) : (["int"].any fun t => isT1 t (.list ds : D)) = false := by rfl
theorem iI_tup (ds : List D) : (["int"].any fun t => isT1 t (.tuple ds : D)) = false := by rfl
theorem iB_none : (["bool"].any fun t => isT1 t (.none : D)) = false := by rfl
theorem iB_bool (b : Bool) : (["bool"].any fun t => isT1 t (.bool b : D)) = true := by rfl
theorem iB_int (i : Int) : (["bool"].any fun t => isT1 t (.int i : D)) = false := by rfl
theorem iB_str (s : Str) : (["bool"].any fun t => isT1 t (.str s : D)) = false := by rfl
theorem iB_list (ds : List D) : (["bool"].any fun t => isT1 t (.list ds : D)) = false := by rfl
theorem iB_tup (ds : List D) : (["bool"].any fun t => isT1 t (.tuple ds : D)) = false := by rfl
theorem lcL_map {k : TM} {t : BM} {f : EM} {ρ : Env} {h : Hh} (p : D → Bool) (g : D → D) : ∀ {ds : List D}, (∀ d ∈ ds, ∃ ρ1, k (.dat d) ρ h = some ρ1 ∧ t ρ1 h = some (p d, h) ∧ (p d = true → f ρ1 h = some (.dat (g d), h))) → lcL k t f ρ ds h = some ((ds.filter p).map g, h)
  | [], _ => rfl
  | d :: ds, H => by
    obtain ⟨ρ1, e1, e2, e3⟩ := H d List.mem_cons_self
    have ih := lcL_map (k := k) (t := t) (f := f) (ρ := ρ) (h := h) p g (ds := ds) fun e he => H e (List.mem_cons_of_mem _ he)
    unfold lcL
    simp only [e1, e2, obnd]
    cases hp : p d with
    | true =>
      simp only [if_true]
      rw [e3 hp]
      simp only [ih, List.filter_cons, hp, if_true, List.map_cons]
    | false => simp only [Bool.false_eq_true, if_false, ih, List.filter_cons, hp]
theorem lcL_all {k : TM} {t : BM} {f : EM} {ρ : Env} {h : Hh} (g : D → D) {ds : List D} (H : ∀ d ∈ ds, ∃ ρ1, k (.dat d) ρ h = some ρ1 ∧ t ρ1 h = some (true, h) ∧ f ρ1 h = some (.dat (g d), h)) : lcL k t f ρ ds h = some (ds.map g, h) := by
  have := lcL_map (k := k) (t := t) (f := f) (ρ := ρ) (h := h) (fun _ => true) g (ds := ds) fun d hd => by
    obtain ⟨ρ1, a, b, c⟩ := H d hd
    exact ⟨ρ1, a, b, fun _ => c⟩
  rwa [List.filter_eq_self.mpr (fun _ _ => rfl)] at this
theorem lcL_inv {k : TM} {f : EM} {ρ : Env} (I : Nat → Hh → Prop) (R : Nat → D → Prop) : ∀ {ds : List D} {n : Nat} {h : Hh}, I n h → (∀ (j : Nat) (d : D), ds[j]? = some d → ∀ h, I (n + j) h → ∃ ρ1 d' h', k (.dat d) ρ h = some ρ1 ∧ f ρ1 h = some (.dat d', h') ∧ R (n + j) d' ∧ I (n + j + 1) h') →
    ∃ rs h', lcL k bYes f ρ ds h = some (rs, h') ∧ rs.length = ds.length ∧ (∀ (j : Nat) (r : D), rs[j]? = some r → R (n + j) r) ∧ I (n + ds.length) h'
  | [], n, h, i, _ => ⟨[], h, rfl, rfl, (fun j r hr => by simp at hr), i⟩
  | d :: ds, n, h, i, H => by
    obtain ⟨ρ1, d', h1, e1, e2, r, i1⟩ := H 0 d rfl h i
    obtain ⟨rs, h2, e3, hl, hr, i2⟩ := lcL_inv (k := k) (f := f) (ρ := ρ) I R (ds := ds) (n := n + 1) i1 fun j e he h q => by
      have := H (j + 1) e (by simpa using he) h (by rw [← show n + 1 + j = n + (j + 1) by omega]; exact q)
      rw [show n + 1 + j = n + (j + 1) by omega]
      exact this
    refine ⟨d' :: rs, h2, ?_, by simp [hl], ?_, ?_⟩
    · unfold lcL
      simp only [e1, bYes, obnd, if_true, e2]
      rw [e3]
    · intro j x hx
      cases j with
      | zero => simp at hx; subst hx; exact r
      | succ j =>
        have := hr j x (by simpa using hx)
        rw [show n + 1 + j = n + (j + 1) by omega] at this
        exact this
    · rw [List.length_cons, show n + (ds.length + 1) = n + 1 + ds.length by omega]; exact i2
theorem forL_inv {k : TM} {body : SM} (I : Nat → Env → Hh → Prop) : ∀ {ds : List D} {n : Nat} {ρ : Env} {h : Hh}, I n ρ h → (∀ (j : Nat) (d : D), ds[j]? = some d → ∀ ρ h, I (n + j) ρ h → ∃ ρ1 ρ2 h2, k (.dat d) ρ h = some ρ1 ∧ body ρ1 h = some (.nx ρ2, h2) ∧ I (n + j + 1) ρ2 h2) →
    ∃ ρ' h', forL k body ds ρ h = some (.nx ρ', h') ∧ I (n + ds.length) ρ' h'
  | [], n, ρ, h, i, _ => ⟨ρ, h, rfl, i⟩
  | d :: ds, n, ρ, h, i, H => by
    obtain ⟨ρ1, ρ2, h2, e1, e2, i2⟩ := H 0 d rfl ρ h i
    obtain ⟨ρ', h', e3, i3⟩ := forL_inv (k := k) (body := body) I (ds := ds) (n := n + 1) i2 fun j e he ρ h q => by
      obtain ⟨a, b, c, x, y, z⟩ := H (j + 1) e (by simpa using he) ρ h (by rw [← show n + 1 + j = n + (j + 1) by omega]; exact q)
      exact ⟨a, b, c, x, y, by rw [show n + 1 + j + 1 = n + (j + 1) + 1 by omega]; exact z⟩
    refine ⟨ρ', h', ?_, by rw [List.length_cons, show n + (ds.length + 1) = n + 1 + ds.length by omega]; exact i3⟩
    unfold forL
    simp only [e1, e2, e3]
theorem getK_cons (e : D × D) (es : List (D × D)) (k : Key) : getK (e :: es) k = if dKey e.1 = some k then some e.2 else getK es k := by
  unfold getK
  rw [List.find?_cons]
  by_cases h : dKey e.1 = some k
  · simp [h]
  · simp [h]
def sdic (l : List (Str × D)) : List (D × D) := l.map fun p => (.str p.1, p.2)
theorem dKey_str (s : Str) : dKey (.str s) = some (.inr s) := rfl
theorem getK_sdic (s : Str) : ∀ l : List (Str × D), getK (sdic l) (.inr s) = l.lookup s
  | [] => rfl
  | (t, d) :: l => by
    show getK ((.str t, d) :: sdic l) (.inr s) = _
    rw [getK_cons, getK_sdic s l, List.lookup_cons, dKey_str]
    by_cases h : t = s
    · subst h; simp
    · have h1 : ¬ (some (Sum.inr t : Key) = some (Sum.inr s)) := fun z => h (by cases z; rfl)
      have h2 : (s == t) = false := by simpa using fun z => h z.symm
      rw [if_neg h1, h2]
theorem isT_sdic : ∀ l : List (Str × D), isT (sdic l) = false
  | [] => rfl
  | (t, d) :: l => rfl
theorem getD_sdic (l : List (Str × D)) (s : Str) : getD (sdic l) (.str s) = some (l.lookup s) := by
  unfold getD
  rw [isT_sdic, if_neg (by simp), dKey_str]
  simp [getK_sdic]
theorem sdic_snoc (l : List (Str × D)) (s : Str) (d : D) : sdic (l ++ [(s, d)]) = sdic l ++ [(.str s, d)] := by simp [sdic]
theorem putK_sdic {l : List (Str × D)} {s : Str} (d : D) (h : l.lookup s = none) : putK' (sdic l) (.inr s) d = sdic (l ++ [(s, d)]) := by
  unfold putK'
  rw [getK_sdic, h, sdic_snoc]
  rfl
theorem lookup_none {l : List (Str × D)} {s : Str} (h : s ∉ l.map (·.1)) : l.lookup s = none := by
  induction l with
  | nil => rfl
  | cons p l ih =>
    obtain ⟨t, d⟩ := p
    simp only [List.map_cons, List.mem_cons, not_or] at h
    rw [List.lookup_cons, show (s == t) = false by simpa using h.1]
    exact ih h.2
theorem merge_sdic : ∀ (ps : List (Str × D)) (l : List (Str × D)), ((l ++ ps).map (·.1)).Nodup → mergeD (sdic l) (ps.map fun p => (Sum.inr p.1, p.2)) = sdic (l ++ ps)
  | [], l, _ => by simp [mergeD]
  | (s, d) :: ps, l, h => by
    have hn : s ∉ l.map (·.1) := by
      rw [List.map_append, List.nodup_append] at h
      intro z
      exact h.2.2 _ z _ (by simp) rfl
    have e : mergeD (sdic l) (((s, d) :: ps).map fun p => (Sum.inr p.1, p.2)) = mergeD (putK' (sdic l) (.inr s) d) (ps.map fun p => (Sum.inr p.1, p.2)) := rfl
    rw [e, putK_sdic d (lookup_none hn), merge_sdic ps (l ++ [(s, d)]) (by simpa using h)]
    simp
def prs (ps : List (Str × D)) : List D := ps.map fun p => .tuple [.str p.1, p.2]
theorem pairsK_prs : ∀ ps : List (Str × D), pairsK (prs ps) = some (ps.map fun p => (Sum.inr p.1, p.2))
  | [] => rfl
  | (s, d) :: ps => by
    show (match dKey (.str s), pairsK (prs ps) with | some k, some r => some ((k, d) :: r) | _, _ => none) = _
    rw [pairsK_prs ps]
    rfl
theorem dcL_sdic {k : TM} {fk fv : EM} {ρ : Env} {h : Hh} (g : D → Str × D) : ∀ {ds : List D} {l : List (Str × D)}, ((l ++ ds.map g).map (·.1)).Nodup → (l ++ ds.map g).length ≤ sizeLine →
    (∀ d ∈ ds, ∃ ρ1, k (.dat d) ρ h = some ρ1 ∧ fk ρ1 h = some (.dat (.str (g d).1), h) ∧ fv ρ1 h = some (.dat (g d).2, h)) → dcL k bYes fk fv ρ ds (sdic l) h = some (sdic (l ++ ds.map g), h)
  | [], l, _, _, _ => by simp [dcL]
  | d :: ds, l, hn, hl, H => by
    obtain ⟨ρ1, e1, e2, e3⟩ := H d List.mem_cons_self
    have hn' : (g d).1 ∉ l.map (·.1) := by
      rw [List.map_append, List.nodup_append] at hn
      intro z
      exact hn.2.2 _ z _ (by simp) rfl
    unfold dcL
    simp only [e1, bYes, obnd, if_true, e2, e3, dKey_str]
    have hlen : (sdic l).length < sizeLine := by
      simp only [sdic, List.length_map]
      simp only [List.length_append, List.length_map, List.length_cons] at hl
      omega
    rw [if_pos hlen, putK_sdic _ (lookup_none hn')]
    have ih := dcL_sdic (k := k) (fk := fk) (fv := fv) (ρ := ρ) (h := h) g (ds := ds) (l := l ++ [((g d).1, (g d).2)]) (by simpa using hn) (by simpa using hl) fun e he => H e (List.mem_cons_of_mem _ he)
    rw [ih]
    simp
end DL
set_option maxRecDepth 100000
set_option maxHeartbeats 400000
namespace DL
open PySem L2
variable [HW]
local macro_rules | `(tactic| walk_at "dl") => `(tactic| simp (config := { dsimp := false }) only [↓fnM_e, ↓sSeq_e, seqK_nx, seqK_rt, seqK_bk, seqK_ct, retK_rt, retK_nx, ↓sFrz_e, frK_some, ↓sAsg, ↓sRet, ↓sRetN, ↓sIf, ↓sExpr, ↓sSkip, ↓sNever, ↓sPar, ↓sFor, ↓sSub, ↓fVar, ↓fC, ↓fNil, ↓fCons, ↓fA, ↓f1, ↓f2, ↓fB, ↓fIf, ↓fNeg, ↓fNot, ↓fAnd, ↓fOr, ↓bNot, ↓bAnd, ↓bOr, ↓bYes, ↓obnd_x, ob_some, ↓sbnd_x, sb_some, ↓ite_x, iteK_t, iteK_f, gN, gT, gC, gE, ↓rng1I, ↓rng2I, ↓seqI, ↓enumA, ↓zipI, ↓strI, ↓fLc, ↓fDc, ↓fM, ↓fSl, ↓oNone, ↓oSome, ↓fRev, wipeE, ↓kwM, permM, permL, List.foldr, List.length_cons, List.length_nil, List.map_cons, List.map_nil, List.cons_append, List.nil_append, List.replicate, List.replicate_succ, List.replicate_zero, List.getElem?_cons_zero, List.getElem?_cons_succ, List.set_cons_zero, List.set_cons_succ, if_true, if_false, reduceIte, Nat.reduceAdd, Nat.reduceSub, Nat.reduceEqDiff, Nat.reduceLT, Nat.reduceLeDiff, Int.reduceLT, Int.reduceLE, Int.reduceNeg, Int.reduceMul, Int.reduceAdd, Int.reduceSub, Int.reduceToNat, Int.reducePow, Int.reduceEq, ok, bok, deref, mkL, lstW, tupW, dats, Option.map_some, appendW, insertW, setL, isL, listW, tupleW, lenW, absW, intC, maxW, minW, idxW, addW, subW_e, modW_e, divW_e, powW_e, mulW, intW, lt_e, gt_e, le_e, ge_e, ltW, allW_e, anyW_e, sumW_e, lW, setW, lstAt, cutW, backW, isW, isiW, iLT_none, iLT_bool, iLT_int, iLT_str, iLT_list, iLT_tup, iL_none, iL_bool, iL_int, iL_str, iL_list, iL_tup, iT_none, iT_bool, iT_int, iT_str, iT_list, iT_tup, iS_none, iS_bool, iS_int, iS_str, iS_list, iS_tup, iI_none, iI_bool, iI_int, iI_str, iI_list, iI_tup, iB_none, iB_bool, iB_int, iB_str, iB_list, iB_tup, Bool.false_eq_true, reduceCtorEq, Bool.not_true, Bool.not_false, decide_true, decide_false, List.zip_cons_cons, List.zip_nil_left, List.foldl_cons, List.foldl_nil, and_self, and_true, true_and, Bool.and_true, Bool.true_and, Bool.or_true, Bool.true_or, *])
def BoxAt (h : Hh) (b c : Nat) : Prop := ∃ d s k : Int, h[b]? = some (some (.lst [.int d, .int s, .int k])) ∧ 0 ≤ d ∧ 0 ≤ s ∧ s < 1099511627776 ∧ 0 ≤ k ∧ k ≤ c
structure Only (b : Nat) (h h' : Hh) : Prop where
  len : h'.length = h.length
  off : ∀ i : Nat, i ≠ b → h'[i]? = h[i]?
theorem Only.refl (b : Nat) (h : Hh) : Only b h h := ⟨rfl, fun _ _ => rfl⟩
theorem Only.trans {b : Nat} {h h1 h2 : Hh} (x : Only b h h1) (y : Only b h1 h2) : Only b h h2 := ⟨y.len.trans x.len, fun i n => (y.off i n).trans (x.off i n)⟩
theorem only_set (b : Nat) (h : Hh) (o : Option MO) : Only b h (h.set b o) := ⟨by simp, fun i n => by rw [List.getElem?_set_ne (fun z => n z.symm)]⟩
theorem BoxAt.mono {h : Hh} {b c c' : Nat} (x : BoxAt h b c) (hc : c ≤ c') : BoxAt h b c' := by
  obtain ⟨d, s, k, e, h1, h2, h3, h4, h5⟩ := x
  exact ⟨d, s, k, e, h1, h2, h3, h4, by omega⟩
theorem BoxAt.lt {h : Hh} {b c : Nat} (x : BoxAt h b c) : b < h.length := by
  obtain ⟨d, s, k, e, _⟩ := x
  exact (List.getElem?_eq_some_iff.mp e).1
theorem live_only {b c c' : Nat} {h h' : Hh} (x : BoxAt h b c) (y : BoxAt h' b c') (o : Only b h h') : live h' = live h := by
  apply List.ext_getElem?
  intro i
  unfold live
  rw [List.getElem?_map, List.getElem?_map]
  by_cases hi : i = b
  · subst hi
    obtain ⟨_, _, _, e1, _⟩ := x
    obtain ⟨_, _, _, e2, _⟩ := y
    rw [e1, e2]
    rfl
  · rw [o.off i hi]
theorem leave_dat {h h' : Hh} {d : D} (e : live (h'.take h.length) = live h) : leave false h (.dat d) h' = some (.dat d, h'.take h.length) := by
  unfold leave
  rw [if_pos e]
theorem leave_dat' {b c c' : Nat} {h h' : Hh} {d : D} (x : BoxAt h b c) (y : BoxAt h' b c') (o : Only b h h') : leave false h (.dat d) h' = some (.dat d, h') := by
  have e : h'.take h.length = h' := List.take_of_length_le (by rw [o.len]; exact Nat.le_refl _)
  rw [leave_dat (by rw [e]; exact live_only x y o), e]
theorem leave_same' {h : Hh} {d : D} : leave false h (.dat d) h = some (.dat d, h) := by
  have e : h.take h.length = h := List.take_of_length_le (Nat.le_refl _)
  rw [leave_dat (by rw [e]), e]
theorem atI3 (x y z : D) : L2.atI [x, y, z] 0 = some x ∧ L2.atI [x, y, z] 1 = some y ∧ L2.atI [x, y, z] 2 = some z := ⟨rfl, rfl, rfl⟩
theorem ix3 : ixN 3 0 = some 0 ∧ ixN 3 1 = some 1 ∧ ixN 3 2 = some 2 := ⟨rfl, rfl, rfl⟩
theorem only_app {b : Nat} {h h' : Hh} {o : Option MO} (hb : b < h.length) (x : Only b (h ++ [o]) h') : Only b h (h'.take h.length) ∧ ∃ g : Hh, h' = g ++ [o] ∧ g.length = h.length := by
  have hl : h'.length = h.length + 1 := by rw [x.len]; simp
  have e : h'[h.length]? = some o := by rw [x.off _ (by omega)]; simp
  have e2 : h' = h'.take h.length ++ [o] := by
    apply List.ext_getElem?
    intro i
    by_cases hi : i < h.length
    · rw [List.getElem?_append_left (by simp; omega), List.getElem?_take_of_lt hi]
    · by_cases hi2 : i = h.length
      · subst hi2
        rw [e, List.getElem?_append_right (by simp; omega)]
        simp [hl]
      · rw [List.getElem?_eq_none (by omega), List.getElem?_eq_none (by simp; omega)]
  refine ⟨⟨by simp [hl], fun i n => ?_⟩, h'.take h.length, e2, by simp [hl]⟩
  by_cases hi : i < h.length
  · rw [List.getElem?_take_of_lt hi, x.off i n, List.getElem?_append_left hi]
  · rw [List.getElem?_eq_none (by simp; omega), List.getElem?_eq_none (by omega)]
theorem box_app {h : Hh} {b c : Nat} {l : Hh} (x : BoxAt h b c) : BoxAt (h ++ l) b c := by
  have lb := x.lt
  obtain ⟨d, s, k, e, r⟩ := x
  exact ⟨d, s, k, by rw [List.getElem?_append_left lb]; exact e, r⟩
theorem box_take {h : Hh} {b c n : Nat} (x : BoxAt h b c) (hb : b < n) : BoxAt (h.take n) b c := by
  obtain ⟨d, s, k, e, r⟩ := x
  exact ⟨d, s, k, by rw [List.getElem?_take_of_lt hb]; exact e, r⟩
theorem take_snoc {α : Type} {l : List α} {n : Nat} {x : α} (e : l[n]? = some x) : l.take (n + 1) = l.take n ++ [x] := by
  rw [List.take_add_one, e]; rfl
end DL
set_option maxRecDepth 100000
set_option maxHeartbeats 400000
namespace DL
open PySem L2
variable [HW]
local macro_rules | `(tactic| walk_at "dl") => `(tactic| simp (config := { dsimp := false }) only [↓fnM_e, ↓sSeq_e, seqK_nx, seqK_rt, seqK_bk, seqK_ct, retK_rt, retK_nx, ↓sFrz_e, frK_some, ↓sAsg, ↓sRet, ↓sRetN, ↓sIf, ↓sExpr, ↓sSkip, ↓sNever, ↓sPar, ↓sFor, ↓sSub, ↓fVar, ↓fC, ↓fNil, ↓fCons, ↓fA, ↓f1, ↓f2, ↓fB, ↓fIf, ↓fNeg, ↓fNot, ↓fAnd, ↓fOr, ↓bNot, ↓bAnd, ↓bOr, ↓bYes, ↓obnd_x, ob_some, ↓sbnd_x, sb_some, ↓ite_x, iteK_t, iteK_f, gN, gT, gC, gE, ↓rng1I, ↓rng2I, ↓seqI, ↓enumA, ↓zipI, ↓strI, ↓fLc, ↓fDc, ↓fM, ↓fSl, ↓oNone, ↓oSome, ↓fRev, wipeE, ↓kwM, permM, permL, List.foldr, List.length_cons, List.length_nil, List.map_cons, List.map_nil, List.cons_append, List.nil_append, List.replicate, List.replicate_succ, List.replicate_zero, List.getElem?_cons_zero, List.getElem?_cons_succ, List.set_cons_zero, List.set_cons_succ, if_true, if_false, reduceIte, Nat.reduceAdd, Nat.reduceSub, Nat.reduceEqDiff, Nat.reduceLT, Nat.reduceLeDiff, Int.reduceLT, Int.reduceLE, Int.reduceNeg, Int.reduceMul, Int.reduceAdd, Int.reduceSub, Int.reduceToNat, Int.reducePow, Int.reduceEq, ok, bok, deref, mkL, lstW, tupW, dats, Option.map_some, appendW, insertW, setL, isL, listW, tupleW, lenW, absW, intC, maxW, minW, idxW, addW, subW_e, modW_e, divW_e, powW_e, mulW, intW, lt_e, gt_e, le_e, ge_e, ltW, allW_e, anyW_e, sumW_e, lW, setW, lstAt, cutW, backW, isW, isiW, iLT_none, iLT_bool, iLT_int, iLT_str, iLT_list, iLT_tup, iL_none, iL_bool, iL_int, iL_str, iL_list, iL_tup, iT_none, iT_bool, iT_int, iT_str, iT_list, iT_tup, iS_none, iS_bool, iS_int, iS_str, iS_list, iS_tup, iI_none, iI_bool, iI_int, iI_str, iI_list, iI_tup, iB_none, iB_bool, iB_int, iB_str, iB_list, iB_tup, Bool.false_eq_true, reduceCtorEq, Bool.not_true, Bool.not_false, decide_true, decide_false, List.zip_cons_cons, List.zip_nil_left, List.foldl_cons, List.foldl_nil, and_self, and_true, true_and, Bool.and_true, Bool.true_and, Bool.or_true, Bool.true_or, *])
theorem str_ext {a b : Str} (h : a.cps.toList = b.cps.toList) : a = b := by
  obtain ⟨⟨x⟩⟩ := a
  obtain ⟨⟨y⟩⟩ := b
  simp at h
  rw [h]
theorem cps_app (a b : Str) : (a ++ b).cps.toList = a.cps.toList ++ b.cps.toList := by
  show (a.cps ++ b.cps).toList = _
  simp
theorem len_app (a b : Str) : (a ++ b).length = a.length + b.length := by
  show (a.cps ++ b.cps).size = _
  simp [Str.length]
def lt1 (i : Nat) : Str := ⟨#[97 + i]⟩
def sfx : Nat → Str
  | 0 => ""
  | 1 => "a"
  | _ => "zz"
def nm (st sp at_ : Nat) : Str := lt1 ((st + sp * (at_ / 2)) % 26) ++ sfx (at_ % 2 * (1 + st % 2))
theorem sfx_len : (sfx 0).cps.toList = [] ∧ (sfx 1).cps.toList = [97] ∧ (sfx 2).cps.toList = [122, 122] := by decide +kernel
def Steps (sp : Nat) : Prop := sp = 1 ∨ sp = 3 ∨ sp = 25
theorem nm_cps (st sp a : Nat) : (nm st sp a).cps.toList = (97 + (st + sp * (a / 2)) % 26) :: (sfx (a % 2 * (1 + st % 2))).cps.toList := by
  unfold nm
  rw [cps_app]
  rfl
structure Crew (most : Nat) (rs : List Str) : Prop where
  nd : rs.Nodup
  pos : 0 < rs.length
  le : rs.length ≤ most
  nam : ∀ s ∈ rs, ∃ st sp a, st < 26 ∧ Steps sp ∧ s = nm st sp a
def unS : D → Str
  | .str s => s
  | _ => ""
theorem rng_get {n j : Nat} {d : D} (e : (rngD 0 n)[j]? = some d) : j < n ∧ d = .int (j : Int) := by
  obtain ⟨h1, h2⟩ := rngD_get e
  exact ⟨h1, by rw [h2]; simp⟩
theorem rng_len (n : Nat) : (rngD 0 n).length = n := by simp [rngD]
theorem sfx_le (k : Nat) : (sfx k).length ≤ 2 := by
  match k with
  | 0 => decide +kernel
  | 1 => decide +kernel
  | _ + 2 => show (sfx 2).length ≤ 2; decide +kernel
theorem leave_two {b c c' : Nat} {h g : Hh} {d : D} {o : Option MO} (x : BoxAt h b c) (y : BoxAt g b c') (on : Only b h g) : leave false h (.dat d) (g ++ [o]) = some (.dat d, g) := by
  have e : (g ++ [o]).take h.length = g := by rw [← on.len, List.take_append_of_le_length (Nat.le_refl _), List.take_length]
  rw [leave_dat (by rw [e]; exact live_only x y on), e]
end DL
set_option maxRecDepth 100000
set_option maxHeartbeats 400000
namespace DL
open PySem L2
variable [HW]
local macro_rules | `(tactic| walk_at "dl") => `(tactic| simp (config := { dsimp := false }) only [↓fnM_e, ↓sSeq_e, seqK_nx, seqK_rt, seqK_bk, seqK_ct, retK_rt, retK_nx, ↓sFrz_e, frK_some, ↓sAsg, ↓sRet, ↓sRetN, ↓sIf, ↓sExpr, ↓sSkip, ↓sNever, ↓sPar, ↓sFor, ↓sSub, ↓fVar, ↓fC, ↓fNil, ↓fCons, ↓fA, ↓f1, ↓f2, ↓fB, ↓fIf, ↓fNeg, ↓fNot, ↓fAnd, ↓fOr, ↓bNot, ↓bAnd, ↓bOr, ↓bYes, ↓obnd_x, ob_some, ↓sbnd_x, sb_some, ↓ite_x, iteK_t, iteK_f, gN, gT, gC, gE, ↓rng1I, ↓rng2I, ↓seqI, ↓enumA, ↓zipI, ↓strI, ↓fLc, ↓fDc, ↓fM, ↓fSl, ↓oNone, ↓oSome, ↓fRev, wipeE, ↓kwM, permM, permL, List.foldr, List.length_cons, List.length_nil, List.map_cons, List.map_nil, List.cons_append, List.nil_append, List.replicate, List.replicate_succ, List.replicate_zero, List.getElem?_cons_zero, List.getElem?_cons_succ, List.set_cons_zero, List.set_cons_succ, if_true, if_false, reduceIte, Nat.reduceAdd, Nat.reduceSub, Nat.reduceEqDiff, Nat.reduceLT, Nat.reduceLeDiff, Int.reduceLT, Int.reduceLE, Int.reduceNeg, Int.reduceMul, Int.reduceAdd, Int.reduceSub, Int.reduceToNat, Int.reducePow, Int.reduceEq, ok, bok, deref, mkL, lstW, tupW, dats, Option.map_some, appendW, insertW, setL, isL, listW, tupleW, lenW, absW, intC, maxW, minW, idxW, addW, subW_e, modW_e, divW_e, powW_e, mulW, intW, lt_e, gt_e, le_e, ge_e, ltW, allW_e, anyW_e, sumW_e, lW, setW, lstAt, cutW, backW, isW, isiW, iLT_none, iLT_bool, iLT_int, iLT_str, iLT_list, iLT_tup, iL_none, iL_bool, iL_int, iL_str, iL_list, iL_tup, iT_none, iT_bool, iT_int, iT_str, iT_list, iT_tup, iS_none, iS_bool, iS_int, iS_str, iS_list, iS_tup, iI_none, iI_bool, iI_int, iI_str, iI_list, iI_tup, iB_none, iB_bool, iB_int, iB_str, iB_list, iB_tup, Bool.false_eq_true, reduceCtorEq, Bool.not_true, Bool.not_false, decide_true, decide_false, List.zip_cons_cons, List.zip_nil_left, List.foldl_cons, List.foldl_nil, and_self, and_true, true_and, Bool.and_true, Bool.true_and, Bool.or_true, Bool.true_or, *])
theorem zipD_self : ∀ ds : List D, zipD ds ds = ds.map fun d => .tuple [d, d]
  | [] => rfl
  | d :: ds => by rw [zipD, zipD_self ds]; rfl
theorem bools_true : ∀ n : Nat, bools (List.replicate n (.bool true)) = some (List.replicate n true)
  | 0 => rfl
  | n + 1 => by rw [List.replicate_succ, bools, bools_true n]; rfl
theorem all_true (n : Nat) : (List.replicate n true).all id = true := by induction n with
  | zero => rfl
  | succ n ih => rw [List.replicate_succ, List.all_cons, ih]; rfl
theorem eqS_bool (b : Bool) : eqS (.bool b) (.bool b) = some true := by simp [eqS]
theorem eqS_self_str (b : Str) : eqS (.str b) (.str b) = some true := by simp [eqS]
theorem eqS_self_int (b : Int) : eqS (.int b) (.int b) = some true := by simp [eqS]
theorem eqW_same {neg : Bool} {d : D} {h : Hh} (e : eqS d d = some true) : eqW neg (.dat d) (.dat d) h = bok (!neg) h := by
  unfold eqW
  simp only [deref, e]
  cases neg <;> rfl
mutual
def plainD : D → Bool
  | .dict _ => false
  | .list ds => plainDs ds && decide (ds.length ≤ sizeLine)
  | .tuple ds => plainDs ds && decide (ds.length ≤ sizeLine)
  | _ => true
def plainDs : List D → Bool
  | [] => true
  | d :: ds => plainD d && plainDs ds
end
theorem plainDs_mem : ∀ {ds : List D} {d : D}, plainDs ds = true → d ∈ ds → plainD d = true
  | _ :: _, _, h, .head _ => by rw [plainDs, Bool.and_eq_true] at h; exact h.1
  | _ :: ds, _, h, .tail _ m => by rw [plainDs, Bool.and_eq_true] at h; exact plainDs_mem h.2 m
theorem depthAll_mem : ∀ {ds : List D} {d : D}, d ∈ ds → d.depth ≤ PyData.depthAll ds
  | _ :: _, _, .head _ => by rw [PyData.depthAll]; exact Nat.le_max_left _ _
  | _ :: ds, _, .tail _ m => by rw [PyData.depthAll]; exact Nat.le_trans (depthAll_mem m) (Nat.le_max_right _ _)
theorem same_seq {n : Nat} {ds : List D} {h : Hh} (ih : ∀ d ∈ ds, m__law_same n [.dat d, .dat d] h = some (.dat (.bool true), h)) (v1 v2 : Option W) (hl : ds.length ≤ sizeLine) :
    lcL (gT 2 (gC (gN 2) (gC (gN 3) (gE)))) (bYes) (fA (m__law_same n) (fCons (fVar 2) (fCons (fVar 3) (fNil)))) [v1, v2, none, none] (zipD ds ds) h = some (List.replicate ds.length (.bool true), h) := by
  rw [zipD_self]
  rw [lcL_all (fun _ => .bool true) (ds := ds.map fun d => .tuple [d, d]) (fun d' hd' => ?_)]
  · rw [List.map_map]
    congr 2
    apply List.eq_replicate_iff.mpr
    exact ⟨by simp, fun b hb => by obtain ⟨d, hd, rfl⟩ := List.mem_map.mp hb; rfl⟩
  · obtain ⟨d, hd, rfl⟩ := List.mem_map.mp hd'
    have e := ih d hd
    refine ⟨[v1, v2, some (.dat d), some (.dat d)], ?_, rfl, ?_⟩
    · walk_at "dl"
    · walk_at "dl"
theorem callD_two (d : D) : callD [d, d] = false := by
  by_cases h : ∃ a b : Str, d = .tuple [.str a, .str b]
  · obtain ⟨a, b, rfl⟩ := h
    simp [callD, pairD, rowD, prTx, rowS]
  · by_cases h' : ∃ a : Str, d = .str a
    · obtain ⟨a, rfl⟩ := h'
      simp [callD, pairD, rowD, prTx, rowS]
    · exact callD_not _ (fun a b e => h ⟨a, b, e⟩) fun a e => h' ⟨a, e⟩
theorem zipOk_refl : ∀ ds : List D, zipOk ds ds = true
  | [] => rfl
  | d :: ds => by
    have ih := zipOk_refl ds
    unfold zipOk at ih ⊢
    simp only [zipD, List.all_cons, ih, notCall, callD_two]
    rfl
theorem zipOk_fst : ∀ (xs ys : List D), (∀ d ∈ xs, ∀ a b : Str, d ≠ .tuple [.str a, .str b]) → (∀ d ∈ xs, ∀ a : Str, d ≠ .str a) → zipOk xs ys = true
  | [], _, _, _ => rfl
  | _ :: _, [], _, _ => rfl
  | d :: xs, y :: ys, h, h' => by
    have ih := zipOk_fst xs ys (fun z hz => h z (List.mem_cons_of_mem _ hz)) fun z hz => h' z (List.mem_cons_of_mem _ hz)
    unfold zipOk at ih ⊢
    simp only [zipD, List.all_cons, ih, notCall, callD_not _ (h d List.mem_cons_self) (h' d List.mem_cons_self)]
    rfl
theorem same_refl : ∀ (n : Nat) (d : D) (h : Hh), plainD d = true → d.depth < n → m__law_same n [.dat d, .dat d] h = some (.dat (.bool true), h)
  | 0, _, _, _, hd => by omega
  | n + 1, d, h, hp, hd => by
    have tk : leave false h (.dat (.bool true)) h = some (.dat (.bool true), h) := leave_same'
    have e0 := fun b : Bool => eqW_same (neg := true) (h := h) (eqS_bool b)
    have e1 := fun b : Bool => eqW_same (neg := false) (h := h) (eqS_bool b)
    cases d with
    | none => 
      unfold m__law_same
      have e2 : eqW false (.dat .none) (.dat .none) h = bok true h := eqW_same rfl
      walk_at "dl"
    | bool b =>
      unfold m__law_same
      walk_at "dl"
    | int i =>
      unfold m__law_same
      have e2 := eqW_same (neg := false) (h := h) (eqS_self_int i)
      walk_at "dl"
    | str s =>
      unfold m__law_same
      have e2 := eqW_same (neg := false) (h := h) (eqS_self_str s)
      walk_at "dl"
    | list ds =>
      unfold m__law_same
      simp only [plainD, Bool.and_eq_true, decide_eq_true_eq] at hp
      simp only [PyData.depth] at hd
      have hl : ds.length ≤ sizeLine := hp.2
      have ez := zipOk_refl ds
      have e3 := same_seq (n := n) (ds := ds) (h := h) (fun d hd' => same_refl n d h (plainDs_mem hp.1 hd') (by have := depthAll_mem hd'; omega)) (some (.dat (.list ds))) (some (.dat (.list ds))) hl
      have e2 := eqW_same (neg := true) (h := h) (eqS_self_int (ds.length : Int))
      have e4 := bools_true ds.length
      have e5 := all_true ds.length
      have e6 : (List.replicate ds.length (PyData.bool true)).length ≤ sizeLine := by simpa using hl
      clear hd hp
      walk_at "dl"
    | tuple ds =>
      unfold m__law_same
      simp only [plainD, Bool.and_eq_true, decide_eq_true_eq] at hp
      simp only [PyData.depth] at hd
      have hl : ds.length ≤ sizeLine := hp.2
      have ez := zipOk_refl ds
      have e3 := same_seq (n := n) (ds := ds) (h := h) (fun d hd' => same_refl n d h (plainDs_mem hp.1 hd') (by have := depthAll_mem hd'; omega)) (some (.dat (.tuple ds))) (some (.dat (.tuple ds))) hl
      have e2 := eqW_same (neg := true) (h := h) (eqS_self_int (ds.length : Int))
      have e4 := bools_true ds.length
      have e5 := all_true ds.length
      have e6 : (List.replicate ds.length (PyData.bool true)).length ≤ sizeLine := by simpa using hl
      clear hd hp
      walk_at "dl"
    | dict es => simp [plainD] at hp
theorem forL_end {k : TM} {body : SM} (I : Nat → Env → Hh → Prop) {ds : List D} {ρ : Env} {h : Hh} (i : I 0 ρ h) (H : ∀ (j : Nat) (d : D), ds[j]? = some d → ∀ ρ h, I j ρ h → ∃ ρ1 ρ2 h2, k (.dat d) ρ h = some ρ1 ∧ body ρ1 h = some (.nx ρ2, h2) ∧ I (j + 1) ρ2 h2) :
    ∃ ρ' h', forL k body ds ρ h = some (.nx ρ', h') ∧ I ds.length ρ' h' := by
  have := forL_inv (k := k) (body := body) I (ds := ds) (n := 0) i fun j d e ρ h q => by
    have := H j d e ρ h (by rw [Nat.zero_add] at q; exact q)
    rw [Nat.zero_add]; exact this
  rw [Nat.zero_add] at this
  exact this
theorem leave_ref {h : Hh} {ds : List D} : leave true h (.ref h.length) (h ++ [some (.lst ds)]) = some (.ref h.length, h ++ [some (.lst ds)]) := by
  have e : (h ++ [some (MO.lst ds)]).take h.length = h := by rw [List.take_append_of_le_length (Nat.le_refl _), List.take_length]
  have e2 : (h ++ [some (MO.lst ds)])[h.length]? = some (some (.lst ds)) := by rw [List.getElem?_append_right (Nat.le_refl _)]; simp
  unfold leave
  rw [e, if_pos rfl]
  simp only [Nat.lt_irrefl, if_false, e2, if_true]
theorem bools_all : ∀ {rs : List D}, (∀ r ∈ rs, r = .bool true) → rs = List.replicate rs.length (.bool true)
  | [], _ => rfl
  | r :: rs, h => by
    rw [List.length_cons, List.replicate_succ, ← bools_all fun x hx => h x (List.mem_cons_of_mem _ hx), ← h r List.mem_cons_self]
end DL
set_option maxRecDepth 100000
set_option maxHeartbeats 400000
namespace DL
open PySem L2
variable [HW]
local macro_rules | `(tactic| walk_at "dl") => `(tactic| simp (config := { dsimp := false }) only [↓fnM_e, ↓sSeq_e, seqK_nx, seqK_rt, seqK_bk, seqK_ct, retK_rt, retK_nx, ↓sFrz_e, frK_some, ↓sAsg, ↓sRet, ↓sRetN, ↓sIf, ↓sExpr, ↓sSkip, ↓sNever, ↓sPar, ↓sFor, ↓sSub, ↓fVar, ↓fC, ↓fNil, ↓fCons, ↓fA, ↓f1, ↓f2, ↓fB, ↓fIf, ↓fNeg, ↓fNot, ↓fAnd, ↓fOr, ↓bNot, ↓bAnd, ↓bOr, ↓bYes, ↓obnd_x, ob_some, ↓sbnd_x, sb_some, ↓ite_x, iteK_t, iteK_f, gN, gT, gC, gE, ↓rng1I, ↓rng2I, ↓seqI, ↓enumA, ↓zipI, ↓strI, ↓fLc, ↓fDc, ↓fM, ↓fSl, ↓oNone, ↓oSome, ↓fRev, wipeE, ↓kwM, permM, permL, List.foldr, List.length_cons, List.length_nil, List.map_cons, List.map_nil, List.cons_append, List.nil_append, List.replicate, List.replicate_succ, List.replicate_zero, List.getElem?_cons_zero, List.getElem?_cons_succ, List.set_cons_zero, List.set_cons_succ, if_true, if_false, reduceIte, Nat.reduceAdd, Nat.reduceSub, Nat.reduceEqDiff, Nat.reduceLT, Nat.reduceLeDiff, Int.reduceLT, Int.reduceLE, Int.reduceNeg, Int.reduceMul, Int.reduceAdd, Int.reduceSub, Int.reduceToNat, Int.reducePow, Int.reduceEq, ok, bok, deref, mkL, lstW, tupW, dats, Option.map_some, appendW, insertW, setL, isL, listW, tupleW, lenW, absW, intC, maxW, minW, idxW, addW, subW_e, modW_e, divW_e, powW_e, mulW, intW, lt_e, gt_e, le_e, ge_e, ltW, allW_e, anyW_e, sumW_e, lW, setW, lstAt, cutW, backW, isW, isiW, iLT_none, iLT_bool, iLT_int, iLT_str, iLT_list, iLT_tup, iL_none, iL_bool, iL_int, iL_str, iL_list, iL_tup, iT_none, iT_bool, iT_int, iT_str, iT_list, iT_tup, iS_none, iS_bool, iS_int, iS_str, iS_list, iS_tup, iI_none, iI_bool, iI_int, iI_str, iI_list, iI_tup, iB_none, iB_bool, iB_int, iB_str, iB_list, iB_tup, Bool.false_eq_true, reduceCtorEq, Bool.not_true, Bool.not_false, decide_true, decide_false, List.zip_cons_cons, List.zip_nil_left, List.foldl_cons, List.foldl_nil, and_self, and_true, true_and, Bool.and_true, Bool.true_and, Bool.or_true, Bool.true_or, *])
def TxtOk (s : Str) : Prop := s.length ≤ 100 ∧ ∀ c ∈ s.cps.toList, c < 128
theorem TxtOk.ok {s : Str} (h : TxtOk s) : PyData.strOk s = true := by
  unfold PyData.strOk
  rw [Array.all_eq_true']
  intro c hc
  have := h.2 c (by simpa using hc)
  simp; omega
abbrev Txts (l : List Str) : Prop := ∀ s ∈ l, TxtOk s
theorem nm_ok {st sp a : Nat} : TxtOk (nm st sp a) := by
  refine ⟨?_, fun c hc => ?_⟩
  · unfold nm
    rw [len_app]
    have := sfx_le (a % 2 * (1 + st % 2))
    show 1 + _ ≤ _
    omega
  · rw [nm_cps] at hc
    rcases List.mem_cons.mp hc with rfl | hc
    · omega
    · generalize a % 2 * (1 + st % 2) = k at hc
      match k, hc with
      | 0, hc => rw [sfx_len.1] at hc; cases hc
      | 1, hc => rw [sfx_len.2.1] at hc; simp at hc; omega
      | _ + 2, hc => 
        have hc' : c ∈ (sfx 2).cps.toList := hc
        rw [sfx_len.2.2] at hc'; simp at hc'; omega
theorem Crew.txts {most : Nat} {rs : List Str} (h : Crew most rs) : Txts rs := fun s hs => by
  obtain ⟨st, sp, a, _, _, rfl⟩ := h.nam s hs
  exact nm_ok
theorem Txts.perm {l m : List Str} (h : Txts l) (p : m.Perm l) : Txts m := fun s hs => h s (p.mem_iff.mp hs)
def leS (a b : Str) : Bool := decide (a.cps.toList ≤ b.cps.toList)
theorem leS_trans (a b c : Str) (h1 : leS a b = true) (h2 : leS b c = true) : leS a c = true := by
  unfold leS at *
  simp only [decide_eq_true_eq] at *
  exact List.le_trans h1 h2
theorem leS_total (a b : Str) : (leS a b || leS b a) = true := by
  unfold leS
  simp only [Bool.or_eq_true, decide_eq_true_eq]
  exact List.le_total _ _
theorem leS_antisymm {a b : Str} (h1 : leS a b = true) (h2 : leS b a = true) : a = b := by
  unfold leS at *
  simp only [decide_eq_true_eq] at *
  exact str_ext (List.le_antisymm h1 h2)
def sortS (l : List Str) : List Str := l.mergeSort leS
theorem sortS_perm (l : List Str) : (sortS l).Perm l := List.mergeSort_perm _ _
theorem sortS_pw (l : List Str) : (sortS l).Pairwise fun a b => leS a b = true := List.pairwise_mergeSort leS_trans leS_total l
theorem sortS_eq {a b : List Str} (h : a.Perm b) : sortS a = sortS b :=
  List.Perm.eq_of_pairwise (fun x y _ _ h1 h2 => leS_antisymm h1 h2) (sortS_pw a) (sortS_pw b) ((sortS_perm a).trans (h.trans (sortS_perm b).symm))
theorem sortD_strs (l : List Str) : sortD (l.map .str) = (sortS l).map .str := by
  unfold sortD sortS
  have e := PySem.W.dataLe_str (fun s : Str => s)
  rw [← PySem.W.sort_maps (r := leS) (s := PySem.W.dataLe false fun d : D => d) (fun s : Str => (.str s : D)) (l := l) fun a _ b _ => ?_]
  have := congrFun (congrFun e a) b
  unfold leS
  rw [← this]
  rfl
theorem alike_strs (l : List Str) : (l.map PyData.str).all (fun d => (l.map PyData.str).all fun e => PySem.W.alike d e) = true := by
  rw [List.all_eq_true]
  intro d hd
  rw [List.all_eq_true]
  intro e he
  obtain ⟨a, _, rfl⟩ := List.mem_map.mp hd
  obtain ⟨b, _, rfl⟩ := List.mem_map.mp he
  rfl
theorem shp_strs {l : List Str} (ht : Txts l) : (l.map PyData.str).all shp = true := by
  rw [List.all_eq_true]
  intro d hd
  obtain ⟨a, ha, rfl⟩ := List.mem_map.mp hd
  simp [shp, PyData.canLay0, PyData.depth, (ht a ha).ok]
theorem sortable_strs {l : List Str} (ht : Txts l) : sortable (l.map .str) = true := by
  unfold sortable
  rw [alike_strs, shp_strs ht]
  simp only [Bool.true_and, Bool.and_true, Bool.or_eq_true]
  right
  rw [List.all_eq_true]
  intro d hd
  obtain ⟨a, _, rfl⟩ := List.mem_map.mp hd
  rfl
abbrev IsSeq (x : D) (ds : List D) : Prop := x = .list ds ∨ x = .tuple ds
theorem sortW_strs {x : D} {l : List Str} {h : Hh} (hx : IsSeq x (l.map .str)) (ht : Txts l) : sortW false [.dat x] h = some (.dat (.list ((sortS l).map .str)), h) := by
  have e := sortD_strs l
  have e2 := sortable_strs ht
  clear ht
  rcases hx with rfl | rfl <;> (unfold sortW; walk_at "dl")
theorem canLay_strs : ∀ {l : List Str}, Txts l → PyData.canLayAll0 (l.map .str) = true
  | [], _ => rfl
  | s :: l, h => by rw [List.map_cons, PyData.canLayAll0, canLay_strs fun t ht => h t (List.mem_cons_of_mem _ ht)]; simp [PyData.canLay0, (h s List.mem_cons_self).ok]
theorem depth_strs : ∀ l : List Str, PyData.depthAll (l.map .str) = 0
  | [] => rfl
  | s :: l => by rw [List.map_cons, PyData.depthAll, depth_strs l]; simp [PyData.depth]
theorem shp_list {l : List Str} (ht : Txts l) : shp (.list (l.map .str)) = true := by
  unfold shp
  rw [PyData.canLay0, canLay_strs ht, PyData.depth, depth_strs]
  rfl
theorem eqW_list {neg : Bool} {ds : List D} {h : Hh} (hs : shp (.list ds) = true) : eqW neg (.dat (.list ds)) (.dat (.list ds)) h = some (.dat (.bool (!neg)), h) := by
  have e : PyData.eqv (.list ds) (.list ds) = true := SeqAt.eqv_refl _ (SeqAt.canLay_of_shaped hs)
  unfold eqW
  simp only [deref, eqS, hs, e, Bool.and_self, if_true]
  cases neg <;> rfl
theorem look_alike_ok {x y : D} {l m : List Str} {h : Hh} (hx : IsSeq x (l.map .str)) (hy : IsSeq y (m.map .str)) (p : l.Perm m) (ht : Txts l) : m_look_alike [.dat x, .dat y] h = some (.dat .none, h) := by
  have e1 := sortW_strs (h := h) hx ht
  have e2 := sortW_strs (h := h) hy (ht.perm p.symm)
  rw [← sortS_eq p] at e2
  have e3 := eqW_list (neg := true) (h := h) (shp_list (ht.perm (sortS_perm l)))
  have lv := leave_same' (h := h) (d := .none)
  unfold m_look_alike
  clear hx hy p ht
  walk_at "dl"
end DL
set_option maxRecDepth 100000
set_option maxHeartbeats 400000
namespace DL
open PySem L2
variable [HW]
local macro_rules | `(tactic| walk_at "dl") => `(tactic| simp (config := { dsimp := false }) only [↓fnM_e, ↓sSeq_e, seqK_nx, seqK_rt, seqK_bk, seqK_ct, retK_rt, retK_nx, ↓sFrz_e, frK_some, ↓sAsg, ↓sRet, ↓sRetN, ↓sIf, ↓sExpr, ↓sSkip, ↓sNever, ↓sPar, ↓sFor, ↓sSub, ↓fVar, ↓fC, ↓fNil, ↓fCons, ↓fA, ↓f1, ↓f2, ↓fB, ↓fIf, ↓fNeg, ↓fNot, ↓fAnd, ↓fOr, ↓bNot, ↓bAnd, ↓bOr, ↓bYes, ↓obnd_x, ob_some, ↓sbnd_x, sb_some, ↓ite_x, iteK_t, iteK_f, gN, gT, gC, gE, ↓rng1I, ↓rng2I, ↓seqI, ↓enumA, ↓zipI, ↓strI, ↓fLc, ↓fDc, ↓fM, ↓fSl, ↓oNone, ↓oSome, ↓fRev, wipeE, ↓kwM, permM, permL, List.foldr, List.length_cons, List.length_nil, List.map_cons, List.map_nil, List.cons_append, List.nil_append, List.replicate, List.replicate_succ, List.replicate_zero, List.getElem?_cons_zero, List.getElem?_cons_succ, List.set_cons_zero, List.set_cons_succ, if_true, if_false, reduceIte, Nat.reduceAdd, Nat.reduceSub, Nat.reduceEqDiff, Nat.reduceLT, Nat.reduceLeDiff, Int.reduceLT, Int.reduceLE, Int.reduceNeg, Int.reduceMul, Int.reduceAdd, Int.reduceSub, Int.reduceToNat, Int.reducePow, Int.reduceEq, ok, bok, deref, mkL, lstW, tupW, dats, Option.map_some, appendW, insertW, setL, isL, listW, tupleW, lenW, absW, intC, maxW, minW, idxW, addW, subW_e, modW_e, divW_e, powW_e, mulW, intW, lt_e, gt_e, le_e, ge_e, ltW, allW_e, anyW_e, sumW_e, lW, setW, lstAt, cutW, backW, isW, isiW, iLT_none, iLT_bool, iLT_int, iLT_str, iLT_list, iLT_tup, iL_none, iL_bool, iL_int, iL_str, iL_list, iL_tup, iT_none, iT_bool, iT_int, iT_str, iT_list, iT_tup, iS_none, iS_bool, iS_int, iS_str, iS_list, iS_tup, iI_none, iI_bool, iI_int, iI_str, iI_list, iI_tup, iB_none, iB_bool, iB_int, iB_str, iB_list, iB_tup, Bool.false_eq_true, reduceCtorEq, Bool.not_true, Bool.not_false, decide_true, decide_false, List.zip_cons_cons, List.zip_nil_left, List.foldl_cons, List.foldl_nil, and_self, and_true, true_and, Bool.and_true, Bool.true_and, Bool.or_true, Bool.true_or, *])
def plc : Nat → List Str → List (Str × D)
  | _, [] => []
  | k, s :: r => (s, .int (k : Int)) :: plc (k + 1) r
theorem plc_keys : ∀ (k : Nat) (r : List Str), (plc k r).map (·.1) = r
  | _, [] => rfl
  | k, s :: r => by rw [plc, List.map_cons, plc_keys (k + 1) r]
theorem plc_look : ∀ (k : Nat) (r : List Str) (s : Str), (plc k r).lookup s = if s ∈ r then some (.int ((k + r.idxOf s : Nat) : Int)) else none
  | _, [], s => rfl
  | k, t :: r, s => by
    rw [plc, List.lookup_cons]
    by_cases h : s = t
    · subst h
      simp
    · have h1 : (s == t) = false := by simpa using h
      have h2 : (t == s) = false := by simpa using fun z => h z.symm
      rw [h1, plc_look (k + 1) r s]
      simp only [List.mem_cons, h, false_or]
      by_cases hm : s ∈ r
      · simp only [hm, if_true, List.idxOf_cons, h2, cond_false]
        rw [show k + 1 + List.idxOf s r = k + (List.idxOf s r + 1) by omega]
      · simp only [hm, if_false]
def enP : D → Str × D
  | .tuple [i, .str s] => (s, i)
  | _ => ("", .none)
theorem enum_plc : ∀ (k : Nat) (r : List Str), (enumD k (r.map .str)).map enP = plc k r
  | _, [] => rfl
  | k, s :: r => by rw [List.map_cons, enumD, List.map_cons, enum_plc (k + 1) r]; rfl
theorem enum_mem : ∀ {k : Nat} {r : List Str} {d : D}, d ∈ enumD k (r.map .str) → ∃ (i : Nat) (s : Str), d = .tuple [.int (i : Int), .str s]
  | _, [], _, h => by cases h
  | k, s :: r, d, h => by
    rw [List.map_cons, enumD] at h
    rcases List.mem_cons.mp h with rfl | h
    · exact ⟨k, s, rfl⟩
    · exact enum_mem h
theorem places_ok {x : D} {r : List Str} {h : Hh} (hx : IsSeq x (r.map .str)) (nd : r.Nodup) (hl : r.length ≤ 1000) : m_places_of [.dat x] h = some (.dat (.dict (sdic (plc 0 r))), h) := by
  have e := dcL_sdic (k := gT 2 (gC (gN 1) (gC (gN 2) gE))) (fk := fVar 2) (fv := fVar 1) (ρ := [some (.dat x), none, none]) (h := h) enP (ds := enumD 0 (r.map .str)) (l := []) (by rw [List.nil_append, enum_plc, plc_keys]; exact nd)
    (by rw [List.nil_append, List.length_map, enumD_len, List.length_map]; exact Nat.le_trans hl (by decide)) (by
      intro d hd
      obtain ⟨i, s, rfl⟩ := enum_mem hd
      refine ⟨[some (.dat x), some (.dat (.int i)), some (.dat (.str s))], ?_, rfl, rfl⟩
      walk_at "dl")
  rw [List.nil_append, enum_plc] at e
  have e' : dcL (gT 2 (gC (gN 1) (gC (gN 2) gE))) bYes (fVar 2) (fVar 1) [some (.dat x), none, none] (enumD 0 (r.map .str)) [] h = some (sdic (plc 0 r), h) := e
  have lv := leave_same' (h := h) (d := .dict (sdic (plc 0 r)))
  unfold m_places_of
  clear nd hl e
  rcases hx with rfl | rfl <;> (walk_at "dl"; simp only [mkK, Bool.false_eq_true, if_false, obnd_some, retK_rt]; walk_at "dl")
end DL
set_option maxRecDepth 100000
set_option maxHeartbeats 400000
namespace DL
open PySem L2
variable [HW]
end DL
set_option maxRecDepth 100000
set_option maxHeartbeats 400000
namespace DL
open PySem L2
variable [HW]
local macro_rules | `(tactic| walk_at "dl") => `(tactic| simp (config := { dsimp := false }) only [↓fnM_e, ↓sSeq_e, seqK_nx, seqK_rt, seqK_bk, seqK_ct, retK_rt, retK_nx, ↓sFrz_e, frK_some, ↓sAsg, ↓sRet, ↓sRetN, ↓sIf, ↓sExpr, ↓sSkip, ↓sNever, ↓sPar, ↓sFor, ↓sSub, ↓fVar, ↓fC, ↓fNil, ↓fCons, ↓fA, ↓f1, ↓f2, ↓fB, ↓fIf, ↓fNeg, ↓fNot, ↓fAnd, ↓fOr, ↓bNot, ↓bAnd, ↓bOr, ↓bYes, ↓obnd_x, ob_some, ↓sbnd_x, sb_some, ↓ite_x, iteK_t, iteK_f, gN, gT, gC, gE, ↓rng1I, ↓rng2I, ↓seqI, ↓enumA, ↓zipI, ↓strI, ↓fLc, ↓fDc, ↓fM, ↓fSl, ↓oNone, ↓oSome, ↓fRev, wipeE, ↓kwM, permM, permL, List.foldr, List.length_cons, List.length_nil, List.map_cons, List.map_nil, List.cons_append, List.nil_append, List.replicate, List.replicate_succ, List.replicate_zero, List.getElem?_cons_zero, List.getElem?_cons_succ, List.set_cons_zero, List.set_cons_succ, if_true, if_false, reduceIte, Nat.reduceAdd, Nat.reduceSub, Nat.reduceEqDiff, Nat.reduceLT, Nat.reduceLeDiff, Int.reduceLT, Int.reduceLE, Int.reduceNeg, Int.reduceMul, Int.reduceAdd, Int.reduceSub, Int.reduceToNat, Int.reducePow, Int.reduceEq, ok, bok, deref, mkL, lstW, tupW, dats, Option.map_some, appendW, insertW, setL, isL, listW, tupleW, lenW, absW, intC, maxW, minW, idxW, addW, subW_e, modW_e, divW_e, powW_e, mulW, intW, lt_e, gt_e, le_e, ge_e, ltW, allW_e, anyW_e, sumW_e, lW, setW, lstAt, cutW, backW, isW, isiW, iLT_none, iLT_bool, iLT_int, iLT_str, iLT_list, iLT_tup, iL_none, iL_bool, iL_int, iL_str, iL_list, iL_tup, iT_none, iT_bool, iT_int, iT_str, iT_list, iT_tup, iS_none, iS_bool, iS_int, iS_str, iS_list, iS_tup, iI_none, iI_bool, iI_int, iI_str, iI_list, iI_tup, iB_none, iB_bool, iB_int, iB_str, iB_list, iB_tup, Bool.false_eq_true, reduceCtorEq, Bool.not_true, Bool.not_false, decide_true, decide_false, List.zip_cons_cons, List.zip_nil_left, List.foldl_cons, List.foldl_nil, and_self, and_true, true_and, Bool.and_true, Bool.true_and, Bool.or_true, Bool.true_or, *])
theorem idx_of {r : List Str} (nd : r.Nodup) {i : Nat} (hi : i < r.length) : r.idxOf r[i] = i := nd.idxOf_getElem i hi
end DL
set_option maxRecDepth 100000
set_option maxHeartbeats 400000
namespace DL
open PySem L2
variable [HW]
local macro_rules | `(tactic| walk_at "dl") => `(tactic| simp (config := { dsimp := false }) only [↓fnM_e, ↓sSeq_e, seqK_nx, seqK_rt, seqK_bk, seqK_ct, retK_rt, retK_nx, ↓sFrz_e, frK_some, ↓sAsg, ↓sRet, ↓sRetN, ↓sIf, ↓sExpr, ↓sSkip, ↓sNever, ↓sPar, ↓sFor, ↓sSub, ↓fVar, ↓fC, ↓fNil, ↓fCons, ↓fA, ↓f1, ↓f2, ↓fB, ↓fIf, ↓fNeg, ↓fNot, ↓fAnd, ↓fOr, ↓bNot, ↓bAnd, ↓bOr, ↓bYes, ↓obnd_x, ob_some, ↓sbnd_x, sb_some, ↓ite_x, iteK_t, iteK_f, gN, gT, gC, gE, ↓rng1I, ↓rng2I, ↓seqI, ↓enumA, ↓zipI, ↓strI, ↓fLc, ↓fDc, ↓fM, ↓fSl, ↓oNone, ↓oSome, ↓fRev, wipeE, ↓kwM, permM, permL, List.foldr, List.length_cons, List.length_nil, List.map_cons, List.map_nil, List.cons_append, List.nil_append, List.replicate, List.replicate_succ, List.replicate_zero, List.getElem?_cons_zero, List.getElem?_cons_succ, List.set_cons_zero, List.set_cons_succ, if_true, if_false, reduceIte, Nat.reduceAdd, Nat.reduceSub, Nat.reduceEqDiff, Nat.reduceLT, Nat.reduceLeDiff, Int.reduceLT, Int.reduceLE, Int.reduceNeg, Int.reduceMul, Int.reduceAdd, Int.reduceSub, Int.reduceToNat, Int.reducePow, Int.reduceEq, ok, bok, deref, mkL, lstW, tupW, dats, Option.map_some, appendW, insertW, setL, isL, listW, tupleW, lenW, absW, intC, maxW, minW, idxW, addW, subW_e, modW_e, divW_e, powW_e, mulW, intW, lt_e, gt_e, le_e, ge_e, ltW, allW_e, anyW_e, sumW_e, lW, setW, lstAt, cutW, backW, isW, isiW, iLT_none, iLT_bool, iLT_int, iLT_str, iLT_list, iLT_tup, iL_none, iL_bool, iL_int, iL_str, iL_list, iL_tup, iT_none, iT_bool, iT_int, iT_str, iT_list, iT_tup, iS_none, iS_bool, iS_int, iS_str, iS_list, iS_tup, iI_none, iI_bool, iI_int, iI_str, iI_list, iI_tup, iB_none, iB_bool, iB_int, iB_str, iB_list, iB_tup, Bool.false_eq_true, reduceCtorEq, Bool.not_true, Bool.not_false, decide_true, decide_false, List.zip_cons_cons, List.zip_nil_left, List.foldl_cons, List.foldl_nil, and_self, and_true, true_and, Bool.and_true, Bool.true_and, Bool.or_true, Bool.true_or, *])
def Pre (h0 h : Hh) : Prop := ∀ i : Nat, i < h0.length → h[i]? = h0[i]?
theorem Pre.only {h0 h h' : Hh} {b : Nat} (p : Pre h0 h) (hb : h0.length ≤ b) (o : Only b h h') : Pre h0 h' := fun i hi => (o.off i (by omega)).trans (p i hi)
theorem Pre.app {h0 h l : Hh} (p : Pre h0 h) (hl : h0.length ≤ h.length) : Pre h0 (h ++ l) := fun i hi => by
  rw [List.getElem?_append_left (by omega)]; exact p i hi
theorem Pre.take {h0 h : Hh} (p : Pre h0 h) (hl : h0.length ≤ h.length) : h.take h0.length = h0 := by
  apply List.ext_getElem?
  intro i
  by_cases hi : i < h0.length
  · rw [List.getElem?_take_of_lt hi]; exact p i hi
  · rw [List.getElem?_eq_none (by rw [List.length_take]; omega), List.getElem?_eq_none (by omega)]
end DL
set_option maxRecDepth 100000
set_option maxHeartbeats 400000
namespace DL
open PySem L2
variable [HW]
local macro_rules | `(tactic| walk_at "dl") => `(tactic| simp (config := { dsimp := false }) only [↓fnM_e, ↓sSeq_e, seqK_nx, seqK_rt, seqK_bk, seqK_ct, retK_rt, retK_nx, ↓sFrz_e, frK_some, ↓sAsg, ↓sRet, ↓sRetN, ↓sIf, ↓sExpr, ↓sSkip, ↓sNever, ↓sPar, ↓sFor, ↓sSub, ↓fVar, ↓fC, ↓fNil, ↓fCons, ↓fA, ↓f1, ↓f2, ↓fB, ↓fIf, ↓fNeg, ↓fNot, ↓fAnd, ↓fOr, ↓bNot, ↓bAnd, ↓bOr, ↓bYes, ↓obnd_x, ob_some, ↓sbnd_x, sb_some, ↓ite_x, iteK_t, iteK_f, gN, gT, gC, gE, ↓rng1I, ↓rng2I, ↓seqI, ↓enumA, ↓zipI, ↓strI, ↓fLc, ↓fDc, ↓fM, ↓fSl, ↓oNone, ↓oSome, ↓fRev, wipeE, ↓kwM, permM, permL, List.foldr, List.length_cons, List.length_nil, List.map_cons, List.map_nil, List.cons_append, List.nil_append, List.replicate, List.replicate_succ, List.replicate_zero, List.getElem?_cons_zero, List.getElem?_cons_succ, List.set_cons_zero, List.set_cons_succ, if_true, if_false, reduceIte, Nat.reduceAdd, Nat.reduceSub, Nat.reduceEqDiff, Nat.reduceLT, Nat.reduceLeDiff, Int.reduceLT, Int.reduceLE, Int.reduceNeg, Int.reduceMul, Int.reduceAdd, Int.reduceSub, Int.reduceToNat, Int.reducePow, Int.reduceEq, ok, bok, deref, mkL, lstW, tupW, dats, Option.map_some, appendW, insertW, setL, isL, listW, tupleW, lenW, absW, intC, maxW, minW, idxW, addW, subW_e, modW_e, divW_e, powW_e, mulW, intW, lt_e, gt_e, le_e, ge_e, ltW, allW_e, anyW_e, sumW_e, lW, setW, lstAt, cutW, backW, isW, isiW, iLT_none, iLT_bool, iLT_int, iLT_str, iLT_list, iLT_tup, iL_none, iL_bool, iL_int, iL_str, iL_list, iL_tup, iT_none, iT_bool, iT_int, iT_str, iT_list, iT_tup, iS_none, iS_bool, iS_int, iS_str, iS_list, iS_tup, iI_none, iI_bool, iI_int, iI_str, iI_list, iI_tup, iB_none, iB_bool, iB_int, iB_str, iB_list, iB_tup, Bool.false_eq_true, reduceCtorEq, Bool.not_true, Bool.not_false, decide_true, decide_false, List.zip_cons_cons, List.zip_nil_left, List.foldl_cons, List.foldl_nil, and_self, and_true, true_and, Bool.and_true, Bool.true_and, Bool.or_true, Bool.true_or, *])
def prW (l : Bool) (p : Str × Str) : D := if l = true then .list [.str p.1, .str p.2] else .tuple [.str p.1, .str p.2]
abbrev prT (p : Str × Str) : D := .tuple [.str p.1, .str p.2]
def tld (ps : List (Str × Str)) : List (Str × D) := ps.map fun p => (p.1, .str p.2)
theorem tld_keys (ps : List (Str × Str)) : (tld ps).map (·.1) = ps.map (·.1) := by simp [tld]
def unP : D → Str × D
  | .tuple [.str a, d] => (a, d)
  | .list [.str a, d] => (a, d)
  | _ => ("", .none)
theorem unP_map (l : Bool) (ps : List (Str × Str)) : (ps.map (prW l)).map unP = tld ps := by
  rw [List.map_map]
  unfold tld
  apply List.map_congr_left
  intro p _
  cases l <;> rfl
theorem by_names_ok {x : D} {l : Bool} {ps : List (Str × Str)} {h : Hh} (hx : IsSeq x (ps.map (prW l))) (nd : (ps.map (·.1)).Nodup) (hl : ps.length ≤ 1000) : m_by_names [.dat x] h = some (.dat (.dict (sdic (tld ps))), h) := by
  have e := dcL_sdic (k := gT 2 (gC (gN 1) (gC (gN 2) gE))) (fk := fVar 1) (fv := fVar 2) (ρ := [some (.dat x), none, none]) (h := h) unP (ds := ps.map (prW l)) (l := []) (by rw [List.nil_append, unP_map, tld_keys]; exact nd)
    (by rw [List.nil_append, List.length_map, List.length_map]; exact Nat.le_trans hl (by decide)) (by
      intro d hd
      obtain ⟨p, _, rfl⟩ := List.mem_map.mp hd
      refine ⟨[some (.dat x), some (.dat (.str p.1)), some (.dat (.str p.2))], ?_, ?_, ?_⟩
      · clear hx hd
        cases l <;> (unfold prW; walk_at "dl")
      · cases l <;> rfl
      · cases l <;> rfl)
  rw [List.nil_append, unP_map] at e
  have e' : dcL (gT 2 (gC (gN 1) (gC (gN 2) gE))) bYes (fVar 1) (fVar 2) [some (.dat x), none, none] (ps.map (prW l)) [] h = some (sdic (tld ps), h) := e
  have lv := leave_same' (h := h) (d := .dict (sdic (tld ps)))
  unfold m_by_names
  clear nd hl e
  rcases hx with rfl | rfl <;> (walk_at "dl"; simp only [mkK, Bool.false_eq_true, if_false, obnd_some, retK_rt]; walk_at "dl")
theorem people_ok {x : D} {l : Bool} {ps : List (Str × Str)} {h : Hh} (hx : IsSeq x (ps.map (prW l))) (hl : ps.length ≤ 1000) : m_people [.dat x] h = some (.dat (.tuple ((ps.map (·.1)).map .str)), h) := by
  have e : lcL (gT 2 (gC (gN 1) (gC (gN 2) gE))) bYes (fVar 1) [some (.dat x), none, none] (ps.map (prW l)) h = some ((ps.map (·.1)).map .str, h) := by
    rw [lcL_all (fun d => .str (unP d).1)]
    · rw [List.map_map, List.map_map]
      congr 2
      apply List.map_congr_left
      intro p _
      cases l <;> rfl
    · intro d hd
      obtain ⟨p, _, rfl⟩ := List.mem_map.mp hd
      refine ⟨[some (.dat x), some (.dat (.str p.1)), some (.dat (.str p.2))], ?_, rfl, ?_⟩
      · clear hx hd
        cases l <;> (unfold prW; walk_at "dl")
      · cases l <;> rfl
  have l1 : ((ps.map (·.1)).map PyData.str).length ≤ sizeLine := by rw [List.length_map, List.length_map]; exact Nat.le_trans hl (by decide)
  have lv := leave_same' (h := h) (d := .tuple ((ps.map (·.1)).map .str))
  unfold m_people
  clear hl
  rcases hx with rfl | rfl <;> walk_at "dl"
end DL
set_option maxRecDepth 100000
set_option maxHeartbeats 400000
namespace DL
open PySem L2
variable [HW]
local macro_rules | `(tactic| walk_at "dl") => `(tactic| simp (config := { dsimp := false }) only [↓fnM_e, ↓sSeq_e, seqK_nx, seqK_rt, seqK_bk, seqK_ct, retK_rt, retK_nx, ↓sFrz_e, frK_some, ↓sAsg, ↓sRet, ↓sRetN, ↓sIf, ↓sExpr, ↓sSkip, ↓sNever, ↓sPar, ↓sFor, ↓sSub, ↓fVar, ↓fC, ↓fNil, ↓fCons, ↓fA, ↓f1, ↓f2, ↓fB, ↓fIf, ↓fNeg, ↓fNot, ↓fAnd, ↓fOr, ↓bNot, ↓bAnd, ↓bOr, ↓bYes, ↓obnd_x, ob_some, ↓sbnd_x, sb_some, ↓ite_x, iteK_t, iteK_f, gN, gT, gC, gE, ↓rng1I, ↓rng2I, ↓seqI, ↓enumA, ↓zipI, ↓strI, ↓fLc, ↓fDc, ↓fM, ↓fSl, ↓oNone, ↓oSome, ↓fRev, wipeE, ↓kwM, permM, permL, List.foldr, List.length_cons, List.length_nil, List.map_cons, List.map_nil, List.cons_append, List.nil_append, List.replicate, List.replicate_succ, List.replicate_zero, List.getElem?_cons_zero, List.getElem?_cons_succ, List.set_cons_zero, List.set_cons_succ, if_true, if_false, reduceIte, Nat.reduceAdd, Nat.reduceSub, Nat.reduceEqDiff, Nat.reduceLT, Nat.reduceLeDiff, Int.reduceLT, Int.reduceLE, Int.reduceNeg, Int.reduceMul, Int.reduceAdd, Int.reduceSub, Int.reduceToNat, Int.reducePow, Int.reduceEq, ok, bok, deref, mkL, lstW, tupW, dats, Option.map_some, appendW, insertW, setL, isL, listW, tupleW, lenW, absW, intC, maxW, minW, idxW, addW, subW_e, modW_e, divW_e, powW_e, mulW, intW, lt_e, gt_e, le_e, ge_e, ltW, allW_e, anyW_e, sumW_e, lW, setW, lstAt, cutW, backW, isW, isiW, iLT_none, iLT_bool, iLT_int, iLT_str, iLT_list, iLT_tup, iL_none, iL_bool, iL_int, iL_str, iL_list, iL_tup, iT_none, iT_bool, iT_int, iT_str, iT_list, iT_tup, iS_none, iS_bool, iS_int, iS_str, iS_list, iS_tup, iI_none, iI_bool, iI_int, iI_str, iI_list, iI_tup, iB_none, iB_bool, iB_int, iB_str, iB_list, iB_tup, Bool.false_eq_true, reduceCtorEq, Bool.not_true, Bool.not_false, decide_true, decide_false, List.zip_cons_cons, List.zip_nil_left, List.foldl_cons, List.foldl_nil, and_self, and_true, true_and, Bool.and_true, Bool.true_and, Bool.or_true, Bool.true_or, *])
def goal (ps : List (Str × Str)) (s : Str) : Str := (ps.lookup s).getD s
def keyN (r : List Str) (ps : List (Str × Str)) (s : Str) : Nat × Nat := (r.idxOf (goal ps s), r.idxOf s)
def leK (a b : Nat × Nat) : Bool := decide (a.1 < b.1 ∨ (a.1 = b.1 ∧ a.2 ≤ b.2))
def led (r : List Str) (ps : List (Str × Str)) : List Str := r.mergeSort fun a b => leK (keyN r ps a) (keyN r ps b)
theorem leK_trans (a b c : Nat × Nat) (h1 : leK a b = true) (h2 : leK b c = true) : leK a c = true := by
  unfold leK at *
  simp only [decide_eq_true_eq] at *
  omega
theorem leK_total (a b : Nat × Nat) : (leK a b || leK b a) = true := by
  unfold leK
  simp only [Bool.or_eq_true, decide_eq_true_eq]
  omega
theorem led_perm (r : List Str) (ps : List (Str × Str)) : (led r ps).Perm r := List.mergeSort_perm _ _
theorem led_pw (r : List Str) (ps : List (Str × Str)) : (led r ps).Pairwise fun a b => leK (keyN r ps a) (keyN r ps b) = true :=
  List.pairwise_mergeSort (le := fun a b => leK (keyN r ps a) (keyN r ps b)) (fun a b c => leK_trans _ _ _) (fun a b => leK_total _ _) r
structure CallOf (r : List Str) (ps : List (Str × Str)) : Prop where
  perm : (ps.map (·.1)).Perm r
  tgt : ∀ p ∈ ps, p.2 ∈ r
theorem CallOf.nodup {r : List Str} {ps : List (Str × Str)} (c : CallOf r ps) (nd : r.Nodup) : (ps.map (·.1)).Nodup := c.perm.nodup_iff.mpr nd
theorem CallOf.of_perm {r r' : List Str} {ps : List (Str × Str)} (c : CallOf r ps) (p : r.Perm r') : CallOf r' ps := ⟨c.perm.trans p, fun q hq => p.mem_iff.mp (c.tgt q hq)⟩
theorem look_tld : ∀ (ps : List (Str × Str)) (s : Str), (tld ps).lookup s = (ps.lookup s).map .str
  | [], s => rfl
  | (a, b) :: ps, s => by
    have ih := look_tld ps s
    unfold tld at ih ⊢
    rw [List.map_cons, List.lookup_cons, List.lookup_cons]
    cases s == a with
    | true => rfl
    | false => exact ih
theorem look_mem : ∀ {ps : List (Str × Str)} {s : Str}, s ∈ ps.map (·.1) → ∃ t, ps.lookup s = some t ∧ (s, t) ∈ ps
  | [], s, h => by cases h
  | (a, b) :: ps, s, h => by
    rw [List.lookup_cons]
    cases e : s == a with
    | true =>
      have : s = a := by simpa using e
      subst this
      exact ⟨b, rfl, List.mem_cons_self⟩
    | false =>
      have hne : s ≠ a := by simpa using e
      rw [List.map_cons] at h
      rcases List.mem_cons.mp h with z | h
      · exact absurd z hne
      · obtain ⟨t, h1, h2⟩ := look_mem h
        exact ⟨t, h1, List.mem_cons_of_mem _ h2⟩
theorem CallOf.goal_mem {r : List Str} {ps : List (Str × Str)} (c : CallOf r ps) {s : Str} (hs : s ∈ r) : ps.lookup s = some (goal ps s) ∧ goal ps s ∈ r := by
  obtain ⟨t, h1, h2⟩ := look_mem (c.perm.mem_iff.mpr hs)
  have e : goal ps s = t := by unfold goal; rw [h1]; rfl
  rw [e]
  exact ⟨h1, c.tgt _ h2⟩
end DL
set_option maxRecDepth 100000
set_option maxHeartbeats 400000
namespace DL
open PySem L2
variable [HW]
local macro_rules | `(tactic| walk_at "dl") => `(tactic| simp (config := { dsimp := false }) only [↓fnM_e, ↓sSeq_e, seqK_nx, seqK_rt, seqK_bk, seqK_ct, retK_rt, retK_nx, ↓sFrz_e, frK_some, ↓sAsg, ↓sRet, ↓sRetN, ↓sIf, ↓sExpr, ↓sSkip, ↓sNever, ↓sPar, ↓sFor, ↓sSub, ↓fVar, ↓fC, ↓fNil, ↓fCons, ↓fA, ↓f1, ↓f2, ↓fB, ↓fIf, ↓fNeg, ↓fNot, ↓fAnd, ↓fOr, ↓bNot, ↓bAnd, ↓bOr, ↓bYes, ↓obnd_x, ob_some, ↓sbnd_x, sb_some, ↓ite_x, iteK_t, iteK_f, gN, gT, gC, gE, ↓rng1I, ↓rng2I, ↓seqI, ↓enumA, ↓zipI, ↓strI, ↓fLc, ↓fDc, ↓fM, ↓fSl, ↓oNone, ↓oSome, ↓fRev, wipeE, ↓kwM, permM, permL, List.foldr, List.length_cons, List.length_nil, List.map_cons, List.map_nil, List.cons_append, List.nil_append, List.replicate, List.replicate_succ, List.replicate_zero, List.getElem?_cons_zero, List.getElem?_cons_succ, List.set_cons_zero, List.set_cons_succ, if_true, if_false, reduceIte, Nat.reduceAdd, Nat.reduceSub, Nat.reduceEqDiff, Nat.reduceLT, Nat.reduceLeDiff, Int.reduceLT, Int.reduceLE, Int.reduceNeg, Int.reduceMul, Int.reduceAdd, Int.reduceSub, Int.reduceToNat, Int.reducePow, Int.reduceEq, ok, bok, deref, mkL, lstW, tupW, dats, Option.map_some, appendW, insertW, setL, isL, listW, tupleW, lenW, absW, intC, maxW, minW, idxW, addW, subW_e, modW_e, divW_e, powW_e, mulW, intW, lt_e, gt_e, le_e, ge_e, ltW, allW_e, anyW_e, sumW_e, lW, setW, lstAt, cutW, backW, isW, isiW, iLT_none, iLT_bool, iLT_int, iLT_str, iLT_list, iLT_tup, iL_none, iL_bool, iL_int, iL_str, iL_list, iL_tup, iT_none, iT_bool, iT_int, iT_str, iT_list, iT_tup, iS_none, iS_bool, iS_int, iS_str, iS_list, iS_tup, iI_none, iI_bool, iI_int, iI_str, iI_list, iI_tup, iB_none, iB_bool, iB_int, iB_str, iB_list, iB_tup, Bool.false_eq_true, reduceCtorEq, Bool.not_true, Bool.not_false, decide_true, decide_false, List.zip_cons_cons, List.zip_nil_left, List.foldl_cons, List.foldl_nil, and_self, and_true, true_and, Bool.and_true, Bool.true_and, Bool.or_true, Bool.true_or, *])
theorem prW_false : prW false = prT := by funext p; rfl
end DL
set_option maxRecDepth 100000
set_option maxHeartbeats 400000
namespace DL
open PySem L2
variable [HW]
local macro_rules | `(tactic| walk_at "dl") => `(tactic| simp (config := { dsimp := false }) only [↓fnM_e, ↓sSeq_e, seqK_nx, seqK_rt, seqK_bk, seqK_ct, retK_rt, retK_nx, ↓sFrz_e, frK_some, ↓sAsg, ↓sRet, ↓sRetN, ↓sIf, ↓sExpr, ↓sSkip, ↓sNever, ↓sPar, ↓sFor, ↓sSub, ↓fVar, ↓fC, ↓fNil, ↓fCons, ↓fA, ↓f1, ↓f2, ↓fB, ↓fIf, ↓fNeg, ↓fNot, ↓fAnd, ↓fOr, ↓bNot, ↓bAnd, ↓bOr, ↓bYes, ↓obnd_x, ob_some, ↓sbnd_x, sb_some, ↓ite_x, iteK_t, iteK_f, gN, gT, gC, gE, ↓rng1I, ↓rng2I, ↓seqI, ↓enumA, ↓zipI, ↓strI, ↓fLc, ↓fDc, ↓fM, ↓fSl, ↓oNone, ↓oSome, ↓fRev, wipeE, ↓kwM, permM, permL, List.foldr, List.length_cons, List.length_nil, List.map_cons, List.map_nil, List.cons_append, List.nil_append, List.replicate, List.replicate_succ, List.replicate_zero, List.getElem?_cons_zero, List.getElem?_cons_succ, List.set_cons_zero, List.set_cons_succ, if_true, if_false, reduceIte, Nat.reduceAdd, Nat.reduceSub, Nat.reduceEqDiff, Nat.reduceLT, Nat.reduceLeDiff, Int.reduceLT, Int.reduceLE, Int.reduceNeg, Int.reduceMul, Int.reduceAdd, Int.reduceSub, Int.reduceToNat, Int.reducePow, Int.reduceEq, ok, bok, deref, mkL, lstW, tupW, dats, Option.map_some, appendW, insertW, setL, isL, listW, tupleW, lenW, absW, intC, maxW, minW, idxW, addW, subW_e, modW_e, divW_e, powW_e, mulW, intW, lt_e, gt_e, le_e, ge_e, ltW, allW_e, anyW_e, sumW_e, lW, setW, lstAt, cutW, backW, isW, isiW, iLT_none, iLT_bool, iLT_int, iLT_str, iLT_list, iLT_tup, iL_none, iL_bool, iL_int, iL_str, iL_list, iL_tup, iT_none, iT_bool, iT_int, iT_str, iT_list, iT_tup, iS_none, iS_bool, iS_int, iS_str, iS_list, iS_tup, iI_none, iI_bool, iI_int, iI_str, iI_list, iI_tup, iB_none, iB_bool, iB_int, iB_str, iB_list, iB_tup, Bool.false_eq_true, reduceCtorEq, Bool.not_true, Bool.not_false, decide_true, decide_false, List.zip_cons_cons, List.zip_nil_left, List.foldl_cons, List.foldl_nil, and_self, and_true, true_and, Bool.and_true, Bool.true_and, Bool.or_true, Bool.true_or, *])
theorem eqW_ints {neg : Bool} {i j : Int} {h : Hh} : eqW neg (.dat (.int i)) (.dat (.int j)) h = bok (if neg = true then !decide (i = j) else decide (i = j)) h := by
  rfl
theorem cut_to {α : Type} (xs : List α) {k : Nat} : cutG xs none (some (k : Int)) = xs.take k := by
  have e : HT.sIx xs.length xs.length (some (k : Int)) = min k xs.length := HT.sIx_nat _ _ _
  have e0 : HT.sIx xs.length 0 none = 0 := rfl
  unfold cutG
  rw [e, e0]
  simp only [List.drop_zero, Nat.sub_zero]
  rw [List.take_eq_take_iff]
  omega
end DL
set_option maxRecDepth 100000
set_option maxHeartbeats 400000
namespace DL
open PySem L2
variable [HW]
local macro_rules | `(tactic| walk_at "dl") => `(tactic| simp (config := { dsimp := false }) only [↓fnM_e, ↓sSeq_e, seqK_nx, seqK_rt, seqK_bk, seqK_ct, retK_rt, retK_nx, ↓sFrz_e, frK_some, ↓sAsg, ↓sRet, ↓sRetN, ↓sIf, ↓sExpr, ↓sSkip, ↓sNever, ↓sPar, ↓sFor, ↓sSub, ↓fVar, ↓fC, ↓fNil, ↓fCons, ↓fA, ↓f1, ↓f2, ↓fB, ↓fIf, ↓fNeg, ↓fNot, ↓fAnd, ↓fOr, ↓bNot, ↓bAnd, ↓bOr, ↓bYes, ↓obnd_x, ob_some, ↓sbnd_x, sb_some, ↓ite_x, iteK_t, iteK_f, gN, gT, gC, gE, ↓rng1I, ↓rng2I, ↓seqI, ↓enumA, ↓zipI, ↓strI, ↓fLc, ↓fDc, ↓fM, ↓fSl, ↓oNone, ↓oSome, ↓fRev, wipeE, ↓kwM, permM, permL, List.foldr, List.length_cons, List.length_nil, List.map_cons, List.map_nil, List.cons_append, List.nil_append, List.replicate, List.replicate_succ, List.replicate_zero, List.getElem?_cons_zero, List.getElem?_cons_succ, List.set_cons_zero, List.set_cons_succ, if_true, if_false, reduceIte, Nat.reduceAdd, Nat.reduceSub, Nat.reduceEqDiff, Nat.reduceLT, Nat.reduceLeDiff, Int.reduceLT, Int.reduceLE, Int.reduceNeg, Int.reduceMul, Int.reduceAdd, Int.reduceSub, Int.reduceToNat, Int.reducePow, Int.reduceEq, ok, bok, deref, mkL, lstW, tupW, dats, Option.map_some, appendW, insertW, setL, isL, listW, tupleW, lenW, absW, intC, maxW, minW, idxW, addW, subW_e, modW_e, divW_e, powW_e, mulW, intW, lt_e, gt_e, le_e, ge_e, ltW, allW_e, anyW_e, sumW_e, lW, setW, lstAt, cutW, backW, isW, isiW, iLT_none, iLT_bool, iLT_int, iLT_str, iLT_list, iLT_tup, iL_none, iL_bool, iL_int, iL_str, iL_list, iL_tup, iT_none, iT_bool, iT_int, iT_str, iT_list, iT_tup, iS_none, iS_bool, iS_int, iS_str, iS_list, iS_tup, iI_none, iI_bool, iI_int, iI_str, iI_list, iI_tup, iB_none, iB_bool, iB_int, iB_str, iB_list, iB_tup, Bool.false_eq_true, reduceCtorEq, Bool.not_true, Bool.not_false, decide_true, decide_false, List.zip_cons_cons, List.zip_nil_left, List.foldl_cons, List.foldl_nil, and_self, and_true, true_and, Bool.and_true, Bool.true_and, Bool.or_true, Bool.true_or, *])
theorem enum_get {r : List Str} {j : Nat} {d : D} (e : (enumD 0 (r.map .str))[j]? = some d) : ∃ hj : j < r.length, d = .tuple [.int (j : Int), .str r[j]] := by
  obtain ⟨s, hs, rfl⟩ := enumD_get e
  rw [List.getElem?_map] at hs
  cases q : r[j]? with
  | none => rw [q] at hs; cases hs
  | some t =>
    rw [q] at hs
    obtain ⟨hj, rfl⟩ := List.getElem?_eq_some_iff.mp q
    cases hs
    exact ⟨hj, by rw [Nat.zero_add]⟩
theorem atI_strs {l : List Str} {j : Nat} (hj : j < l.length) : L2.atI (l.map PyData.str) (j : Int) = some (.str l[j]) :=
  atI_nat (xs := l.map PyData.str) (j := j) (by rw [List.getElem?_map, List.getElem?_eq_getElem hj]; rfl)
theorem app_take {g : Hh} {o : Option MO} {n : Nat} (e : g.length = n) : (g ++ [o]).take n = g := by
  rw [← e, List.take_append_of_le_length (Nat.le_refl _), List.take_length]
theorem app_get {g : Hh} {o : Option MO} {n : Nat} (e : g.length = n) : (g ++ [o])[n]? = some o := by
  rw [List.getElem?_append_right (by omega), e]; simp
theorem app_set {g : Hh} {o o' : Option MO} {n : Nat} (e : g.length = n) : (g ++ [o]).set n o' = g ++ [o'] := by
  rw [List.set_append_right _ _ (by omega), show n - g.length = 0 by omega]; rfl
end DL
set_option maxRecDepth 100000
set_option maxHeartbeats 400000
namespace DL
open PySem L2
variable [HW]
local macro_rules | `(tactic| walk_at "dl") => `(tactic| simp (config := { dsimp := false }) only [↓fnM_e, ↓sSeq_e, seqK_nx, seqK_rt, seqK_bk, seqK_ct, retK_rt, retK_nx, ↓sFrz_e, frK_some, ↓sAsg, ↓sRet, ↓sRetN, ↓sIf, ↓sExpr, ↓sSkip, ↓sNever, ↓sPar, ↓sFor, ↓sSub, ↓fVar, ↓fC, ↓fNil, ↓fCons, ↓fA, ↓f1, ↓f2, ↓fB, ↓fIf, ↓fNeg, ↓fNot, ↓fAnd, ↓fOr, ↓bNot, ↓bAnd, ↓bOr, ↓bYes, ↓obnd_x, ob_some, ↓sbnd_x, sb_some, ↓ite_x, iteK_t, iteK_f, gN, gT, gC, gE, ↓rng1I, ↓rng2I, ↓seqI, ↓enumA, ↓zipI, ↓strI, ↓fLc, ↓fDc, ↓fM, ↓fSl, ↓oNone, ↓oSome, ↓fRev, wipeE, ↓kwM, permM, permL, List.foldr, List.length_cons, List.length_nil, List.map_cons, List.map_nil, List.cons_append, List.nil_append, List.replicate, List.replicate_succ, List.replicate_zero, List.getElem?_cons_zero, List.getElem?_cons_succ, List.set_cons_zero, List.set_cons_succ, if_true, if_false, reduceIte, Nat.reduceAdd, Nat.reduceSub, Nat.reduceEqDiff, Nat.reduceLT, Nat.reduceLeDiff, Int.reduceLT, Int.reduceLE, Int.reduceNeg, Int.reduceMul, Int.reduceAdd, Int.reduceSub, Int.reduceToNat, Int.reducePow, Int.reduceEq, ok, bok, deref, mkL, lstW, tupW, dats, Option.map_some, appendW, insertW, setL, isL, listW, tupleW, lenW, absW, intC, maxW, minW, idxW, addW, subW_e, modW_e, divW_e, powW_e, mulW, intW, lt_e, gt_e, le_e, ge_e, ltW, allW_e, anyW_e, sumW_e, lW, setW, lstAt, cutW, backW, isW, isiW, iLT_none, iLT_bool, iLT_int, iLT_str, iLT_list, iLT_tup, iL_none, iL_bool, iL_int, iL_str, iL_list, iL_tup, iT_none, iT_bool, iT_int, iT_str, iT_list, iT_tup, iS_none, iS_bool, iS_int, iS_str, iS_list, iS_tup, iI_none, iI_bool, iI_int, iI_str, iI_list, iI_tup, iB_none, iB_bool, iB_int, iB_str, iB_list, iB_tup, Bool.false_eq_true, reduceCtorEq, Bool.not_true, Bool.not_false, decide_true, decide_false, List.zip_cons_cons, List.zip_nil_left, List.foldl_cons, List.foldl_nil, and_self, and_true, true_and, Bool.and_true, Bool.true_and, Bool.or_true, Bool.true_or, *])
def NameOk (s : Str) : Prop := 1 ≤ s.length ∧ s.length ≤ 6 ∧ ∀ c ∈ s.cps.toList, 97 ≤ c ∧ c ≤ 122
theorem nm_name {st sp a : Nat} : NameOk (nm st sp a) := by
  refine ⟨?_, ?_, fun c hc => ?_⟩
  · unfold nm
    rw [len_app]
    show 1 ≤ 1 + _
    omega
  · unfold nm
    rw [len_app]
    have := sfx_le (a % 2 * (1 + st % 2))
    show 1 + _ ≤ _
    omega
  · rw [nm_cps] at hc
    rcases List.mem_cons.mp hc with rfl | hc
    · omega
    · generalize a % 2 * (1 + st % 2) = k at hc
      match k, hc with
      | 0, hc => rw [sfx_len.1] at hc; cases hc
      | 1, hc => rw [sfx_len.2.1] at hc; simp at hc; omega
      | _ + 2, hc =>
        have hc' : c ∈ (sfx 2).cps.toList := hc
        rw [sfx_len.2.2] at hc'; simp at hc'; omega
theorem Crew.names {most : Nat} {rs : List Str} (h : Crew most rs) : ∀ s ∈ rs, NameOk s := fun s hs => by
  obtain ⟨st, sp, a, _, _, rfl⟩ := h.nam s hs
  exact nm_name
end DL
set_option maxRecDepth 100000
set_option maxHeartbeats 400000
namespace DL
open PySem L2
variable [HW]
abbrev TxtP (ps : List (Str × Str)) : Prop := ∀ p ∈ ps, TxtOk p.1 ∧ TxtOk p.2
theorem CallOf.txts {r : List Str} {ps : List (Str × Str)} (c : CallOf r ps) (ht : Txts r) : TxtP ps := fun p hp =>
  ⟨ht _ (c.perm.mem_iff.mp (List.mem_map.mpr ⟨p, hp, rfl⟩)), ht _ (c.tgt p hp)⟩
theorem prTx_pairs : ∀ ps : List (Str × Str), prTx (ps.map prT) = some ps
  | [] => rfl
  | p :: ps => by
    rw [List.map_cons]
    show (prTx (ps.map prT)).map ((p.1, p.2) :: ·) = _
    rw [prTx_pairs ps]; rfl
theorem callD_pairs {ps : List (Str × Str)} (h0 : 0 < ps.length) (nd : (ps.map (·.1)).Nodup) : callD (ps.map prT) = true := by
  suffices e : pairD (ps.map prT) = true by
    unfold callD
    first | rw [e, Bool.true_or] | rw [e]
  unfold pairD
  rw [prTx_pairs]
  cases ps with
  | nil => simp at h0
  | cons p ps => simp only [List.isEmpty_cons, Bool.not_false, Bool.true_and, decide_eq_true_eq]; exact nd
theorem prs_tld (ps : List (Str × Str)) : ps.map prT = prs (tld ps) := by
  unfold prs tld
  rw [List.map_map]; rfl
theorem dict_call {ps : List (Str × Str)} {h : Hh} (h0 : 0 < ps.length) (nd : (ps.map (·.1)).Nodup) : dictA false [.dat (.tuple (ps.map prT))] h = some (.dat (.dict (sdic (tld ps))), h) := by
  have e := pairsK_prs (tld ps)
  have e2 := merge_sdic (tld ps) [] (by rw [List.nil_append, tld_keys]; exact nd)
  have e3 : mergeD [] ((tld ps).map fun p => (Sum.inr p.1, p.2)) = sdic (tld ps) := e2
  have ec := callD_pairs h0 nd
  unfold dictA
  simp only [deref, ec, if_true]
  rw [prs_tld, e]
  simp only [e3, mkK, Bool.false_eq_true, if_false]
end DL
set_option maxRecDepth 100000
set_option maxHeartbeats 400000
namespace DL
open PySem L2
variable [HW]
local macro_rules | `(tactic| walk_at "dl") => `(tactic| simp (config := { dsimp := false }) only [↓fnM_e, ↓sSeq_e, seqK_nx, seqK_rt, seqK_bk, seqK_ct, retK_rt, retK_nx, ↓sFrz_e, frK_some, ↓sAsg, ↓sRet, ↓sRetN, ↓sIf, ↓sExpr, ↓sSkip, ↓sNever, ↓sPar, ↓sFor, ↓sSub, ↓fVar, ↓fC, ↓fNil, ↓fCons, ↓fA, ↓f1, ↓f2, ↓fB, ↓fIf, ↓fNeg, ↓fNot, ↓fAnd, ↓fOr, ↓bNot, ↓bAnd, ↓bOr, ↓bYes, ↓obnd_x, ob_some, ↓sbnd_x, sb_some, ↓ite_x, iteK_t, iteK_f, gN, gT, gC, gE, ↓rng1I, ↓rng2I, ↓seqI, ↓enumA, ↓zipI, ↓strI, ↓fLc, ↓fDc, ↓fM, ↓fSl, ↓oNone, ↓oSome, ↓fRev, wipeE, ↓kwM, permM, permL, List.foldr, List.length_cons, List.length_nil, List.map_cons, List.map_nil, List.cons_append, List.nil_append, List.replicate, List.replicate_succ, List.replicate_zero, List.getElem?_cons_zero, List.getElem?_cons_succ, List.set_cons_zero, List.set_cons_succ, if_true, if_false, reduceIte, Nat.reduceAdd, Nat.reduceSub, Nat.reduceEqDiff, Nat.reduceLT, Nat.reduceLeDiff, Int.reduceLT, Int.reduceLE, Int.reduceNeg, Int.reduceMul, Int.reduceAdd, Int.reduceSub, Int.reduceToNat, Int.reducePow, Int.reduceEq, ok, bok, deref, mkL, lstW, tupW, dats, Option.map_some, appendW, insertW, setL, isL, listW, tupleW, lenW, absW, intC, maxW, minW, idxW, addW, subW_e, modW_e, divW_e, powW_e, mulW, intW, lt_e, gt_e, le_e, ge_e, ltW, allW_e, anyW_e, sumW_e, lW, setW, lstAt, cutW, backW, isW, isiW, iLT_none, iLT_bool, iLT_int, iLT_str, iLT_list, iLT_tup, iL_none, iL_bool, iL_int, iL_str, iL_list, iL_tup, iT_none, iT_bool, iT_int, iT_str, iT_list, iT_tup, iS_none, iS_bool, iS_int, iS_str, iS_list, iS_tup, iI_none, iI_bool, iI_int, iI_str, iI_list, iI_tup, iB_none, iB_bool, iB_int, iB_str, iB_list, iB_tup, Bool.false_eq_true, reduceCtorEq, Bool.not_true, Bool.not_false, decide_true, decide_false, List.zip_cons_cons, List.zip_nil_left, List.foldl_cons, List.foldl_nil, and_self, and_true, true_and, Bool.and_true, Bool.true_and, Bool.or_true, Bool.true_or, *])
theorem pw_idx {r : List Str} (nd : r.Nodup) : r.Pairwise fun a b => r.idxOf a < r.idxOf b := by
  rw [List.pairwise_iff_getElem]
  intro i j hi hj hij
  rw [idx_of nd hi, idx_of nd hj]
  exact hij
theorem led_nodup {r : List Str} (nd : r.Nodup) (ps : List (Str × Str)) : (led r ps).Nodup := (led_perm r ps).nodup_iff.mpr nd
end DL
set_option maxRecDepth 100000
set_option maxHeartbeats 400000
namespace DL
open PySem L2
variable [HW]
local macro_rules | `(tactic| walk_at "dl") => `(tactic| simp (config := { dsimp := false }) only [↓fnM_e, ↓sSeq_e, seqK_nx, seqK_rt, seqK_bk, seqK_ct, retK_rt, retK_nx, ↓sFrz_e, frK_some, ↓sAsg, ↓sRet, ↓sRetN, ↓sIf, ↓sExpr, ↓sSkip, ↓sNever, ↓sPar, ↓sFor, ↓sSub, ↓fVar, ↓fC, ↓fNil, ↓fCons, ↓fA, ↓f1, ↓f2, ↓fB, ↓fIf, ↓fNeg, ↓fNot, ↓fAnd, ↓fOr, ↓bNot, ↓bAnd, ↓bOr, ↓bYes, ↓obnd_x, ob_some, ↓sbnd_x, sb_some, ↓ite_x, iteK_t, iteK_f, gN, gT, gC, gE, ↓rng1I, ↓rng2I, ↓seqI, ↓enumA, ↓zipI, ↓strI, ↓fLc, ↓fDc, ↓fM, ↓fSl, ↓oNone, ↓oSome, ↓fRev, wipeE, ↓kwM, permM, permL, List.foldr, List.length_cons, List.length_nil, List.map_cons, List.map_nil, List.cons_append, List.nil_append, List.replicate, List.replicate_succ, List.replicate_zero, List.getElem?_cons_zero, List.getElem?_cons_succ, List.set_cons_zero, List.set_cons_succ, if_true, if_false, reduceIte, Nat.reduceAdd, Nat.reduceSub, Nat.reduceEqDiff, Nat.reduceLT, Nat.reduceLeDiff, Int.reduceLT, Int.reduceLE, Int.reduceNeg, Int.reduceMul, Int.reduceAdd, Int.reduceSub, Int.reduceToNat, Int.reducePow, Int.reduceEq, ok, bok, deref, mkL, lstW, tupW, dats, Option.map_some, appendW, insertW, setL, isL, listW, tupleW, lenW, absW, intC, maxW, minW, idxW, addW, subW_e, modW_e, divW_e, powW_e, mulW, intW, lt_e, gt_e, le_e, ge_e, ltW, allW_e, anyW_e, sumW_e, lW, setW, lstAt, cutW, backW, isW, isiW, iLT_none, iLT_bool, iLT_int, iLT_str, iLT_list, iLT_tup, iL_none, iL_bool, iL_int, iL_str, iL_list, iL_tup, iT_none, iT_bool, iT_int, iT_str, iT_list, iT_tup, iS_none, iS_bool, iS_int, iS_str, iS_list, iS_tup, iI_none, iI_bool, iI_int, iI_str, iI_list, iI_tup, iB_none, iB_bool, iB_int, iB_str, iB_list, iB_tup, Bool.false_eq_true, reduceCtorEq, Bool.not_true, Bool.not_false, decide_true, decide_false, List.zip_cons_cons, List.zip_nil_left, List.foldl_cons, List.foldl_nil, and_self, and_true, true_and, Bool.and_true, Bool.true_and, Bool.or_true, Bool.true_or, *])
structure Folk (most : Nat) (rs : List Str) : Prop where
  nd : rs.Nodup
  pos : 0 < rs.length
  le : rs.length ≤ most
  nam : ∀ s ∈ rs, NameOk s
theorem NameOk.txt {s : Str} (h : NameOk s) : TxtOk s := ⟨by have := h.2.1; omega, fun c hc => by have := h.2.2 c hc; omega⟩
theorem Folk.txts {n : Nat} {rs : List Str} (h : Folk n rs) : Txts rs := fun s hs => (h.nam s hs).txt
theorem Folk.perm {n : Nat} {rs ms : List Str} (h : Folk n rs) (p : ms.Perm rs) : Folk n ms := ⟨p.nodup_iff.mpr h.nd, by rw [p.length_eq]; exact h.pos, by rw [p.length_eq]; exact h.le, fun s hs => h.nam s (p.mem_iff.mp hs)⟩
abbrev qqq : Str := "qqq"
theorem qqq_cps : qqq.cps.toList = [113, 113, 113] := by decide +kernel
theorem qqq_nm {st sp a : Nat} : nm st sp a ≠ qqq := fun e => by
  have e' := congrArg (fun s : Str => s.cps.toList) e
  simp only [nm_cps, qqq_cps] at e'
  injection e' with _ e2
  generalize a % 2 * (1 + st % 2) = k at e2
  match k, e2 with
  | 0, e2 => rw [sfx_len.1] at e2; cases e2
  | 1, e2 => rw [sfx_len.2.1] at e2; simp at e2
  | _ + 2, e2 =>
    have e3 : (sfx 2).cps.toList = [113, 113] := e2
    rw [sfx_len.2.2] at e3; simp at e3
theorem qqq_len : qqq.length = 3 := by decide +kernel
theorem Crew.more {n : Nat} {rs : List Str} (h : Crew n rs) : Folk (n + 1) (rs ++ [qqq]) ∧ 2 ≤ (rs ++ [qqq]).length := by
  refine ⟨⟨?_, by simp, by simp; exact h.le, fun s hs => ?_⟩, by simp; exact h.pos⟩
  · rw [List.nodup_append]
    refine ⟨h.nd, by simp, fun a ha b hb e => ?_⟩
    rw [List.mem_singleton] at hb
    subst hb e
    obtain ⟨st, sp, x, _, _, e⟩ := h.nam _ ha
    exact qqq_nm e.symm
  · rcases List.mem_append.mp hs with hs | hs
    · exact h.names s hs
    · rw [List.mem_singleton] at hs
      subst hs
      refine ⟨by rw [qqq_len]; omega, by rw [qqq_len]; omega, fun c hc => ?_⟩
      rw [qqq_cps] at hc
      simp at hc
      omega
abbrev cT (ps : List (Str × Str)) : D := .tuple (ps.map prT)
abbrev Words (r : List Str) (ws : List (List (Str × Str))) : Prop := ∀ ps ∈ ws, CallOf r ps
theorem Words.perm {r r' : List Str} {ws : List (List (Str × Str))} (h : Words r ws) (p : r.Perm r') : Words r' ws := fun ps hp => (h ps hp).of_perm p
end DL
set_option maxRecDepth 100000
set_option maxHeartbeats 400000
namespace DL
open PySem L2
variable [HW]
local macro_rules | `(tactic| walk_at "dl") => `(tactic| simp (config := { dsimp := false }) only [↓fnM_e, ↓sSeq_e, seqK_nx, seqK_rt, seqK_bk, seqK_ct, retK_rt, retK_nx, ↓sFrz_e, frK_some, ↓sAsg, ↓sRet, ↓sRetN, ↓sIf, ↓sExpr, ↓sSkip, ↓sNever, ↓sPar, ↓sFor, ↓sSub, ↓fVar, ↓fC, ↓fNil, ↓fCons, ↓fA, ↓f1, ↓f2, ↓fB, ↓fIf, ↓fNeg, ↓fNot, ↓fAnd, ↓fOr, ↓bNot, ↓bAnd, ↓bOr, ↓bYes, ↓obnd_x, ob_some, ↓sbnd_x, sb_some, ↓ite_x, iteK_t, iteK_f, gN, gT, gC, gE, ↓rng1I, ↓rng2I, ↓seqI, ↓enumA, ↓zipI, ↓strI, ↓fLc, ↓fDc, ↓fM, ↓fSl, ↓oNone, ↓oSome, ↓fRev, wipeE, ↓kwM, permM, permL, List.foldr, List.length_cons, List.length_nil, List.map_cons, List.map_nil, List.cons_append, List.nil_append, List.replicate, List.replicate_succ, List.replicate_zero, List.getElem?_cons_zero, List.getElem?_cons_succ, List.set_cons_zero, List.set_cons_succ, if_true, if_false, reduceIte, Nat.reduceAdd, Nat.reduceSub, Nat.reduceEqDiff, Nat.reduceLT, Nat.reduceLeDiff, Int.reduceLT, Int.reduceLE, Int.reduceNeg, Int.reduceMul, Int.reduceAdd, Int.reduceSub, Int.reduceToNat, Int.reducePow, Int.reduceEq, ok, bok, deref, mkL, lstW, tupW, dats, Option.map_some, appendW, insertW, setL, isL, listW, tupleW, lenW, absW, intC, maxW, minW, idxW, addW, subW_e, modW_e, divW_e, powW_e, mulW, intW, lt_e, gt_e, le_e, ge_e, ltW, allW_e, anyW_e, sumW_e, lW, setW, lstAt, cutW, backW, isW, isiW, iLT_none, iLT_bool, iLT_int, iLT_str, iLT_list, iLT_tup, iL_none, iL_bool, iL_int, iL_str, iL_list, iL_tup, iT_none, iT_bool, iT_int, iT_str, iT_list, iT_tup, iS_none, iS_bool, iS_int, iS_str, iS_list, iS_tup, iI_none, iI_bool, iI_int, iI_str, iI_list, iI_tup, iB_none, iB_bool, iB_int, iB_str, iB_list, iB_tup, Bool.false_eq_true, reduceCtorEq, Bool.not_true, Bool.not_false, decide_true, decide_false, List.zip_cons_cons, List.zip_nil_left, List.foldl_cons, List.foldl_nil, and_self, and_true, true_and, Bool.and_true, Bool.true_and, Bool.or_true, Bool.true_or, *])
def goneP (ps : List (Str × Str)) (p : Str × Str) : Str × Str := if goal ps p.1 = goal ps p.2 then p else (goal ps p.1, goal ps p.2)
def walkL : List (List (Str × Str)) → Str × Str → List (Str × Str)
  | [], p => [p]
  | ps :: ws, p => p :: walkL ws (goneP ps p)
def lastW (ws : List (List (Str × Str))) (p : Str × Str) : Str × Str := ws.foldl (fun q ps => goneP ps q) p
theorem walkL_snoc (ps : List (Str × Str)) : ∀ (ws : List (List (Str × Str))) (p : Str × Str), walkL (ws ++ [ps]) p = walkL ws p ++ [goneP ps (lastW ws p)]
  | [], p => rfl
  | qs :: ws, p => by
    show p :: walkL (ws ++ [ps]) (goneP qs p) = p :: (walkL ws (goneP qs p) ++ _)
    rw [walkL_snoc ps ws]; rfl
theorem walkL_len : ∀ (ws : List (List (Str × Str))) (p : Str × Str), (walkL ws p).length = ws.length + 1
  | [], p => rfl
  | qs :: ws, p => by rw [walkL, List.length_cons, walkL_len ws, List.length_cons]
theorem walkL_last : ∀ (ws : List (List (Str × Str))) (p : Str × Str), ∃ l, walkL ws p = l ++ [lastW ws p]
  | [], p => ⟨[], rfl⟩
  | qs :: ws, p => by
    obtain ⟨l, e⟩ := walkL_last ws (goneP qs p)
    exact ⟨p :: l, by rw [walkL, e]; rfl⟩
theorem goneP_in {r : List Str} {ps : List (Str × Str)} (c : CallOf r ps) {p : Str × Str} (h1 : p.1 ∈ r) (h2 : p.2 ∈ r) : (goneP ps p).1 ∈ r ∧ (goneP ps p).2 ∈ r := by
  unfold goneP
  split
  · exact ⟨h1, h2⟩
  · exact ⟨(c.goal_mem h1).2, (c.goal_mem h2).2⟩
theorem goneP_ne {ps : List (Str × Str)} {p : Str × Str} (h : p.1 ≠ p.2) : (goneP ps p).1 ≠ (goneP ps p).2 := by
  unfold goneP
  split
  · exact h
  · assumption
theorem lastW_in {r : List Str} : ∀ {ws : List (List (Str × Str))}, Words r ws → ∀ {p : Str × Str}, p.1 ∈ r → p.2 ∈ r → (lastW ws p).1 ∈ r ∧ (lastW ws p).2 ∈ r
  | [], _, p, h1, h2 => ⟨h1, h2⟩
  | ps :: ws, c, p, h1, h2 => by
    obtain ⟨q1, q2⟩ := goneP_in (c ps List.mem_cons_self) h1 h2
    exact lastW_in (ws := ws) (fun q hq => c q (List.mem_cons_of_mem _ hq)) q1 q2
theorem lastW_ne : ∀ (ws : List (List (Str × Str))) {p : Str × Str}, p.1 ≠ p.2 → (lastW ws p).1 ≠ (lastW ws p).2
  | [], p, h => h
  | ps :: ws, p, h => lastW_ne ws (goneP_ne (ps := ps) h)
abbrev dW (ps : List (Str × Str)) : D := .dict (sdic (tld ps))
theorem eqW_strs {neg : Bool} {i j : Str} {h : Hh} : eqW neg (.dat (.str i)) (.dat (.str j)) h = bok (if neg = true then !decide (i = j) else decide (i = j)) h := by
  unfold eqW
  simp only [deref, eqS]
theorem gone_ok {r : List Str} {ps : List (Str × Str)} {p : Str × Str} {h : Hh} (c : CallOf r ps) (h1 : p.1 ∈ r) (h2 : p.2 ∈ r) : m_gone [.dat (dW ps), .dat (prT p)] h = some (.dat (prT (goneP ps p)), h) := by
  obtain ⟨k1, _⟩ := c.goal_mem h1
  obtain ⟨k2, _⟩ := c.goal_mem h2
  have g1 : getD (sdic (tld ps)) (.str p.1) = some (some (.str (goal ps p.1))) := by rw [getD_sdic, look_tld, k1]; rfl
  have g2 : getD (sdic (tld ps)) (.str p.2) = some (some (.str (goal ps p.2))) := by rw [getD_sdic, look_tld, k2]; rfl
  have a0 : L2.atI [PyData.str p.1, .str p.2] 0 = some (.str p.1) := rfl
  have a1 : L2.atI [PyData.str p.1, .str p.2] 1 = some (.str p.2) := rfl
  have e3 := eqW_strs (neg := false) (i := goal ps p.1) (j := goal ps p.2) (h := h)
  have c2 : 2 ≤ sizeLine := by decide
  have lv := fun d : D => leave_same' (h := h) (d := d)
  unfold m_gone goneP
  by_cases z : goal ps p.1 = goal ps p.2
  · rw [if_pos z]
    have z' : decide (goal ps p.1 = goal ps p.2) = true := by simpa using z
    clear c h1 h2 k1 k2 z
    walk_at "dl"
  · rw [if_neg z]
    have z' : decide (goal ps p.1 = goal ps p.2) = false := by simpa using z
    clear c h1 h2 k1 k2 z
    walk_at "dl"
def cD (l : Bool) (ps : List (Str × Str)) : D := if l = true then .list (ps.map (prW true)) else .tuple (ps.map prT)
theorem cD_seq (l : Bool) (ps : List (Str × Str)) : IsSeq (cD l ps) (ps.map (prW l)) := by
  cases l
  · exact .inr (by rw [prW_false]; rfl)
  · exact .inl rfl
theorem cD_false : cD false = cT := by funext ps; rfl
theorem ways_ok {x : D} {l : Bool} {r : List Str} {ws : List (List (Str × Str))} {h : Hh} (hx : IsSeq x (ws.map (cD l))) (c : Words r ws) (nd : r.Nodup) (hr : r.length ≤ 1000) (hw : ws.length ≤ 1000) : m_ways_back [.dat x] h = some (.dat (.list (ws.reverse.map dW)), h) := by
  have hz : sizeLine = 16777216 := rfl
  have e1 : lcL (gN 1) bYes (fA (m_by_names) (fCons (fVar 1) (fNil))) [some (.dat x), none] (ws.reverse.map (cD l)) h = some (ws.reverse.map dW, h) := by
    have : ∀ vs : List (List (Str × Str)), (∀ v ∈ vs, CallOf r v) → lcL (gN 1) bYes (fA (m_by_names) (fCons (fVar 1) (fNil))) [some (.dat x), none] (vs.map (cD l)) h = some (vs.map dW, h) := fun vs => by
      induction vs with
      | nil => exact fun _ => rfl
      | cons ps vs ih =>
        intro H
        have hc := H ps List.mem_cons_self
        have hl : ps.length = r.length := by have := hc.perm.length_eq; rw [List.length_map] at this; exact this
        have e := by_names_ok (h := h) (cD_seq l ps) (hc.nodup nd) (by omega)
        have ih := ih fun v hv => H v (List.mem_cons_of_mem _ hv)
        have e' : fA (m_by_names) (fCons (fVar 1) (fNil)) [some (.dat x), some (.dat (cD l ps))] h = some (.dat (dW ps), h) := by
          clear hx c nd hr hw hz hc hl ih H
          walk_at "dl"
        rw [List.map_cons, List.map_cons]
        unfold lcL
        have k : gN 1 (.dat (cD l ps)) [some (.dat x), none] h = some [some (.dat x), some (.dat (cD l ps))] := rfl
        simp only [k, bYes, obnd, if_true, e', ih]
    exact this _ fun v hv => c v (List.mem_reverse.mp hv)
  have l1 : (ws.reverse.map dW).length ≤ sizeLine := by rw [List.length_map, List.length_reverse]; omega
  have lv := leave_same' (h := h) (d := .list (ws.reverse.map dW))
  rw [List.map_reverse] at e1
  unfold m_ways_back revI
  clear c nd hr hw hz
  rcases hx with rfl | rfl <;> walk_at "dl"
end DL
set_option maxRecDepth 100000
set_option maxHeartbeats 400000
namespace DL
open PySem L2
variable [HW]
local macro_rules | `(tactic| walk_at "dl") => `(tactic| simp (config := { dsimp := false }) only [↓fnM_e, ↓sSeq_e, seqK_nx, seqK_rt, seqK_bk, seqK_ct, retK_rt, retK_nx, ↓sFrz_e, frK_some, ↓sAsg, ↓sRet, ↓sRetN, ↓sIf, ↓sExpr, ↓sSkip, ↓sNever, ↓sPar, ↓sFor, ↓sSub, ↓fVar, ↓fC, ↓fNil, ↓fCons, ↓fA, ↓f1, ↓f2, ↓fB, ↓fIf, ↓fNeg, ↓fNot, ↓fAnd, ↓fOr, ↓bNot, ↓bAnd, ↓bOr, ↓bYes, ↓obnd_x, ob_some, ↓sbnd_x, sb_some, ↓ite_x, iteK_t, iteK_f, gN, gT, gC, gE, ↓rng1I, ↓rng2I, ↓seqI, ↓enumA, ↓zipI, ↓strI, ↓fLc, ↓fDc, ↓fM, ↓fSl, ↓oNone, ↓oSome, ↓fRev, wipeE, ↓kwM, permM, permL, List.foldr, List.length_cons, List.length_nil, List.map_cons, List.map_nil, List.cons_append, List.nil_append, List.replicate, List.replicate_succ, List.replicate_zero, List.getElem?_cons_zero, List.getElem?_cons_succ, List.set_cons_zero, List.set_cons_succ, if_true, if_false, reduceIte, Nat.reduceAdd, Nat.reduceSub, Nat.reduceEqDiff, Nat.reduceLT, Nat.reduceLeDiff, Int.reduceLT, Int.reduceLE, Int.reduceNeg, Int.reduceMul, Int.reduceAdd, Int.reduceSub, Int.reduceToNat, Int.reducePow, Int.reduceEq, ok, bok, deref, mkL, lstW, tupW, dats, Option.map_some, appendW, insertW, setL, isL, listW, tupleW, lenW, absW, intC, maxW, minW, idxW, addW, subW_e, modW_e, divW_e, powW_e, mulW, intW, lt_e, gt_e, le_e, ge_e, ltW, allW_e, anyW_e, sumW_e, lW, setW, lstAt, cutW, backW, isW, isiW, iLT_none, iLT_bool, iLT_int, iLT_str, iLT_list, iLT_tup, iL_none, iL_bool, iL_int, iL_str, iL_list, iL_tup, iT_none, iT_bool, iT_int, iT_str, iT_list, iT_tup, iS_none, iS_bool, iS_int, iS_str, iS_list, iS_tup, iI_none, iI_bool, iI_int, iI_str, iI_list, iI_tup, iB_none, iB_bool, iB_int, iB_str, iB_list, iB_tup, Bool.false_eq_true, reduceCtorEq, Bool.not_true, Bool.not_false, decide_true, decide_false, List.zip_cons_cons, List.zip_nil_left, List.foldl_cons, List.foldl_nil, and_self, and_true, true_and, Bool.and_true, Bool.true_and, Bool.or_true, Bool.true_or, *])
theorem atI_neg1 {α : Type} (l : List α) (x : α) : L2.atI (l ++ [x]) (-1) = some x := atI_last l x
theorem walked_ok {r : List Str} {ws : List (List (Str × Str))} {p : Str × Str} {h : Hh} (c : Words r ws) (h1 : p.1 ∈ r) (h2 : p.2 ∈ r) (hw : ws.length ≤ 1000) : m_walked [.dat (.list (ws.map dW)), .dat (prT p)] h = some (.dat (.list ((walkL ws p).map prT)), h) := by
  have hz : sizeLine = 16777216 := rfl
  have key := forL_inv (k := gN 3) (body := sExpr (fM isL appendW (fVar 2) (fCons (fA (m_gone) (fCons (fVar 3) (fCons (f2 idxW (fVar 2) (fNeg (fC (.int 1)))) (fNil)))) (fNil))))
    (fun n ρ g => ∃ v : Option W, ρ = [some (.dat (.list (ws.map dW))), some (.dat (prT p)), some (.ref h.length), v] ∧ g = h ++ [some (.lst ((walkL (ws.take n) p).map prT))]) (ds := ws.map dW) (n := 0)
    (ρ := [some (.dat (.list (ws.map dW))), some (.dat (prT p)), some (.ref h.length), none]) (h := h ++ [some (.lst [prT p])]) ⟨none, rfl, rfl⟩ (by
      intro j d ej ρ g hi
      obtain ⟨v, rfl, rfl⟩ := hi
      rw [Nat.zero_add]
      rw [List.getElem?_map] at ej
      obtain ⟨ps, ep, rfl⟩ := Option.map_eq_some_iff.mp ej
      have hj : j < ws.length := (List.getElem?_eq_some_iff.mp ep).1
      have hc : CallOf r ps := c ps (List.mem_of_getElem? ep)
      obtain ⟨m1, m2⟩ := lastW_in (ws := ws.take j) (fun q hq => c q (List.mem_of_mem_take hq)) h1 h2
      have e1 := gone_ok (h := h ++ [some (.lst ((walkL (ws.take j) p).map prT))]) hc m1 m2
      obtain ⟨l, el⟩ := walkL_last (ws.take j) p
      have al : L2.atI ((walkL (ws.take j) p).map prT) (-1) = some (prT (lastW (ws.take j) p)) := by rw [el, List.map_append]; exact atI_neg1 _ _
      have hg : (h ++ [some (MO.lst ((walkL (ws.take j) p).map prT))])[h.length]? = some (some (.lst ((walkL (ws.take j) p).map prT))) := app_get rfl
      have hl : ((walkL (ws.take j) p).map prT).length < sizeLine := by rw [List.length_map, walkL_len, List.length_take]; omega
      have hs : (h ++ [some (MO.lst ((walkL (ws.take j) p).map prT))]).set h.length (some (.lst ((walkL (ws.take j) p).map prT ++ [prT (goneP ps (lastW (ws.take j) p))]))) = h ++ [some (.lst ((walkL (ws.take (j + 1)) p).map prT))] := by
        rw [app_set rfl, take_snoc ep, walkL_snoc, List.map_append]; rfl
      refine ⟨_, _, _, rfl, ?_, some (.dat (dW ps)), rfl, rfl⟩
      clear c h1 h2 hw hz ej ep hj hc m1 m2 el
      generalize (walkL (ws.take j) p).map prT = wl at *
      walk_at "dl")
  obtain ⟨ρ', h', e, v, rfl, rfl⟩ := key
  rw [Nat.zero_add, List.length_map, List.take_length] at e
  have hg : (h ++ [some (MO.lst ((walkL ws p).map prT))])[h.length]? = some (some (.lst ((walkL ws p).map prT))) := app_get rfl
  have et : (h ++ [some (MO.lst ((walkL ws p).map prT))]).take h.length = h := app_take rfl
  have nl : ¬ h.length < h.length := by omega
  have c1 : 1 ≤ sizeLine := by omega
  unfold m_walked
  clear c h1 h2 hw hz
  generalize (walkL ws p).map prT = wl at *
  walk_at "dl"
  unfold leave
  walk_at "dl"
def ledAll (r : List Str) (ws : List (List (Str × Str))) : List Str := ws.foldl led r
theorem ledAll_perm : ∀ (ws : List (List (Str × Str))) (r : List Str), (ledAll r ws).Perm r
  | [], r => List.Perm.refl r
  | ps :: ws, r => (ledAll_perm ws (led r ps)).trans (led_perm r ps)
abbrev rowT (r : List Str) : D := .tuple (r.map .str)
end DL
set_option maxRecDepth 100000
set_option maxHeartbeats 400000
namespace DL
open PySem L2
variable [HW]
local macro_rules | `(tactic| walk_at "dl") => `(tactic| simp (config := { dsimp := false }) only [↓fnM_e, ↓sSeq_e, seqK_nx, seqK_rt, seqK_bk, seqK_ct, retK_rt, retK_nx, ↓sFrz_e, frK_some, ↓sAsg, ↓sRet, ↓sRetN, ↓sIf, ↓sExpr, ↓sSkip, ↓sNever, ↓sPar, ↓sFor, ↓sSub, ↓fVar, ↓fC, ↓fNil, ↓fCons, ↓fA, ↓f1, ↓f2, ↓fB, ↓fIf, ↓fNeg, ↓fNot, ↓fAnd, ↓fOr, ↓bNot, ↓bAnd, ↓bOr, ↓bYes, ↓obnd_x, ob_some, ↓sbnd_x, sb_some, ↓ite_x, iteK_t, iteK_f, gN, gT, gC, gE, ↓rng1I, ↓rng2I, ↓seqI, ↓enumA, ↓zipI, ↓strI, ↓fLc, ↓fDc, ↓fM, ↓fSl, ↓oNone, ↓oSome, ↓fRev, wipeE, ↓kwM, permM, permL, List.foldr, List.length_cons, List.length_nil, List.map_cons, List.map_nil, List.cons_append, List.nil_append, List.replicate, List.replicate_succ, List.replicate_zero, List.getElem?_cons_zero, List.getElem?_cons_succ, List.set_cons_zero, List.set_cons_succ, if_true, if_false, reduceIte, Nat.reduceAdd, Nat.reduceSub, Nat.reduceEqDiff, Nat.reduceLT, Nat.reduceLeDiff, Int.reduceLT, Int.reduceLE, Int.reduceNeg, Int.reduceMul, Int.reduceAdd, Int.reduceSub, Int.reduceToNat, Int.reducePow, Int.reduceEq, ok, bok, deref, mkL, lstW, tupW, dats, Option.map_some, appendW, insertW, setL, isL, listW, tupleW, lenW, absW, intC, maxW, minW, idxW, addW, subW_e, modW_e, divW_e, powW_e, mulW, intW, lt_e, gt_e, le_e, ge_e, ltW, allW_e, anyW_e, sumW_e, lW, setW, lstAt, cutW, backW, isW, isiW, iLT_none, iLT_bool, iLT_int, iLT_str, iLT_list, iLT_tup, iL_none, iL_bool, iL_int, iL_str, iL_list, iL_tup, iT_none, iT_bool, iT_int, iT_str, iT_list, iT_tup, iS_none, iS_bool, iS_int, iS_str, iS_list, iS_tup, iI_none, iI_bool, iI_int, iI_str, iI_list, iI_tup, iB_none, iB_bool, iB_int, iB_str, iB_list, iB_tup, Bool.false_eq_true, reduceCtorEq, Bool.not_true, Bool.not_false, decide_true, decide_false, List.zip_cons_cons, List.zip_nil_left, List.foldl_cons, List.foldl_nil, and_self, and_true, true_and, Bool.and_true, Bool.true_and, Bool.or_true, Bool.true_or, *])
def Part (cr : List Str) (j : Nat) (r : List Str) : Prop := r.Nodup ∧ r.length = j ∧ ∀ s ∈ r, s ∈ cr
def moreR (cr r : List Str) : List (List Str) := (cr.filter fun s => decide (s ∉ r)).map fun s => r ++ [s]
theorem more_part {cr r : List Str} {j : Nat} (h : Part cr j r) : ∀ r' ∈ moreR cr r, Part cr (j + 1) r' := fun r' hr' => by
  obtain ⟨s, hs, rfl⟩ := List.mem_map.mp hr'
  obtain ⟨h1, h2⟩ := List.mem_filter.mp hs
  have h2 : s ∉ r := by simpa using h2
  obtain ⟨p1, p2, p3⟩ := h
  refine ⟨?_, by simp [p2], fun t ht => ?_⟩
  · rw [List.nodup_append]
    refine ⟨p1, by simp, fun a ha b hb e => ?_⟩
    rw [List.mem_singleton] at hb
    subst hb e
    exact h2 ha
  · rcases List.mem_append.mp ht with ht | ht
    · exact p3 t ht
    · rw [List.mem_singleton] at ht; subst ht; exact h1
end DL
set_option maxRecDepth 100000
set_option maxHeartbeats 400000
namespace DL
open PySem L2
variable [HW]
local macro_rules | `(tactic| walk_at "dl") => `(tactic| simp (config := { dsimp := false }) only [↓fnM_e, ↓sSeq_e, seqK_nx, seqK_rt, seqK_bk, seqK_ct, retK_rt, retK_nx, ↓sFrz_e, frK_some, ↓sAsg, ↓sRet, ↓sRetN, ↓sIf, ↓sExpr, ↓sSkip, ↓sNever, ↓sPar, ↓sFor, ↓sSub, ↓fVar, ↓fC, ↓fNil, ↓fCons, ↓fA, ↓f1, ↓f2, ↓fB, ↓fIf, ↓fNeg, ↓fNot, ↓fAnd, ↓fOr, ↓bNot, ↓bAnd, ↓bOr, ↓bYes, ↓obnd_x, ob_some, ↓sbnd_x, sb_some, ↓ite_x, iteK_t, iteK_f, gN, gT, gC, gE, ↓rng1I, ↓rng2I, ↓seqI, ↓enumA, ↓zipI, ↓strI, ↓fLc, ↓fDc, ↓fM, ↓fSl, ↓oNone, ↓oSome, ↓fRev, wipeE, ↓kwM, permM, permL, List.foldr, List.length_cons, List.length_nil, List.map_cons, List.map_nil, List.cons_append, List.nil_append, List.replicate, List.replicate_succ, List.replicate_zero, List.getElem?_cons_zero, List.getElem?_cons_succ, List.set_cons_zero, List.set_cons_succ, if_true, if_false, reduceIte, Nat.reduceAdd, Nat.reduceSub, Nat.reduceEqDiff, Nat.reduceLT, Nat.reduceLeDiff, Int.reduceLT, Int.reduceLE, Int.reduceNeg, Int.reduceMul, Int.reduceAdd, Int.reduceSub, Int.reduceToNat, Int.reducePow, Int.reduceEq, ok, bok, deref, mkL, lstW, tupW, dats, Option.map_some, appendW, insertW, setL, isL, listW, tupleW, lenW, absW, intC, maxW, minW, idxW, addW, subW_e, modW_e, divW_e, powW_e, mulW, intW, lt_e, gt_e, le_e, ge_e, ltW, allW_e, anyW_e, sumW_e, lW, setW, lstAt, cutW, backW, isW, isiW, iLT_none, iLT_bool, iLT_int, iLT_str, iLT_list, iLT_tup, iL_none, iL_bool, iL_int, iL_str, iL_list, iL_tup, iT_none, iT_bool, iT_int, iT_str, iT_list, iT_tup, iS_none, iS_bool, iS_int, iS_str, iS_list, iS_tup, iI_none, iI_bool, iI_int, iI_str, iI_list, iI_tup, iB_none, iB_bool, iB_int, iB_str, iB_list, iB_tup, Bool.false_eq_true, reduceCtorEq, Bool.not_true, Bool.not_false, decide_true, decide_false, List.zip_cons_cons, List.zip_nil_left, List.foldl_cons, List.foldl_nil, and_self, and_true, true_and, Bool.and_true, Bool.true_and, Bool.or_true, Bool.true_or, *])
theorem flat_part {cr : List Str} {j : Nat} {rows : List (List Str)} (h : ∀ r ∈ rows, Part cr j r) : ∀ r ∈ rows.flatMap (moreR cr), Part cr (j + 1) r := fun r hr => by
  obtain ⟨q, hq, hr⟩ := List.mem_flatMap.mp hr
  exact more_part (h q hq) r hr
end DL
set_option maxRecDepth 100000
set_option maxHeartbeats 400000
namespace DL
open PySem L2
variable [HW]
local macro_rules | `(tactic| walk_at "dl") => `(tactic| simp (config := { dsimp := false }) only [↓fnM_e, ↓sSeq_e, seqK_nx, seqK_rt, seqK_bk, seqK_ct, retK_rt, retK_nx, ↓sFrz_e, frK_some, ↓sAsg, ↓sRet, ↓sRetN, ↓sIf, ↓sExpr, ↓sSkip, ↓sNever, ↓sPar, ↓sFor, ↓sSub, ↓fVar, ↓fC, ↓fNil, ↓fCons, ↓fA, ↓f1, ↓f2, ↓fB, ↓fIf, ↓fNeg, ↓fNot, ↓fAnd, ↓fOr, ↓bNot, ↓bAnd, ↓bOr, ↓bYes, ↓obnd_x, ob_some, ↓sbnd_x, sb_some, ↓ite_x, iteK_t, iteK_f, gN, gT, gC, gE, ↓rng1I, ↓rng2I, ↓seqI, ↓enumA, ↓zipI, ↓strI, ↓fLc, ↓fDc, ↓fM, ↓fSl, ↓oNone, ↓oSome, ↓fRev, wipeE, ↓kwM, permM, permL, List.foldr, List.length_cons, List.length_nil, List.map_cons, List.map_nil, List.cons_append, List.nil_append, List.replicate, List.replicate_succ, List.replicate_zero, List.getElem?_cons_zero, List.getElem?_cons_succ, List.set_cons_zero, List.set_cons_succ, if_true, if_false, reduceIte, Nat.reduceAdd, Nat.reduceSub, Nat.reduceEqDiff, Nat.reduceLT, Nat.reduceLeDiff, Int.reduceLT, Int.reduceLE, Int.reduceNeg, Int.reduceMul, Int.reduceAdd, Int.reduceSub, Int.reduceToNat, Int.reducePow, Int.reduceEq, ok, bok, deref, mkL, lstW, tupW, dats, Option.map_some, appendW, insertW, setL, isL, listW, tupleW, lenW, absW, intC, maxW, minW, idxW, addW, subW_e, modW_e, divW_e, powW_e, mulW, intW, lt_e, gt_e, le_e, ge_e, ltW, allW_e, anyW_e, sumW_e, lW, setW, lstAt, cutW, backW, isW, isiW, iLT_none, iLT_bool, iLT_int, iLT_str, iLT_list, iLT_tup, iL_none, iL_bool, iL_int, iL_str, iL_list, iL_tup, iT_none, iT_bool, iT_int, iT_str, iT_list, iT_tup, iS_none, iS_bool, iS_int, iS_str, iS_list, iS_tup, iI_none, iI_bool, iI_int, iI_str, iI_list, iI_tup, iB_none, iB_bool, iB_int, iB_str, iB_list, iB_tup, Bool.false_eq_true, reduceCtorEq, Bool.not_true, Bool.not_false, decide_true, decide_false, List.zip_cons_cons, List.zip_nil_left, List.foldl_cons, List.foldl_nil, and_self, and_true, true_and, Bool.and_true, Bool.true_and, Bool.or_true, Bool.true_or, *])
theorem idx_inj {r : List Str} {s t : Str} (hs : s ∈ r) (ht : t ∈ r) (e : r.idxOf s = r.idxOf t) : s = t := by
  have h1 := List.getElem_idxOf (List.idxOf_lt_length_of_mem hs)
  have h2 := List.getElem_idxOf (List.idxOf_lt_length_of_mem ht)
  rw [← h1, ← h2]
  simp only [e]
theorem pw_at {r : List Str} {R : Str → Str → Prop} (p : r.Pairwise R) {s t : Str} (hs : s ∈ r) (ht : t ∈ r) (e : r.idxOf s < r.idxOf t) : R s t := by
  have := List.pairwise_iff_getElem.mp p _ _ (List.idxOf_lt_length_of_mem hs) (List.idxOf_lt_length_of_mem ht) e
  rwa [List.getElem_idxOf, List.getElem_idxOf] at this
theorem led_ahead {r : List Str} {ps : List (Str × Str)} {a b : Str} (c : CallOf r ps) (ha : a ∈ r) (hb : b ∈ r) (ne : a ≠ b) : (led r ps).idxOf a < (led r ps).idxOf b ↔ r.idxOf (goneP ps (a, b)).1 < r.idxOf (goneP ps (a, b)).2 := by
  have pm := led_perm r ps
  have ha' := pm.mem_iff.mpr ha
  have hb' := pm.mem_iff.mpr hb
  have n1 : (led r ps).idxOf a ≠ (led r ps).idxOf b := fun e => ne (idx_inj ha' hb' e)
  have n2 : r.idxOf a ≠ r.idxOf b := fun e => ne (idx_inj ha hb e)
  obtain ⟨_, ga⟩ := c.goal_mem ha
  obtain ⟨_, gb⟩ := c.goal_mem hb
  have k1 : (led r ps).idxOf a < (led r ps).idxOf b → leK (keyN r ps a) (keyN r ps b) = true := pw_at (led_pw r ps) ha' hb'
  have k2 : (led r ps).idxOf b < (led r ps).idxOf a → leK (keyN r ps b) (keyN r ps a) = true := pw_at (led_pw r ps) hb' ha'
  unfold leK keyN at k1 k2
  simp only [decide_eq_true_eq] at k1 k2
  unfold goneP
  by_cases z : goal ps a = goal ps b
  · rw [if_pos z]
    simp only [z] at k1 k2
    show _ ↔ r.idxOf a < r.idxOf b
    omega
  · rw [if_neg z]
    have n3 : r.idxOf (goal ps a) ≠ r.idxOf (goal ps b) := fun e => z (idx_inj ga gb e)
    show _ ↔ r.idxOf (goal ps a) < r.idxOf (goal ps b)
    omega
theorem ahead_all : ∀ (ws : List (List (Str × Str))) {r : List Str} {a b : Str}, Words r ws → a ∈ r → b ∈ r → a ≠ b → ((ledAll r ws).idxOf a < (ledAll r ws).idxOf b ↔ r.idxOf (lastW ws.reverse (a, b)).1 < r.idxOf (lastW ws.reverse (a, b)).2)
  | [], r, a, b, _, _, _, _ => Iff.rfl
  | ps :: ws, r, a, b, c, ha, hb, ne => by
    have hc := c ps List.mem_cons_self
    have cw : Words r ws := fun q hq => c q (List.mem_cons_of_mem _ hq)
    have pm := led_perm r ps
    have ih := ahead_all ws (r := led r ps) (cw.perm pm.symm) (pm.mem_iff.mpr ha) (pm.mem_iff.mpr hb) ne
    have cr : Words r ws.reverse := fun q hq => cw q (List.mem_reverse.mp hq)
    obtain ⟨m1, m2⟩ := lastW_in cr (p := (a, b)) ha hb
    have m3 := lastW_ne ws.reverse (p := (a, b)) ne
    have e : lastW (ps :: ws).reverse (a, b) = goneP ps (lastW ws.reverse (a, b)) := by
      rw [List.reverse_cons]
      unfold lastW
      rw [List.foldl_append]; rfl
    rw [e]
    exact ih.trans (led_ahead hc m1 m2 m3)
end DL
set_option maxRecDepth 100000
set_option maxHeartbeats 400000
namespace DL
open PySem L2
variable [HW]
theorem isTp_row {r : List Str} {h : Hh} (nd : r.Nodup) (hp : 0 < r.length) : isTp (.dat (rowT r)) h = true := by
  show rowD (r.map .str) = true
  unfold rowD
  rw [rowS_strs]
  cases r with
  | nil => simp at hp
  | cons a r => simp only [List.isEmpty_cons, Bool.not_false, Bool.true_and, decide_eq_true_eq]; exact nd
theorem index_row {r : List Str} {s : Str} {h : Hh} (hs : s ∈ r) : indexT (.dat (rowT r)) [.dat (.str s)] h = some (.dat (.int (r.idxOf s : Int)), h) := by
  unfold indexT
  simp only [deref, rowS_strs, hs, if_true]
  rfl
theorem shp_row {l : List Str} (ht : Txts l) : shp (rowT l) = true := by
  unfold shp
  rw [PyData.canLay0, canLay_strs ht, PyData.depth, depth_strs]
  rfl
structure OnlyP (b : Nat) (h g : Hh) : Prop where
  len : h.length ≤ g.length
  off : ∀ i : Nat, i < h.length → i ≠ b → g[i]? = h[i]?
theorem Only.p {b : Nat} {h g : Hh} (o : Only b h g) : OnlyP b h g := ⟨Nat.le_of_eq o.len.symm, fun i _ n => o.off i n⟩
theorem OnlyP.only {b : Nat} {h g g' : Hh} (o : OnlyP b h g) (o' : Only b g g') : OnlyP b h g' := ⟨by rw [o'.len]; exact o.len, fun i hi n => (o'.off i n).trans (o.off i hi n)⟩
theorem OnlyP.app {b : Nat} {h g l : Hh} (o : OnlyP b h g) : OnlyP b h (g ++ l) := ⟨by rw [List.length_append]; have := o.len; omega, fun i hi n => by
  rw [List.getElem?_append_left (by have := o.len; omega)]; exact o.off i hi n⟩
theorem leave_P {b c c' : Nat} {h g : Hh} {d : D} (x : BoxAt h b c) (y : BoxAt g b c') (o : OnlyP b h g) : ∃ h', leave false h (.dat d) g = some (.dat d, h') ∧ BoxAt h' b c' ∧ Only b h h' := by
  have lb := x.lt
  have y' := box_take y lb
  have on : Only b h (g.take h.length) := ⟨by rw [List.length_take]; have := o.len; omega, fun i n => by
    by_cases hi : i < h.length
    · rw [List.getElem?_take_of_lt hi]; exact o.off i hi n
    · rw [List.getElem?_eq_none (by rw [List.length_take]; omega), List.getElem?_eq_none (by omega)]⟩
  exact ⟨_, leave_dat (live_only x y' on), y', on⟩
theorem Folk.mono {n m : Nat} {rs : List Str} (h : Folk n rs) (k : n ≤ m) : Folk m rs := ⟨h.nd, h.pos, Nat.le_trans h.le k, h.nam⟩
theorem dec_cast (i j : Nat) : decide ((i : Int) < (j : Int)) = decide (i < j) := by simp
end DL
set_option maxRecDepth 100000
set_option maxHeartbeats 400000
namespace DL
open PySem L2
variable [HW]
local macro_rules | `(tactic| walk_at "dl") => `(tactic| simp (config := { dsimp := false }) only [↓fnM_e, ↓sSeq_e, seqK_nx, seqK_rt, seqK_bk, seqK_ct, retK_rt, retK_nx, ↓sFrz_e, frK_some, ↓sAsg, ↓sRet, ↓sRetN, ↓sIf, ↓sExpr, ↓sSkip, ↓sNever, ↓sPar, ↓sFor, ↓sSub, ↓fVar, ↓fC, ↓fNil, ↓fCons, ↓fA, ↓f1, ↓f2, ↓fB, ↓fIf, ↓fNeg, ↓fNot, ↓fAnd, ↓fOr, ↓bNot, ↓bAnd, ↓bOr, ↓bYes, ↓obnd_x, ob_some, ↓sbnd_x, sb_some, ↓ite_x, iteK_t, iteK_f, gN, gT, gC, gE, ↓rng1I, ↓rng2I, ↓seqI, ↓enumA, ↓zipI, ↓strI, ↓fLc, ↓fDc, ↓fM, ↓fSl, ↓oNone, ↓oSome, ↓fRev, wipeE, ↓kwM, permM, permL, List.foldr, List.length_cons, List.length_nil, List.map_cons, List.map_nil, List.cons_append, List.nil_append, List.replicate, List.replicate_succ, List.replicate_zero, List.getElem?_cons_zero, List.getElem?_cons_succ, List.set_cons_zero, List.set_cons_succ, if_true, if_false, reduceIte, Nat.reduceAdd, Nat.reduceSub, Nat.reduceEqDiff, Nat.reduceLT, Nat.reduceLeDiff, Int.reduceLT, Int.reduceLE, Int.reduceNeg, Int.reduceMul, Int.reduceAdd, Int.reduceSub, Int.reduceToNat, Int.reducePow, Int.reduceEq, ok, bok, deref, mkL, lstW, tupW, dats, Option.map_some, appendW, insertW, setL, isL, listW, tupleW, lenW, absW, intC, maxW, minW, idxW, addW, subW_e, modW_e, divW_e, powW_e, mulW, intW, lt_e, gt_e, le_e, ge_e, ltW, allW_e, anyW_e, sumW_e, lW, setW, lstAt, cutW, backW, isW, isiW, iLT_none, iLT_bool, iLT_int, iLT_str, iLT_list, iLT_tup, iL_none, iL_bool, iL_int, iL_str, iL_list, iL_tup, iT_none, iT_bool, iT_int, iT_str, iT_list, iT_tup, iS_none, iS_bool, iS_int, iS_str, iS_list, iS_tup, iI_none, iI_bool, iI_int, iI_str, iI_list, iI_tup, iB_none, iB_bool, iB_int, iB_str, iB_list, iB_tup, Bool.false_eq_true, reduceCtorEq, Bool.not_true, Bool.not_false, decide_true, decide_false, List.zip_cons_cons, List.zip_nil_left, List.foldl_cons, List.foldl_nil, and_self, and_true, true_and, Bool.and_true, Bool.true_and, Bool.or_true, Bool.true_or, *])
end DL
set_option maxRecDepth 100000
set_option maxHeartbeats 400000
namespace DL
open PySem L2
variable [HW]
theorem led_eq {r m : List Str} {ps : List (Str × Str)} (p : m.Perm r) (h : m.Pairwise fun a b => leK (keyN r ps a) (keyN r ps b) = true) : m = led r ps := by
  have pm := p.trans (led_perm r ps).symm
  refine List.Perm.eq_of_pairwise (fun a b ha hb h1 h2 => ?_) h (led_pw r ps) pm
  unfold leK keyN at h1 h2
  simp only [decide_eq_true_eq] at h1 h2
  exact idx_inj (p.mem_iff.mp ha) ((led_perm r ps).mem_iff.mp hb) (by omega)
def told (r : List Str) (ps : List (Str × Str)) (t : Str) : List Str := r.filter fun s => decide (goal ps s = t)
theorem goal_of : ∀ {ps : List (Str × Str)}, (ps.map (·.1)).Nodup → ∀ p ∈ ps, goal ps p.1 = p.2
  | [], _, p, h => by cases h
  | (a, b) :: ps, nd, p, h => by
    rw [List.map_cons, List.nodup_cons] at nd
    unfold goal
    rw [List.lookup_cons]
    rcases List.mem_cons.mp h with rfl | h
    · simp
    · have ne : p.1 ≠ a := fun z => nd.1 (List.mem_map.mpr ⟨p, h, z⟩)
      rw [show (p.1 == a) = false by simpa using ne]
      exact goal_of nd.2 p h
end DL
set_option maxRecDepth 100000
set_option maxHeartbeats 400000
namespace DL
open PySem L2
variable [HW]
local macro_rules | `(tactic| walk_at "dl") => `(tactic| simp (config := { dsimp := false }) only [↓fnM_e, ↓sSeq_e, seqK_nx, seqK_rt, seqK_bk, seqK_ct, retK_rt, retK_nx, ↓sFrz_e, frK_some, ↓sAsg, ↓sRet, ↓sRetN, ↓sIf, ↓sExpr, ↓sSkip, ↓sNever, ↓sPar, ↓sFor, ↓sSub, ↓fVar, ↓fC, ↓fNil, ↓fCons, ↓fA, ↓f1, ↓f2, ↓fB, ↓fIf, ↓fNeg, ↓fNot, ↓fAnd, ↓fOr, ↓bNot, ↓bAnd, ↓bOr, ↓bYes, ↓obnd_x, ob_some, ↓sbnd_x, sb_some, ↓ite_x, iteK_t, iteK_f, gN, gT, gC, gE, ↓rng1I, ↓rng2I, ↓seqI, ↓enumA, ↓zipI, ↓strI, ↓fLc, ↓fDc, ↓fM, ↓fSl, ↓oNone, ↓oSome, ↓fRev, wipeE, ↓kwM, permM, permL, List.foldr, List.length_cons, List.length_nil, List.map_cons, List.map_nil, List.cons_append, List.nil_append, List.replicate, List.replicate_succ, List.replicate_zero, List.getElem?_cons_zero, List.getElem?_cons_succ, List.set_cons_zero, List.set_cons_succ, if_true, if_false, reduceIte, Nat.reduceAdd, Nat.reduceSub, Nat.reduceEqDiff, Nat.reduceLT, Nat.reduceLeDiff, Int.reduceLT, Int.reduceLE, Int.reduceNeg, Int.reduceMul, Int.reduceAdd, Int.reduceSub, Int.reduceToNat, Int.reducePow, Int.reduceEq, ok, bok, deref, mkL, lstW, tupW, dats, Option.map_some, appendW, insertW, setL, isL, listW, tupleW, lenW, absW, intC, maxW, minW, idxW, addW, subW_e, modW_e, divW_e, powW_e, mulW, intW, lt_e, gt_e, le_e, ge_e, ltW, allW_e, anyW_e, sumW_e, lW, setW, lstAt, cutW, backW, isW, isiW, iLT_none, iLT_bool, iLT_int, iLT_str, iLT_list, iLT_tup, iL_none, iL_bool, iL_int, iL_str, iL_list, iL_tup, iT_none, iT_bool, iT_int, iT_str, iT_list, iT_tup, iS_none, iS_bool, iS_int, iS_str, iS_list, iS_tup, iI_none, iI_bool, iI_int, iI_str, iI_list, iI_tup, iB_none, iB_bool, iB_int, iB_str, iB_list, iB_tup, Bool.false_eq_true, reduceCtorEq, Bool.not_true, Bool.not_false, decide_true, decide_false, List.zip_cons_cons, List.zip_nil_left, List.foldl_cons, List.foldl_nil, and_self, and_true, true_and, Bool.and_true, Bool.true_and, Bool.or_true, Bool.true_or, *])
theorem whileL_run {t : BM} {body : SM} (J : Nat → Env → Hh → Prop) : ∀ (k : Nat) {n fuel : Nat} {ρ : Env} {h : Hh}, k < fuel → J n ρ h →
    (∀ j ρ h, n ≤ j → j < n + k → J j ρ h → ∃ h1 ρ2 h2, t ρ h = some (true, h1) ∧ body ρ h1 = some (.nx ρ2, h2) ∧ J (j + 1) ρ2 h2) →
    (∀ ρ h, J (n + k) ρ h → t ρ h = some (false, h)) → ∃ ρ' h', whileL t body fuel ρ h = some (.nx ρ', h') ∧ J (n + k) ρ' h'
  | 0, n, f + 1, ρ, h, _, j, _, e => by
    refine ⟨ρ, h, ?_, j⟩
    unfold whileL
    simp only [e ρ h j, sbnd, Bool.false_eq_true, if_false]
  | k + 1, n, f + 1, ρ, h, hf, j, H, e => by
    obtain ⟨h1, ρ2, h2, e1, e2, j2⟩ := H n ρ h (Nat.le_refl _) (by omega) j
    obtain ⟨ρ', h', e3, j3⟩ := whileL_run J k (n := n + 1) (fuel := f) (by omega) j2 (fun i ρ h a b q => H i ρ h (by omega) (by omega) q) (fun ρ h q => e ρ h (by rw [show n + (k + 1) = n + 1 + k by omega]; exact q))
    refine ⟨ρ', h', ?_, by rw [show n + (k + 1) = n + 1 + k by omega]; exact j3⟩
    unfold whileL
    simp only [e1, sbnd, if_true, e2, e3]
theorem glue_cps (e : Array Nat) (he : e.toList = []) : ∀ (ps : List Str) (acc : Array Nat), (ps.foldl (fun acc p => acc ++ e ++ p.cps) acc).toList = acc.toList ++ ps.flatMap fun s => s.cps.toList
  | [], acc => by simp
  | p :: ps, acc => by
    rw [List.foldl_cons, glue_cps e he ps, List.flatMap_cons]
    simp [he]
theorem join_cps : ∀ l : List Str, (Txt.join "" l).cps.toList = l.flatMap fun s => s.cps.toList
  | [] => by decide +kernel
  | a :: l => by
    show (l.foldl (fun acc p => acc ++ ("" : Str).cps ++ p.cps) a.cps).toList = _
    rw [glue_cps _ (by decide +kernel), List.flatMap_cons]
abbrev six : Str := "abkmxz"
abbrev ends : Str := "abcdefghijklmnopqrstuvwx"
theorem six_ok : ∀ c ∈ six.cps.toList, 97 ≤ c ∧ c ≤ 122 := by decide +kernel
theorem six_len : six.length = 6 := by decide +kernel
theorem ends_len : ends.length = 24 := by decide +kernel
theorem ends_at {i : Nat} (h : i < 24) : L2.atI ends.cps.toList (i : Int) = some (97 + i) := by
  have : ∀ i : Fin 24, L2.atI ends.cps.toList ((i : Nat) : Int) = some (97 + i.1) := by decide +kernel
  exact this ⟨i, h⟩
def NameAt (i : Nat) (s : Str) : Prop := NameOk s ∧ s.cps.toList.getLast? = some (97 + i) ∧ s.length ≤ 4
theorem name_made {ys : List Nat} {i : Nat} (h1 : 1 ≤ ys.length) (h2 : ys.length ≤ 3) (h3 : ∀ y ∈ ys, 97 ≤ y ∧ y ≤ 122) (hi : i < 24) : NameAt i (Txt.join "" (ys.map fun y => (⟨#[y]⟩ : Str)) ++ ⟨#[97 + i]⟩) := by
  have e : (Txt.join "" (ys.map fun y => (⟨#[y]⟩ : Str)) ++ ⟨#[97 + i]⟩).cps.toList = ys ++ [97 + i] := by
    rw [cps_app, join_cps]
    congr 1
    rw [List.flatMap_map]
    simp
  have l : (Txt.join "" (ys.map fun y => (⟨#[y]⟩ : Str)) ++ ⟨#[97 + i]⟩).length = ys.length + 1 := by
    show (Txt.join "" (ys.map fun y => (⟨#[y]⟩ : Str)) ++ ⟨#[97 + i]⟩).cps.size = _
    rw [← Array.length_toList, e]; simp
  refine ⟨⟨by omega, by omega, fun c hc => ?_⟩, by rw [e]; simp, by omega⟩
  rw [e] at hc
  rcases List.mem_append.mp hc with hc | hc
  · exact h3 c hc
  · rw [List.mem_singleton] at hc; omega
end DL
set_option maxRecDepth 100000
set_option maxHeartbeats 400000
namespace DL
open PySem L2
variable [HW]
local macro_rules | `(tactic| walk_at "dl") => `(tactic| simp (config := { dsimp := false }) only [↓fnM_e, ↓sSeq_e, seqK_nx, seqK_rt, seqK_bk, seqK_ct, retK_rt, retK_nx, ↓sFrz_e, frK_some, ↓sAsg, ↓sRet, ↓sRetN, ↓sIf, ↓sExpr, ↓sSkip, ↓sNever, ↓sPar, ↓sFor, ↓sSub, ↓fVar, ↓fC, ↓fNil, ↓fCons, ↓fA, ↓f1, ↓f2, ↓fB, ↓fIf, ↓fNeg, ↓fNot, ↓fAnd, ↓fOr, ↓bNot, ↓bAnd, ↓bOr, ↓bYes, ↓obnd_x, ob_some, ↓sbnd_x, sb_some, ↓ite_x, iteK_t, iteK_f, gN, gT, gC, gE, ↓rng1I, ↓rng2I, ↓seqI, ↓enumA, ↓zipI, ↓strI, ↓fLc, ↓fDc, ↓fM, ↓fSl, ↓oNone, ↓oSome, ↓fRev, wipeE, ↓kwM, permM, permL, List.foldr, List.length_cons, List.length_nil, List.map_cons, List.map_nil, List.cons_append, List.nil_append, List.replicate, List.replicate_succ, List.replicate_zero, List.getElem?_cons_zero, List.getElem?_cons_succ, List.set_cons_zero, List.set_cons_succ, if_true, if_false, reduceIte, Nat.reduceAdd, Nat.reduceSub, Nat.reduceEqDiff, Nat.reduceLT, Nat.reduceLeDiff, Int.reduceLT, Int.reduceLE, Int.reduceNeg, Int.reduceMul, Int.reduceAdd, Int.reduceSub, Int.reduceToNat, Int.reducePow, Int.reduceEq, ok, bok, deref, mkL, lstW, tupW, dats, Option.map_some, appendW, insertW, setL, isL, listW, tupleW, lenW, absW, intC, maxW, minW, idxW, addW, subW_e, modW_e, divW_e, powW_e, mulW, intW, lt_e, gt_e, le_e, ge_e, ltW, allW_e, anyW_e, sumW_e, lW, setW, lstAt, cutW, backW, isW, isiW, iLT_none, iLT_bool, iLT_int, iLT_str, iLT_list, iLT_tup, iL_none, iL_bool, iL_int, iL_str, iL_list, iL_tup, iT_none, iT_bool, iT_int, iT_str, iT_list, iT_tup, iS_none, iS_bool, iS_int, iS_str, iS_list, iS_tup, iI_none, iI_bool, iI_int, iI_str, iI_list, iI_tup, iB_none, iB_bool, iB_int, iB_str, iB_list, iB_tup, Bool.false_eq_true, reduceCtorEq, Bool.not_true, Bool.not_false, decide_true, decide_false, List.zip_cons_cons, List.zip_nil_left, List.foldl_cons, List.foldl_nil, and_self, and_true, true_and, Bool.and_true, Bool.true_and, Bool.or_true, Bool.true_or, *])
theorem rowS_sing (ys : List Nat) : rowS (ys.map fun y => PyData.str ⟨#[y]⟩) = some (ys.map fun y => (⟨#[y]⟩ : Str)) := by
  have := rowS_strs (ys.map fun y => (⟨#[y]⟩ : Str))
  rwa [List.map_map] at this
end DL
set_option maxRecDepth 100000
set_option maxHeartbeats 400000
namespace DL
open PySem L2
variable [HW]
local macro_rules | `(tactic| walk_at "dl") => `(tactic| simp (config := { dsimp := false }) only [↓fnM_e, ↓sSeq_e, seqK_nx, seqK_rt, seqK_bk, seqK_ct, retK_rt, retK_nx, ↓sFrz_e, frK_some, ↓sAsg, ↓sRet, ↓sRetN, ↓sIf, ↓sExpr, ↓sSkip, ↓sNever, ↓sPar, ↓sFor, ↓sSub, ↓fVar, ↓fC, ↓fNil, ↓fCons, ↓fA, ↓f1, ↓f2, ↓fB, ↓fIf, ↓fNeg, ↓fNot, ↓fAnd, ↓fOr, ↓bNot, ↓bAnd, ↓bOr, ↓bYes, ↓obnd_x, ob_some, ↓sbnd_x, sb_some, ↓ite_x, iteK_t, iteK_f, gN, gT, gC, gE, ↓rng1I, ↓rng2I, ↓seqI, ↓enumA, ↓zipI, ↓strI, ↓fLc, ↓fDc, ↓fM, ↓fSl, ↓oNone, ↓oSome, ↓fRev, wipeE, ↓kwM, permM, permL, List.foldr, List.length_cons, List.length_nil, List.map_cons, List.map_nil, List.cons_append, List.nil_append, List.replicate, List.replicate_succ, List.replicate_zero, List.getElem?_cons_zero, List.getElem?_cons_succ, List.set_cons_zero, List.set_cons_succ, if_true, if_false, reduceIte, Nat.reduceAdd, Nat.reduceSub, Nat.reduceEqDiff, Nat.reduceLT, Nat.reduceLeDiff, Int.reduceLT, Int.reduceLE, Int.reduceNeg, Int.reduceMul, Int.reduceAdd, Int.reduceSub, Int.reduceToNat, Int.reducePow, Int.reduceEq, ok, bok, deref, mkL, lstW, tupW, dats, Option.map_some, appendW, insertW, setL, isL, listW, tupleW, lenW, absW, intC, maxW, minW, idxW, addW, subW_e, modW_e, divW_e, powW_e, mulW, intW, lt_e, gt_e, le_e, ge_e, ltW, allW_e, anyW_e, sumW_e, lW, setW, lstAt, cutW, backW, isW, isiW, iLT_none, iLT_bool, iLT_int, iLT_str, iLT_list, iLT_tup, iL_none, iL_bool, iL_int, iL_str, iL_list, iL_tup, iT_none, iT_bool, iT_int, iT_str, iT_list, iT_tup, iS_none, iS_bool, iS_int, iS_str, iS_list, iS_tup, iI_none, iI_bool, iI_int, iI_str, iI_list, iI_tup, iB_none, iB_bool, iB_int, iB_str, iB_list, iB_tup, Bool.false_eq_true, reduceCtorEq, Bool.not_true, Bool.not_false, decide_true, decide_false, List.zip_cons_cons, List.zip_nil_left, List.foldl_cons, List.foldl_nil, and_self, and_true, true_and, Bool.and_true, Bool.true_and, Bool.or_true, Bool.true_or, *])
theorem nameAt_inj {i j : Nat} {s : Str} (h1 : NameAt i s) (h2 : NameAt j s) : i = j := by
  have := h1.2.1.symm.trans h2.2.1
  injection this with e
  omega
theorem erase_map {α β : Type} (f : α → β) : ∀ (l : List α) (i : Nat), (l.map f).eraseIdx i = (l.eraseIdx i).map f
  | [], _ => rfl
  | a :: l, 0 => rfl
  | a :: l, i + 1 => by
    show f a :: (l.map f).eraseIdx i = f a :: (l.eraseIdx i).map f
    rw [erase_map f l i]
theorem erase_perm {α : Type} : ∀ (l : List α) (i : Nat) (h : i < l.length), l.Perm (l[i] :: l.eraseIdx i)
  | a :: l, 0, _ => List.Perm.refl _
  | a :: l, i + 1, h => by
    have ih := erase_perm l i (by simpa using h)
    exact (List.Perm.cons a ih).trans (List.Perm.swap _ _ _)
theorem eqW_nil {l : List Str} {n : Nat} {h : Hh} (ht : Txts l) (hg : h[n]? = some (some (.lst (l.map .str)))) : eqW true (.ref n) (.dat (.list [])) h = some (.dat (.bool (decide (l ≠ []))), h) := by
  have hs := shp_list ht
  have h0 : shp (.list []) = true := by decide +kernel
  have e : PyData.eqv (.list (l.map .str)) (.list []) = decide (l = []) := by
    cases l with
    | nil => decide +kernel
    | cons a l => simp [PyData.eqv, PyData.eqvAll]
  unfold eqW
  simp only [deref, hg, eqS, hs, h0, e, Bool.and_self, if_true]
  show bok (!decide (l = [])) h = _
  rw [← decide_not]; rfl
end DL
set_option maxRecDepth 100000
set_option maxHeartbeats 400000
namespace DL
open PySem L2
variable [HW]
local macro_rules | `(tactic| walk_at "dl") => `(tactic| simp (config := { dsimp := false }) only [↓fnM_e, ↓sSeq_e, seqK_nx, seqK_rt, seqK_bk, seqK_ct, retK_rt, retK_nx, ↓sFrz_e, frK_some, ↓sAsg, ↓sRet, ↓sRetN, ↓sIf, ↓sExpr, ↓sSkip, ↓sNever, ↓sPar, ↓sFor, ↓sSub, ↓fVar, ↓fC, ↓fNil, ↓fCons, ↓fA, ↓f1, ↓f2, ↓fB, ↓fIf, ↓fNeg, ↓fNot, ↓fAnd, ↓fOr, ↓bNot, ↓bAnd, ↓bOr, ↓bYes, ↓obnd_x, ob_some, ↓sbnd_x, sb_some, ↓ite_x, iteK_t, iteK_f, gN, gT, gC, gE, ↓rng1I, ↓rng2I, ↓seqI, ↓enumA, ↓zipI, ↓strI, ↓fLc, ↓fDc, ↓fM, ↓fSl, ↓oNone, ↓oSome, ↓fRev, wipeE, ↓kwM, permM, permL, List.foldr, List.length_cons, List.length_nil, List.map_cons, List.map_nil, List.cons_append, List.nil_append, List.replicate, List.replicate_succ, List.replicate_zero, List.getElem?_cons_zero, List.getElem?_cons_succ, List.set_cons_zero, List.set_cons_succ, if_true, if_false, reduceIte, Nat.reduceAdd, Nat.reduceSub, Nat.reduceEqDiff, Nat.reduceLT, Nat.reduceLeDiff, Int.reduceLT, Int.reduceLE, Int.reduceNeg, Int.reduceMul, Int.reduceAdd, Int.reduceSub, Int.reduceToNat, Int.reducePow, Int.reduceEq, ok, bok, deref, mkL, lstW, tupW, dats, Option.map_some, appendW, insertW, setL, isL, listW, tupleW, lenW, absW, intC, maxW, minW, idxW, addW, subW_e, modW_e, divW_e, powW_e, mulW, intW, lt_e, gt_e, le_e, ge_e, ltW, allW_e, anyW_e, sumW_e, lW, setW, lstAt, cutW, backW, isW, isiW, iLT_none, iLT_bool, iLT_int, iLT_str, iLT_list, iLT_tup, iL_none, iL_bool, iL_int, iL_str, iL_list, iL_tup, iT_none, iT_bool, iT_int, iT_str, iT_list, iT_tup, iS_none, iS_bool, iS_int, iS_str, iS_list, iS_tup, iI_none, iI_bool, iI_int, iI_str, iI_list, iI_tup, iB_none, iB_bool, iB_int, iB_str, iB_list, iB_tup, Bool.false_eq_true, reduceCtorEq, Bool.not_true, Bool.not_false, decide_true, decide_false, List.zip_cons_cons, List.zip_nil_left, List.foldl_cons, List.foldl_nil, and_self, and_true, true_and, Bool.and_true, Bool.true_and, Bool.or_true, Bool.true_or, *])
theorem only_two {b : Nat} {h h' : Hh} {o o' : Option MO} (hb : b < h.length) (x : Only b (h ++ [o, o']) h') : ∃ g : Hh, h' = g ++ [o, o'] ∧ g.length = h.length ∧ Only b h g := by
  have x' : Only b ((h ++ [o]) ++ [o']) h' := by simpa using x
  obtain ⟨o1, g1, e1, l1⟩ := only_app (by rw [List.length_append]; omega) x'
  rw [e1, app_take l1] at o1
  obtain ⟨o2, g2, e2, l2⟩ := only_app hb o1
  rw [e2, app_take l2] at o2
  exact ⟨g2, by rw [e1, e2]; simp, l2, o2⟩
theorem two_get {g : Hh} {o o' : Option MO} {n : Nat} (e : g.length = n) : (g ++ [o, o'])[n]? = some o ∧ (g ++ [o, o'])[n + 1]? = some o' := by
  constructor
  · rw [List.getElem?_append_right (by omega), e, Nat.sub_self]; rfl
  · rw [List.getElem?_append_right (by omega), e, show n + 1 - n = 1 by omega]; rfl
theorem two_set {g : Hh} {o o' z : Option MO} {n : Nat} (e : g.length = n) : (g ++ [o, o']).set n z = g ++ [z, o'] ∧ (g ++ [o, o']).set (n + 1) z = g ++ [o, z] := by
  constructor
  · rw [List.set_append_right _ _ (by omega), show n - g.length = 0 by omega]; rfl
  · rw [List.set_append_right _ _ (by omega), show n + 1 - g.length = 1 by omega]; rfl
end DL
set_option maxRecDepth 100000
set_option maxHeartbeats 400000
namespace DL
open PySem L2
variable [HW]
local macro_rules | `(tactic| walk_at "dl") => `(tactic| simp (config := { dsimp := false }) only [↓fnM_e, ↓sSeq_e, seqK_nx, seqK_rt, seqK_bk, seqK_ct, retK_rt, retK_nx, ↓sFrz_e, frK_some, ↓sAsg, ↓sRet, ↓sRetN, ↓sIf, ↓sExpr, ↓sSkip, ↓sNever, ↓sPar, ↓sFor, ↓sSub, ↓fVar, ↓fC, ↓fNil, ↓fCons, ↓fA, ↓f1, ↓f2, ↓fB, ↓fIf, ↓fNeg, ↓fNot, ↓fAnd, ↓fOr, ↓bNot, ↓bAnd, ↓bOr, ↓bYes, ↓obnd_x, ob_some, ↓sbnd_x, sb_some, ↓ite_x, iteK_t, iteK_f, gN, gT, gC, gE, ↓rng1I, ↓rng2I, ↓seqI, ↓enumA, ↓zipI, ↓strI, ↓fLc, ↓fDc, ↓fM, ↓fSl, ↓oNone, ↓oSome, ↓fRev, wipeE, ↓kwM, permM, permL, List.foldr, List.length_cons, List.length_nil, List.map_cons, List.map_nil, List.cons_append, List.nil_append, List.replicate, List.replicate_succ, List.replicate_zero, List.getElem?_cons_zero, List.getElem?_cons_succ, List.set_cons_zero, List.set_cons_succ, if_true, if_false, reduceIte, Nat.reduceAdd, Nat.reduceSub, Nat.reduceEqDiff, Nat.reduceLT, Nat.reduceLeDiff, Int.reduceLT, Int.reduceLE, Int.reduceNeg, Int.reduceMul, Int.reduceAdd, Int.reduceSub, Int.reduceToNat, Int.reducePow, Int.reduceEq, ok, bok, deref, mkL, lstW, tupW, dats, Option.map_some, appendW, insertW, setL, isL, listW, tupleW, lenW, absW, intC, maxW, minW, idxW, addW, subW_e, modW_e, divW_e, powW_e, mulW, intW, lt_e, gt_e, le_e, ge_e, ltW, allW_e, anyW_e, sumW_e, lW, setW, lstAt, cutW, backW, isW, isiW, iLT_none, iLT_bool, iLT_int, iLT_str, iLT_list, iLT_tup, iL_none, iL_bool, iL_int, iL_str, iL_list, iL_tup, iT_none, iT_bool, iT_int, iT_str, iT_list, iT_tup, iS_none, iS_bool, iS_int, iS_str, iS_list, iS_tup, iI_none, iI_bool, iI_int, iI_str, iI_list, iI_tup, iB_none, iB_bool, iB_int, iB_str, iB_list, iB_tup, Bool.false_eq_true, reduceCtorEq, Bool.not_true, Bool.not_false, decide_true, decide_false, List.zip_cons_cons, List.zip_nil_left, List.foldl_cons, List.foldl_nil, and_self, and_true, true_and, Bool.and_true, Bool.true_and, Bool.or_true, Bool.true_or, *])
theorem perm_nodup : ∀ {l m : List Str}, l.Nodup → m.Nodup → (∀ k, k ∈ l ↔ k ∈ m) → l.Perm m
  | [], m, _, _, h => by
    have : m = [] := List.eq_nil_iff_forall_not_mem.mpr fun k hk => by have := (h k).mpr hk; cases this
    rw [this]
  | a :: l, m, n1, n2, h => by
    have ha : a ∈ m := (h a).mp List.mem_cons_self
    have pe := List.perm_cons_erase ha
    have n2' : (a :: m.erase a).Nodup := pe.nodup_iff.mp n2
    obtain ⟨a1, a2⟩ := List.nodup_cons.mp n1
    obtain ⟨b1, b2⟩ := List.nodup_cons.mp n2'
    refine (List.Perm.cons a (perm_nodup a2 b2 fun k => ?_)).trans pe.symm
    constructor
    · intro hk
      have ne : k ≠ a := fun z => by subst z; exact a1 hk
      exact (List.mem_erase_of_ne ne).mpr ((h k).mp (List.mem_cons_of_mem _ hk))
    · intro hk
      have ne : k ≠ a := fun z => by subst z; exact b1 hk
      rcases List.mem_cons.mp ((h k).mpr ((List.mem_erase_of_ne ne).mp hk)) with z | z
      · exact absurd z ne
      · exact z
theorem flat_pw {R : Str → Str → Prop} (f : Str → List Str) : ∀ {r : List Str}, (∀ t ∈ r, (f t).Pairwise R) → r.Pairwise (fun t u => ∀ a ∈ f t, ∀ b ∈ f u, R a b) → (r.flatMap f).Pairwise R
  | [], _, _ => .nil
  | t :: r, h1, h2 => by
    obtain ⟨h3, h4⟩ := List.pairwise_cons.mp h2
    rw [List.flatMap_cons, List.pairwise_append]
    refine ⟨h1 t List.mem_cons_self, flat_pw f (fun u hu => h1 u (List.mem_cons_of_mem _ hu)) h4, fun a ha b hb => ?_⟩
    obtain ⟨u, hu, hb⟩ := List.mem_flatMap.mp hb
    exact h3 u hu a ha b hb
theorem told_goal {r : List Str} {ps : List (Str × Str)} {t s : Str} (h : s ∈ told r ps t) : s ∈ r ∧ goal ps s = t := by
  unfold told at h
  rw [List.mem_filter] at h
  exact ⟨h.1, by simpa using h.2⟩
theorem led_flat {r : List Str} {ps : List (Str × Str)} (c : CallOf r ps) (nd : r.Nodup) : r.flatMap (told r ps) = led r ps := by
  apply led_eq
  · refine perm_nodup ?_ nd fun k => ?_
    · refine flat_pw (R := fun a b => a ≠ b) _ (fun t _ => nd.filter _) (nd.imp fun {t u} ne a ha b hb e => ?_)
      subst e
      exact ne ((told_goal ha).2.symm.trans (told_goal hb).2)
    · rw [List.mem_flatMap]
      constructor
      · rintro ⟨t, _, h⟩
        exact (told_goal h).1
      · intro hk
        refine ⟨goal ps k, (c.goal_mem hk).2, ?_⟩
        unfold told
        rw [List.mem_filter]
        exact ⟨hk, by simp⟩
  · refine flat_pw _ (fun t ht => ?_) ((pw_idx nd).imp fun {t u} lt a ha b hb => ?_)
    · refine List.Pairwise.imp_of_mem ?_ ((pw_idx nd).filter fun s => decide (goal ps s = t))
      intro a b ha hb lt
      have e1 := (told_goal (r := r) ha).2
      have e2 := (told_goal (r := r) hb).2
      unfold leK keyN
      rw [e1, e2, decide_eq_true_eq]
      exact .inr ⟨rfl, Nat.le_of_lt lt⟩
    · have e1 := (told_goal ha).2
      have e2 := (told_goal hb).2
      unfold leK keyN
      simp only [e1, e2, decide_eq_true_eq]
      exact .inl lt
noncomputable def ownBody : SM := sAsg (f2 (addW false) (fVar 3) (fLc false (seqI (fVar 0)) (gN 5) (fB (f2 (eqW false) (f2 idxW (fVar 2) (fVar 5)) (fVar 4))) (fVar 5) [5])) (gN 3)
theorem own_called_ok {x : D} {r : List Str} {ps : List (Str × Str)} {h : Hh} (hx : IsSeq x (r.map .str)) (c : CallOf r ps) (nd : r.Nodup) (hp : 0 < r.length) (hr : r.length ≤ 1000) : m__law_called [.dat x, .dat (cT ps)] h = some (.dat (rowT (led r ps)), h) := by
  have hz : sizeLine = 16777216 := rfl
  have hpl : ps.length = r.length := by have := c.perm.length_eq; rw [List.length_map] at this; exact this
  have e1 := dict_call (h := h) (ps := ps) (by omega) (c.nodup nd)
  have key := forL_inv (k := gN 4) (body := ownBody) (fun n ρ g => g = h ∧ ∃ v4 : Option W, ρ = [some (.dat x), some (.dat (cT ps)), some (.dat (dW ps)), some (.dat (.list (((r.take n).flatMap (told r ps)).map .str))), v4, none]) (ds := r.map .str) (n := 0)
    (ρ := [some (.dat x), some (.dat (cT ps)), some (.dat (dW ps)), some (.dat (.list [])), none, none]) (h := h) ⟨rfl, none, rfl⟩ (by
      intro j d ej ρ g hi
      obtain ⟨rfl, v4, rfl⟩ := hi
      rw [Nat.zero_add]
      rw [List.getElem?_map] at ej
      obtain ⟨t, et, rfl⟩ := Option.map_eq_some_iff.mp ej
      have e2 : lcL (gN 5) (fB (f2 (eqW false) (f2 idxW (fVar 2) (fVar 5)) (fVar 4))) (fVar 5) [some (.dat x), some (.dat (cT ps)), some (.dat (dW ps)), some (.dat (.list (((r.take j).flatMap (told r ps)).map .str))), some (.dat (.str t)), none] (r.map .str) g = some ((told r ps t).map .str, g) := by
        rw [lcL_map (fun d => decide (goal ps (unS d) = t)) (fun d => d)]
        · rw [List.map_id', List.filter_map]
          rfl
        · intro d hd
          obtain ⟨s, hs, rfl⟩ := List.mem_map.mp hd
          obtain ⟨k1, _⟩ := c.goal_mem hs
          have g1 : getD (sdic (tld ps)) (.str s) = some (some (.str (goal ps s))) := by rw [getD_sdic, look_tld, k1]; rfl
          have g2 := eqW_strs (neg := false) (i := goal ps s) (j := t) (h := g)
          refine ⟨[some (.dat x), some (.dat (cT ps)), some (.dat (dW ps)), some (.dat (.list (((r.take j).flatMap (told r ps)).map .str))), some (.dat (.str t)), some (.dat (.str s))], rfl, ?_, fun _ => rfl⟩
          clear hx c nd hp hr hz hpl e1 ej et hd hs k1
          generalize ((r.take j).flatMap (told r ps)).map PyData.str = w
          walk_at "dl"
          rfl
      have l1 : (((r.take j).flatMap (told r ps)).map PyData.str).length + ((told r ps t).map PyData.str).length ≤ sizeLine := by
        have q1 : (told r ps t).length ≤ r.length := List.length_filter_le _ _
        have q2 : ∀ m : List Str, (m.flatMap (told r ps)).length ≤ m.length * r.length := fun m => by
          induction m with
          | nil => exact Nat.zero_le _
          | cons a m ih =>
            have : (told r ps a).length ≤ r.length := List.length_filter_le _ _
            rw [List.flatMap_cons, List.length_append, List.length_cons, Nat.succ_mul]
            omega
        have q3 := q2 (r.take j)
        have q4 : (r.take j).length ≤ 1000 := by rw [List.length_take]; omega
        have q5 := Nat.mul_le_mul q4 hr
        rw [List.length_map, List.length_map]
        omega
      have l2 : ((told r ps t).map PyData.str).length ≤ sizeLine := by omega
      have e3 : (r.take (j + 1)).flatMap (told r ps) = (r.take j).flatMap (told r ps) ++ told r ps t := by
        rw [take_snoc et, List.flatMap_append]
        simp
      refine ⟨_, _, g, rfl, ?_, rfl, some (.dat (.str t)), rfl⟩
      rw [e3, List.map_append]
      unfold ownBody
      clear c nd hp hr hz hpl e1 ej et e3
      generalize ((r.take j).flatMap (told r ps)).map PyData.str = w at *
      rcases hx with rfl | rfl <;> walk_at "dl")
  obtain ⟨ρ', g, e, rfl, v4, rfl⟩ := key
  rw [Nat.zero_add, List.length_map, List.take_length, led_flat c nd] at e
  have lv := leave_same' (h := g) (d := rowT (led r ps))
  have c0 : 0 ≤ sizeLine := Nat.zero_le _
  unfold ownBody at e
  unfold m__law_called
  clear c nd hp hr hz hpl
  rcases hx with rfl | rfl <;> walk_at "dl"
end DL
set_option maxRecDepth 100000
set_option maxHeartbeats 400000
namespace DL
open PySem L2
variable [HW]
local macro_rules | `(tactic| walk_at "dl") => `(tactic| simp (config := { dsimp := false }) only [↓fnM_e, ↓sSeq_e, seqK_nx, seqK_rt, seqK_bk, seqK_ct, retK_rt, retK_nx, ↓sFrz_e, frK_some, ↓sAsg, ↓sRet, ↓sRetN, ↓sIf, ↓sExpr, ↓sSkip, ↓sNever, ↓sPar, ↓sFor, ↓sSub, ↓fVar, ↓fC, ↓fNil, ↓fCons, ↓fA, ↓f1, ↓f2, ↓fB, ↓fIf, ↓fNeg, ↓fNot, ↓fAnd, ↓fOr, ↓bNot, ↓bAnd, ↓bOr, ↓bYes, ↓obnd_x, ob_some, ↓sbnd_x, sb_some, ↓ite_x, iteK_t, iteK_f, gN, gT, gC, gE, ↓rng1I, ↓rng2I, ↓seqI, ↓enumA, ↓zipI, ↓strI, ↓fLc, ↓fDc, ↓fM, ↓fSl, ↓oNone, ↓oSome, ↓fRev, wipeE, ↓kwM, permM, permL, List.foldr, List.length_cons, List.length_nil, List.map_cons, List.map_nil, List.cons_append, List.nil_append, List.replicate, List.replicate_succ, List.replicate_zero, List.getElem?_cons_zero, List.getElem?_cons_succ, List.set_cons_zero, List.set_cons_succ, if_true, if_false, reduceIte, Nat.reduceAdd, Nat.reduceSub, Nat.reduceEqDiff, Nat.reduceLT, Nat.reduceLeDiff, Int.reduceLT, Int.reduceLE, Int.reduceNeg, Int.reduceMul, Int.reduceAdd, Int.reduceSub, Int.reduceToNat, Int.reducePow, Int.reduceEq, ok, bok, deref, mkL, lstW, tupW, dats, Option.map_some, appendW, insertW, setL, isL, listW, tupleW, lenW, absW, intC, maxW, minW, idxW, addW, subW_e, modW_e, divW_e, powW_e, mulW, intW, lt_e, gt_e, le_e, ge_e, ltW, allW_e, anyW_e, sumW_e, lW, setW, lstAt, cutW, backW, isW, isiW, iLT_none, iLT_bool, iLT_int, iLT_str, iLT_list, iLT_tup, iL_none, iL_bool, iL_int, iL_str, iL_list, iL_tup, iT_none, iT_bool, iT_int, iT_str, iT_list, iT_tup, iS_none, iS_bool, iS_int, iS_str, iS_list, iS_tup, iI_none, iI_bool, iI_int, iI_str, iI_list, iI_tup, iB_none, iB_bool, iB_int, iB_str, iB_list, iB_tup, Bool.false_eq_true, reduceCtorEq, Bool.not_true, Bool.not_false, decide_true, decide_false, List.zip_cons_cons, List.zip_nil_left, List.foldl_cons, List.foldl_nil, and_self, and_true, true_and, Bool.and_true, Bool.true_and, Bool.or_true, Bool.true_or, *])
end DL
set_option maxRecDepth 100000
set_option maxHeartbeats 400000
namespace DL
open PySem L2
variable [HW]
local macro_rules | `(tactic| walk_at "dl") => `(tactic| simp (config := { dsimp := false }) only [↓fnM_e, ↓sSeq_e, seqK_nx, seqK_rt, seqK_bk, seqK_ct, retK_rt, retK_nx, ↓sFrz_e, frK_some, ↓sAsg, ↓sRet, ↓sRetN, ↓sIf, ↓sExpr, ↓sSkip, ↓sNever, ↓sPar, ↓sFor, ↓sSub, ↓fVar, ↓fC, ↓fNil, ↓fCons, ↓fA, ↓f1, ↓f2, ↓fB, ↓fIf, ↓fNeg, ↓fNot, ↓fAnd, ↓fOr, ↓bNot, ↓bAnd, ↓bOr, ↓bYes, ↓obnd_x, ob_some, ↓sbnd_x, sb_some, ↓ite_x, iteK_t, iteK_f, gN, gT, gC, gE, ↓rng1I, ↓rng2I, ↓seqI, ↓enumA, ↓zipI, ↓strI, ↓fLc, ↓fDc, ↓fM, ↓fSl, ↓oNone, ↓oSome, ↓fRev, wipeE, ↓kwM, permM, permL, List.foldr, List.length_cons, List.length_nil, List.map_cons, List.map_nil, List.cons_append, List.nil_append, List.replicate, List.replicate_succ, List.replicate_zero, List.getElem?_cons_zero, List.getElem?_cons_succ, List.set_cons_zero, List.set_cons_succ, if_true, if_false, reduceIte, Nat.reduceAdd, Nat.reduceSub, Nat.reduceEqDiff, Nat.reduceLT, Nat.reduceLeDiff, Int.reduceLT, Int.reduceLE, Int.reduceNeg, Int.reduceMul, Int.reduceAdd, Int.reduceSub, Int.reduceToNat, Int.reducePow, Int.reduceEq, ok, bok, deref, mkL, lstW, tupW, dats, Option.map_some, appendW, insertW, setL, isL, listW, tupleW, lenW, absW, intC, maxW, minW, idxW, addW, subW_e, modW_e, divW_e, powW_e, mulW, intW, lt_e, gt_e, le_e, ge_e, ltW, allW_e, anyW_e, sumW_e, lW, setW, lstAt, cutW, backW, isW, isiW, iLT_none, iLT_bool, iLT_int, iLT_str, iLT_list, iLT_tup, iL_none, iL_bool, iL_int, iL_str, iL_list, iL_tup, iT_none, iT_bool, iT_int, iT_str, iT_list, iT_tup, iS_none, iS_bool, iS_int, iS_str, iS_list, iS_tup, iI_none, iI_bool, iI_int, iI_str, iI_list, iI_tup, iB_none, iB_bool, iB_int, iB_str, iB_list, iB_tup, Bool.false_eq_true, reduceCtorEq, Bool.not_true, Bool.not_false, decide_true, decide_false, List.zip_cons_cons, List.zip_nil_left, List.foldl_cons, List.foldl_nil, and_self, and_true, true_and, Bool.and_true, Bool.true_and, Bool.or_true, Bool.true_or, *])
theorem strs_all {l : List Str} : ∀ {rs : List D}, (∀ d ∈ rs, ∃ s, s ∈ l ∧ d = .str s) → ∃ m : List Str, rs = m.map .str ∧ ∀ s ∈ m, s ∈ l
  | [], _ => ⟨[], rfl, fun s hs => by cases hs⟩
  | d :: rs, H => by
    obtain ⟨s, hs, rfl⟩ := H d List.mem_cons_self
    obtain ⟨m, rfl, hm⟩ := strs_all (rs := rs) fun e he => H e (List.mem_cons_of_mem _ he)
    exact ⟨s :: m, rfl, fun t ht => by
      rcases List.mem_cons.mp ht with rfl | ht
      · exact hs
      · exact hm t ht⟩
theorem pairs_all {l : List Str} : ∀ {m : List Str} {rs : List D}, rs.length = m.length → (∀ (j : Nat) (d : D), rs[j]? = some d → ∃ s t, m[j]? = some s ∧ t ∈ l ∧ d = prT (s, t)) → ∃ ps : List (Str × Str), rs = ps.map prT ∧ ps.map (·.1) = m ∧ ∀ p ∈ ps, p.2 ∈ l
  | [], [], _, _ => ⟨[], rfl, rfl, fun p hp => by cases hp⟩
  | a :: m, d :: rs, e, H => by
    obtain ⟨s, t, h1, h2, rfl⟩ := H 0 d rfl
    cases h1
    obtain ⟨ps, rfl, h3, h4⟩ := pairs_all (m := m) (rs := rs) (by simpa using e) fun j d hd => H (j + 1) d hd
    exact ⟨(a, t) :: ps, rfl, by rw [List.map_cons, h3], fun p hp => by
      rcases List.mem_cons.mp hp with rfl | hp
      · exact h2
      · exact h4 p hp⟩
end DL
set_option maxRecDepth 100000
set_option maxHeartbeats 400000
namespace DL
open PySem L2
variable [HW]
local macro_rules | `(tactic| walk_at "dl") => `(tactic| simp (config := { dsimp := false }) only [↓fnM_e, ↓sSeq_e, seqK_nx, seqK_rt, seqK_bk, seqK_ct, retK_rt, retK_nx, ↓sFrz_e, frK_some, ↓sAsg, ↓sRet, ↓sRetN, ↓sIf, ↓sExpr, ↓sSkip, ↓sNever, ↓sPar, ↓sFor, ↓sSub, ↓fVar, ↓fC, ↓fNil, ↓fCons, ↓fA, ↓f1, ↓f2, ↓fB, ↓fIf, ↓fNeg, ↓fNot, ↓fAnd, ↓fOr, ↓bNot, ↓bAnd, ↓bOr, ↓bYes, ↓obnd_x, ob_some, ↓sbnd_x, sb_some, ↓ite_x, iteK_t, iteK_f, gN, gT, gC, gE, ↓rng1I, ↓rng2I, ↓seqI, ↓enumA, ↓zipI, ↓strI, ↓fLc, ↓fDc, ↓fM, ↓fSl, ↓oNone, ↓oSome, ↓fRev, wipeE, ↓kwM, permM, permL, List.foldr, List.length_cons, List.length_nil, List.map_cons, List.map_nil, List.cons_append, List.nil_append, List.replicate, List.replicate_succ, List.replicate_zero, List.getElem?_cons_zero, List.getElem?_cons_succ, List.set_cons_zero, List.set_cons_succ, if_true, if_false, reduceIte, Nat.reduceAdd, Nat.reduceSub, Nat.reduceEqDiff, Nat.reduceLT, Nat.reduceLeDiff, Int.reduceLT, Int.reduceLE, Int.reduceNeg, Int.reduceMul, Int.reduceAdd, Int.reduceSub, Int.reduceToNat, Int.reducePow, Int.reduceEq, ok, bok, deref, mkL, lstW, tupW, dats, Option.map_some, appendW, insertW, setL, isL, listW, tupleW, lenW, absW, intC, maxW, minW, idxW, addW, subW_e, modW_e, divW_e, powW_e, mulW, intW, lt_e, gt_e, le_e, ge_e, ltW, allW_e, anyW_e, sumW_e, lW, setW, lstAt, cutW, backW, isW, isiW, iLT_none, iLT_bool, iLT_int, iLT_str, iLT_list, iLT_tup, iL_none, iL_bool, iL_int, iL_str, iL_list, iL_tup, iT_none, iT_bool, iT_int, iT_str, iT_list, iT_tup, iS_none, iS_bool, iS_int, iS_str, iS_list, iS_tup, iI_none, iI_bool, iI_int, iI_str, iI_list, iI_tup, iB_none, iB_bool, iB_int, iB_str, iB_list, iB_tup, Bool.false_eq_true, reduceCtorEq, Bool.not_true, Bool.not_false, decide_true, decide_false, List.zip_cons_cons, List.zip_nil_left, List.foldl_cons, List.foldl_nil, and_self, and_true, true_and, Bool.and_true, Bool.true_and, Bool.or_true, Bool.true_or, *])
noncomputable def foldBody : SM := sSub (f2 (addW false) (f2 idxW (fVar 2) (f2 modW (fVar 3) (fVar 1))) (f2 (mulW false) (fVar 4) (f2 (addW false) (fVar 3) (fC (.int 2))))) (fVar 2) (f2 modW (fVar 3) (fVar 1))
theorem fold_run {g : Hh} {x : W} {p j : Nat} {k m v a : Int} {cs : List D} (m0 : decide (0 < m) = true) (hg : g[p]? = some (some (.lst cs))) (ha : L2.atI cs (k % m) = some (.int a)) (hj : ixN cs.length (k % m) = some j) (k0 : -18446744073709551616 < k + 2) (k1 : k + 2 < 18446744073709551616) :
    foldBody [some x, some (.dat (.int m)), some (.ref p), some (.dat (.int k)), some (.dat (.int v))] g = some (.nx [some x, some (.dat (.int m)), some (.ref p), some (.dat (.int k)), some (.dat (.int v))], g.set p (some (.lst (cs.set j (.int (a + v * (k + 2))))))) := by
  unfold foldBody
  walk_at "dl"
theorem ints_at {cs : List Int} {i : Nat} (h : i < cs.length) : L2.atI (cs.map PyData.int) (i : Int) = some (.int cs[i]) :=
  atI_nat (xs := cs.map PyData.int) (j := i) (by rw [List.getElem?_map, List.getElem?_eq_getElem h]; rfl)
theorem ixN_nat {n i : Nat} (h : i < n) : ixN n (i : Int) = some i := by
  unfold ixN
  rw [if_pos (by omega), if_pos (by omega)]
  simp
theorem enum_int {ms : List Int} {j : Nat} {d : D} (e : (enumD 0 (ms.map .int))[j]? = some d) : ∃ v : Int, j < ms.length ∧ d = .tuple [.int (j : Int), .int v] := by
  obtain ⟨s, hs, rfl⟩ := enumD_get e
  rw [List.getElem?_map] at hs
  obtain ⟨v, hv, rfl⟩ := Option.map_eq_some_iff.mp hs
  exact ⟨v, (List.getElem?_eq_some_iff.mp hv).1, by rw [Nat.zero_add]⟩
theorem shp_ints (cs : List Int) : shp (.list (cs.map .int)) = true := by
  have h1 : ∀ cs : List Int, PyData.canLayAll0 (cs.map .int) = true := fun cs => by
    induction cs with
    | nil => rfl
    | cons a t ih => rw [List.map_cons, PyData.canLayAll0, ih]; simp [PyData.canLay0]
  have h2 : ∀ cs : List Int, PyData.depthAll (cs.map .int) = 0 := fun cs => by
    induction cs with
    | nil => rfl
    | cons a t ih => rw [List.map_cons, PyData.depthAll, ih]; simp [PyData.depth]
  unfold shp
  rw [PyData.canLay0, h1, PyData.depth, h2]
  rfl
theorem eqW_ints_nil {cs : List Int} {h : Hh} : eqW true (.dat (.list (cs.map .int))) (.dat (.list [])) h = some (.dat (.bool (decide (cs ≠ []))), h) := by
  have hs := shp_ints cs
  have h0 : shp (.list []) = true := by decide +kernel
  have e : PyData.eqv (.list (cs.map .int)) (.list []) = decide (cs = []) := by
    cases cs with
    | nil => decide +kernel
    | cons a l => simp [PyData.eqv, PyData.eqvAll]
  unfold eqW
  simp only [deref, eqS, hs, h0, e, Bool.and_self, if_true]
  show bok (!decide (cs = [])) h = _
  rw [← decide_not]; rfl
theorem fold_end {ns : List Int} {h : Hh} {cs : List Int} {m : Int} {z : Bool} {A B : List Int} {v3 v4 : Option W} (i3 : ∀ n, isR n v3 = false) (i4 : ∀ n, isR n v4 = false) (eA : cutG ns none (some m) = A) (eB : cutG ns (some m) (some 63) = B)
    (e1 : forL (gT 2 (gC (gN 3) (gC (gN 4) (gE)))) foldBody (enumD 0 (B.map .int)) [some (.scr ns), some (.dat (.int m)), some (.ref h.length), none, none] (h ++ [some (.lst (A.map .int))]) = some (.nx [some (.scr ns), some (.dat (.int m)), some (.ref h.length), v3, v4], h ++ [some (.lst (cs.map .int))])) (ez : decide (cs ≠ []) = z) :
    m__law_folded [.scr ns, .dat (.int m)] h = some (.dat (.list (if z = true then cs.map .int else [.int 0])), h) := by
  have e2 := eqW_ints_nil (cs := cs) (h := h ++ [none])
  rw [ez] at e2
  have c0 : 0 ≤ sizeLine := Nat.zero_le _
  have c1 : 1 ≤ sizeLine := by decide
  have hf : frz 2 [some (.scr ns), some (.dat (.int m)), some (.ref h.length), v3, v4] (h ++ [some (.lst (cs.map .int))]) = some ([some (.scr ns), some (.dat (.int m)), some (.dat (.list (cs.map .int))), v3, v4], h ++ [none]) := by
    have g1 : (h ++ [some (MO.lst (cs.map .int))])[h.length]? = some (some (.lst (cs.map .int))) := app_get rfl
    have g2 : (h ++ [some (MO.lst (cs.map .int))]).set h.length none = h ++ [none] := app_set rfl
    unfold frz
    simp only [List.getElem?_cons_zero, List.getElem?_cons_succ, g1, g2, List.set_cons_zero, List.set_cons_succ, List.any_cons, List.any_nil, i3, i4, isR_ref, isR_dat, isR_scr, isR_none, Bool.or_false, Bool.false_or, isTab, Bool.false_eq_true, if_false, moD]
  have lv := fun d : D => show leave false h (.dat d) (h ++ [none]) = some (.dat d, h) by
    have e : (h ++ [none]).take h.length = h := app_take rfl
    rw [leave_dat (by rw [e]), e]
  unfold foldBody at e1
  unfold m__law_folded
  clear i3 i4 ez
  cases z with
  | true => walk_at "dl"
  | false => walk_at "dl"
theorem folded_ok {ns : List Int} {h : Hh} (hn : ns.length ≤ 63) : ∃ cs : List Int, m__law_folded [.scr ns, .dat (.int 3)] h = some (.dat (.list (cs.map .int)), h) ∧ 0 < cs.length ∧ cs.length ≤ 3 := by
  have eA : cutG ns none (some (3 : Int)) = ns.take 3 := cut_to ns (k := 3)
  have eB : cutG ns (some (3 : Int)) (some 63) = ns.drop 3 := by
    have e : HT.sIx ns.length 0 (some (3 : Int)) = min 3 ns.length := HT.sIx_nat ns.length 0 3
    have e0 : HT.sIx ns.length ns.length (some (63 : Int)) = min 63 ns.length := HT.sIx_nat ns.length ns.length 63
    unfold cutG
    rw [e, e0, Nat.min_eq_right hn]
    rcases Nat.le_total 3 ns.length with q | q
    · rw [Nat.min_eq_left q]
      exact List.take_of_length_le (by rw [List.length_drop]; omega)
    · rw [Nat.min_eq_right q, List.drop_eq_nil_of_le q]
      simp
  obtain ⟨ρ', g, e1, v3, v4, cs, rfl, i3, i4, rfl, hl⟩ := forL_end (k := gT 2 (gC (gN 3) (gC (gN 4) (gE)))) (body := foldBody) (fun _ ρ g => ∃ (v3 v4 : Option W) (cs : List Int), ρ = [some (.scr ns), some (.dat (.int 3)), some (.ref h.length), v3, v4] ∧ (∀ n, isR n v3 = false) ∧ (∀ n, isR n v4 = false) ∧ g = h ++ [some (.lst (cs.map .int))] ∧ cs.length = (ns.take 3).length)
    (ds := enumD 0 ((ns.drop 3).map .int)) (ρ := [some (.scr ns), some (.dat (.int 3)), some (.ref h.length), none, none]) (h := h ++ [some (.lst ((ns.take 3).map .int))]) ⟨none, none, ns.take 3, rfl, fun _ => rfl, fun _ => rfl, rfl, rfl⟩ (by
      intro j d ej ρ g hi
      obtain ⟨v3, v4, cs, rfl, i3, i4, rfl, hl⟩ := hi
      obtain ⟨v, hj, rfl⟩ := enum_int ej
      rw [List.length_drop] at hj
      have h3 : cs.length = 3 := by rw [hl, List.length_take]; omega
      have hk : j % 3 < cs.length := by omega
      have ek : (j : Int) % 3 = ((j % 3 : Nat) : Int) := by omega
      have et := fold_run (x := .scr ns) (p := h.length) (j := j % 3) (k := (j : Int)) (m := 3) (v := v) (a := cs[j % 3]) (cs := cs.map .int) (g := h ++ [some (.lst (cs.map .int))]) rfl (app_get rfl) (by rw [ek]; exact ints_at hk) (by rw [List.length_map, ek]; exact ixN_nat hk) (by omega) (by omega)
      rw [app_set rfl] at et
      refine ⟨_, _, _, ?_, et, some (.dat (.int (j : Int))), some (.dat (.int v)), cs.set (j % 3) (cs[j % 3] + v * ((j : Int) + 2)), rfl, fun _ => rfl, fun _ => rfl, ?_, by rw [List.length_set]; exact hl⟩
      · clear et hj h3 hk ek hl ej eA eB hn i3 i4
        walk_at "dl"
      · rw [List.map_set])
  by_cases z : cs = []
  · refine ⟨[0], ?_, by simp, by simp⟩
    rw [fold_end (z := false) i3 i4 eA eB e1 (by simp [z])]
    rfl
  · refine ⟨cs, ?_, List.length_pos_iff.mpr z, by rw [hl, List.length_take]; omega⟩
    rw [fold_end (z := true) i3 i4 eA eB e1 (by simp [z])]
    rfl
theorem boxL_run {cs : List Int} {k cell a n : Int} {z : Bool} {h : Hh} (hn : ((cs.map PyData.int).length : Int) = n) (h1 : decide (k < n) = true) (h2 : L2.atI (cs.map PyData.int) k = some (.int cell)) (ha : (if cell < 0 then -cell else cell) = a) (hz : decide (1000000000000000000 ≤ a) = z) :
    m__law_box [.dat (.list (cs.map .int)), .dat (.int k)] h = some (.ref h.length, h ++ [some (.lst [.int (a * (if z = true then 1 else 0)), .int (cell % 2147483629 + 7919 * k + 11), .int 0])]) := by
  have c7 : 3 ≤ sizeLine := by decide
  have hna : Int.natAbs 10 < 18446744073709551616 := by decide
  have lv := leave_ref (h := h) (ds := [.int (a * (if z = true then 1 else 0)), .int (cell % 2147483629 + 7919 * k + 11), .int 0])
  unfold m__law_box
  cases z with
  | true => walk_at "dl"; exact leave_ref
  | false => walk_at "dl"; exact leave_ref
theorem boxL_new {cs : List Int} {k : Nat} {h : Hh} (hk : k < cs.length) (hk2 : k < 100) :
    ∃ d s : Int, m__law_box [.dat (.list (cs.map .int)), .dat (.int (k : Int))] h = some (.ref h.length, h ++ [some (.lst [.int d, .int s, .int 0])]) ∧ 0 ≤ d ∧ 0 ≤ s ∧ s < 1099511627776 := by
  refine ⟨_, _, boxL_run (n := (cs.length : Int)) (by rw [List.length_map]) (by simp; omega) (ints_at hk) rfl rfl, ?_, by omega, by omega⟩
  split <;> split <;> omega
noncomputable def lawTurn (T : Int) (right : FM) : SM := (sSeq (sAsg (fA (m__law_box) (fCons (fVar 1) (fCons (fVar 2) (fNil)))) (gN 3))
    (sIf (bNot (fB (fA allW (fCons (fLc false (rng1I (fCons (fC (.int T)) (fNil))) (gN 4) (bYes) (fA right (fCons (fVar 3) (fNil))) [4]) (fNil))))) (sRet (fC (.bool false))) (sSkip)))
noncomputable def lawF (T : Int) (right : FM) : FM := fnM false 1 5 (sSeq (sAsg (fA (m__law_folded) (fCons (fVar 0) (fCons (fC (.int 3)) (fNil)))) (gN 1))
    (sSeq (sFor (rng1I (fCons (fA lenW (fCons (fVar 1) (fNil))) (fNil))) (gN 2)
    (sSeq (sAsg (fA (m__law_box) (fCons (fVar 1) (fCons (fVar 2) (fNil)))) (gN 3))
    (sIf (bNot (fB (fA allW (fCons (fLc false (rng1I (fCons (fC (.int T)) (fNil))) (gN 4) (bYes) (fA right (fCons (fVar 3) (fNil))) [4]) (fNil))))) (sRet (fC (.bool false))) (sSkip))))
    (sRet (fC (.bool true)))))
theorem lawF_turn {T : Int} {t : Nat} {h0 : Hh} (hT : T.toNat = t) (T0 : -1000000000 ≤ T) (T1 : T ≤ 1000000000) (T2 : t ≤ sizeLine) {right : FM} {cost : Nat} (hr : ∀ (h : Hh) (b c : Nat), Pre h0 h → h0.length ≤ b → BoxAt h b c → c ≤ t * cost → ∃ h', right [.ref b] h = some (.dat (.bool true), h') ∧ BoxAt h' b (c + cost) ∧ Only b h h') {ns cs : List Int} {k : Nat} (k0 : k < cs.length) (k1 : k < 100) (v3 v4 : Option W) (h : Hh) (hp : Pre h0 h) (hl0 : h0.length ≤ h.length) :
    ∃ w3 h', lawTurn T right [some (.scr ns), some (.dat (.list (cs.map .int))), some (.dat (.int (k : Int))), v3, v4] h = some (.nx [some (.scr ns), some (.dat (.list (cs.map .int))), some (.dat (.int (k : Int))), w3, v4], h') ∧ Pre h0 h' ∧ h0.length ≤ h'.length := by
  obtain ⟨d, s, e, hd, hs, hs2⟩ := boxL_new (h := h) k0 k1
  have hb : BoxAt (h ++ [some (.lst [.int d, .int s, .int 0])]) h.length 0 := ⟨d, s, 0, by simp, hd, hs, hs2, by omega, by omega⟩
  obtain ⟨rs, h', e2, hl, hall, _, hp', hl1⟩ := lcL_inv (k := gN 4) (f := fA right (fCons (fVar 3) (fNil))) (ρ := [some (.scr ns), some (.dat (.list (cs.map .int))), some (.dat (.int (k : Int))), some (.ref h.length), none])
    (fun n g => BoxAt g h.length (n * cost) ∧ Pre h0 g ∧ h0.length ≤ g.length) (fun _ d => d = .bool true) (ds := rngD 0 T.toNat) (n := 0) (h := h ++ [some (.lst [.int d, .int s, .int 0])]) (by rw [Nat.zero_mul]; exact ⟨hb, hp.app hl0, by simp; omega⟩) (by
      intro j d' ej g hi
      obtain ⟨hi, hp1, hl1⟩ := hi
      rw [Nat.zero_add] at hi ⊢
      have hj := (rng_get ej).1
      obtain ⟨g', e3, b3, o3⟩ := hr g h.length _ hp1 hl0 hi (Nat.mul_le_mul_right _ (by omega))
      refine ⟨[some (.scr ns), some (.dat (.list (cs.map .int))), some (.dat (.int (k : Int))), some (.ref h.length), some (.dat d')], .bool true, g', rfl, ?_, rfl, by rw [Nat.succ_mul]; exact b3, hp1.only hl0 o3, by rw [o3.len]; exact hl1⟩
      clear hp hp1 hl0 hl1 k0 k1 e
      walk_at "dl")
  have er : rs = List.replicate rs.length (.bool true) := bools_all fun r hr => by
    obtain ⟨j, hj, rfl⟩ := List.getElem_of_mem hr
    exact hall j _ (List.getElem?_eq_getElem hj)
  have hl' : rs.length = t := by rw [hl, rng_len, hT]
  rw [hl'] at er
  subst er
  have e4 := bools_true t
  have e5 := all_true t
  have e6 : (List.replicate t (PyData.bool true)).length ≤ sizeLine := by rw [List.length_replicate]; exact T2
  refine ⟨some (.ref h.length), h', ?_, hp', hl1⟩
  unfold lawTurn
  clear hall hl hl' hb hr hp hp' hl0 hl1 k0 k1
  rw [hT] at e2
  walk_at "dl"
theorem law_okF {T : Int} {t : Nat} {h0 : Hh} (hT : T.toNat = t) (T0 : -1000000000 ≤ T) (T1 : T ≤ 1000000000) (T2 : t ≤ sizeLine) {right : FM} {cost : Nat} (hr : ∀ (h : Hh) (b c : Nat), Pre h0 h → h0.length ≤ b → BoxAt h b c → c ≤ t * cost → ∃ h', right [.ref b] h = some (.dat (.bool true), h') ∧ BoxAt h' b (c + cost) ∧ Only b h h') (ns : List Int) (hn : ns.length ≤ 63) :
    ∃ h', lawF T right [.scr ns] h0 = some (.dat (.bool true), h') := by
  obtain ⟨cs, ec, c0, c3⟩ := folded_ok (h := h0) hn
  obtain ⟨ρ', h', e, w2, w3, w4, rfl, hp, hl⟩ := forL_end (k := gN 2) (body := lawTurn T right) (fun _ ρ g => ∃ w2 w3 w4 : Option W, ρ = [some (.scr ns), some (.dat (.list (cs.map .int))), w2, w3, w4] ∧ Pre h0 g ∧ h0.length ≤ g.length) (ds := rngD 0 cs.length) (ρ := [some (.scr ns), some (.dat (.list (cs.map .int))), none, none, none]) (h := h0) ⟨none, none, none, rfl, fun _ _ => rfl, Nat.le_refl _⟩ (by
      intro j d ej ρ h hi
      obtain ⟨w2, w3, w4, rfl, hp, hl⟩ := hi
      obtain ⟨hj, rfl⟩ := rng_get ej
      obtain ⟨w3', h', e, hp', hl'⟩ := lawF_turn hT T0 T1 T2 hr (ns := ns) (cs := cs) (k := j) hj (by omega) w3 w4 h hp hl
      exact ⟨_, _, h', rfl, e, _, _, _, rfl, hp', hl'⟩)
  refine ⟨h0, ?_⟩
  obtain ⟨n, hn'⟩ : ∃ n : Int, ((cs.map PyData.int).length : Int) = n := ⟨_, rfl⟩
  have b0 : -1000000000 ≤ n := by omega
  have b1 : n ≤ 1000000000 := by rw [← hn', List.length_map]; omega
  have b2 : n.toNat = cs.length := by rw [← hn', List.length_map]; simp
  have lv : leave false h0 (.dat (.bool true)) h' = some (.dat (.bool true), h0) := by
    have e := hp.take hl
    rw [leave_dat (by rw [e]), e]
  unfold lawTurn at e
  unfold lawF
  clear hr T0 T1 T2 hp hl c0 c3
  walk_at "dl"
end DL
set_option maxRecDepth 100000
set_option maxHeartbeats 400000
namespace DL
open PySem L2
variable [HW]
local macro_rules | `(tactic| walk_at "dl") => `(tactic| simp (config := { dsimp := false }) only [↓fnM_e, ↓sSeq_e, seqK_nx, seqK_rt, seqK_bk, seqK_ct, retK_rt, retK_nx, ↓sFrz_e, frK_some, ↓sAsg, ↓sRet, ↓sRetN, ↓sIf, ↓sExpr, ↓sSkip, ↓sNever, ↓sPar, ↓sFor, ↓sSub, ↓fVar, ↓fC, ↓fNil, ↓fCons, ↓fA, ↓f1, ↓f2, ↓fB, ↓fIf, ↓fNeg, ↓fNot, ↓fAnd, ↓fOr, ↓bNot, ↓bAnd, ↓bOr, ↓bYes, ↓obnd_x, ob_some, ↓sbnd_x, sb_some, ↓ite_x, iteK_t, iteK_f, gN, gT, gC, gE, ↓rng1I, ↓rng2I, ↓seqI, ↓enumA, ↓zipI, ↓strI, ↓fLc, ↓fDc, ↓fM, ↓fSl, ↓oNone, ↓oSome, ↓fRev, wipeE, ↓kwM, permM, permL, List.foldr, List.length_cons, List.length_nil, List.map_cons, List.map_nil, List.cons_append, List.nil_append, List.replicate, List.replicate_succ, List.replicate_zero, List.getElem?_cons_zero, List.getElem?_cons_succ, List.set_cons_zero, List.set_cons_succ, if_true, if_false, reduceIte, Nat.reduceAdd, Nat.reduceSub, Nat.reduceEqDiff, Nat.reduceLT, Nat.reduceLeDiff, Int.reduceLT, Int.reduceLE, Int.reduceNeg, Int.reduceMul, Int.reduceAdd, Int.reduceSub, Int.reduceToNat, Int.reducePow, Int.reduceEq, ok, bok, deref, mkL, lstW, tupW, dats, Option.map_some, appendW, insertW, setL, isL, listW, tupleW, lenW, absW, intC, maxW, minW, idxW, addW, subW_e, modW_e, divW_e, powW_e, mulW, intW, lt_e, gt_e, le_e, ge_e, ltW, allW_e, anyW_e, sumW_e, lW, setW, lstAt, cutW, backW, isW, isiW, iLT_none, iLT_bool, iLT_int, iLT_str, iLT_list, iLT_tup, iL_none, iL_bool, iL_int, iL_str, iL_list, iL_tup, iT_none, iT_bool, iT_int, iT_str, iT_list, iT_tup, iS_none, iS_bool, iS_int, iS_str, iS_list, iS_tup, iI_none, iI_bool, iI_int, iI_str, iI_list, iI_tup, iB_none, iB_bool, iB_int, iB_str, iB_list, iB_tup, Bool.false_eq_true, reduceCtorEq, Bool.not_true, Bool.not_false, decide_true, decide_false, List.zip_cons_cons, List.zip_nil_left, List.foldl_cons, List.foldl_nil, and_self, and_true, true_and, Bool.and_true, Bool.true_and, Bool.or_true, Bool.true_or, *])
end DL
set_option maxRecDepth 100000
set_option maxHeartbeats 400000
namespace DL
open PySem L2
variable [HW]
end DL
set_option maxRecDepth 100000
set_option maxHeartbeats 400000
namespace DL
open PySem L2
variable [HW]
end DL
set_option maxRecDepth 100000
set_option maxHeartbeats 400000
namespace DL
open PySem L2
variable [HW]
end DL
set_option maxRecDepth 100000
set_option maxHeartbeats 400000
namespace DL
open PySem L2
variable [HW]
local macro_rules | `(tactic| walk_at "dl") => `(tactic| simp (config := { dsimp := false }) only [↓fnM_e, ↓sSeq_e, seqK_nx, seqK_rt, seqK_bk, seqK_ct, retK_rt, retK_nx, ↓sFrz_e, frK_some, ↓sAsg, ↓sRet, ↓sRetN, ↓sIf, ↓sExpr, ↓sSkip, ↓sNever, ↓sPar, ↓sFor, ↓sSub, ↓fVar, ↓fC, ↓fNil, ↓fCons, ↓fA, ↓f1, ↓f2, ↓fB, ↓fIf, ↓fNeg, ↓fNot, ↓fAnd, ↓fOr, ↓bNot, ↓bAnd, ↓bOr, ↓bYes, ↓obnd_x, ob_some, ↓sbnd_x, sb_some, ↓ite_x, iteK_t, iteK_f, gN, gT, gC, gE, ↓rng1I, ↓rng2I, ↓seqI, ↓enumA, ↓zipI, ↓strI, ↓fLc, ↓fDc, ↓fM, ↓fSl, ↓oNone, ↓oSome, ↓fRev, wipeE, ↓kwM, permM, permL, List.foldr, List.length_cons, List.length_nil, List.map_cons, List.map_nil, List.cons_append, List.nil_append, List.replicate, List.replicate_succ, List.replicate_zero, List.getElem?_cons_zero, List.getElem?_cons_succ, List.set_cons_zero, List.set_cons_succ, if_true, if_false, reduceIte, Nat.reduceAdd, Nat.reduceSub, Nat.reduceEqDiff, Nat.reduceLT, Nat.reduceLeDiff, Int.reduceLT, Int.reduceLE, Int.reduceNeg, Int.reduceMul, Int.reduceAdd, Int.reduceSub, Int.reduceToNat, Int.reducePow, Int.reduceEq, ok, bok, deref, mkL, lstW, tupW, dats, Option.map_some, appendW, insertW, setL, isL, listW, tupleW, lenW, absW, intC, maxW, minW, idxW, addW, subW_e, modW_e, divW_e, powW_e, mulW, intW, lt_e, gt_e, le_e, ge_e, ltW, allW_e, anyW_e, sumW_e, lW, setW, lstAt, cutW, backW, isW, isiW, iLT_none, iLT_bool, iLT_int, iLT_str, iLT_list, iLT_tup, iL_none, iL_bool, iL_int, iL_str, iL_list, iL_tup, iT_none, iT_bool, iT_int, iT_str, iT_list, iT_tup, iS_none, iS_bool, iS_int, iS_str, iS_list, iS_tup, iI_none, iI_bool, iI_int, iI_str, iI_list, iI_tup, iB_none, iB_bool, iB_int, iB_str, iB_list, iB_tup, Bool.false_eq_true, reduceCtorEq, Bool.not_true, Bool.not_false, decide_true, decide_false, List.zip_cons_cons, List.zip_nil_left, List.foldl_cons, List.foldl_nil, and_self, and_true, true_and, Bool.and_true, Bool.true_and, Bool.or_true, Bool.true_or, *])
theorem getD_in {m : List Str} {k : Nat} (h : k < m.length) : m.getD k "" ∈ m := by
  rw [List.getD_eq_getElem?_getD, List.getElem?_eq_getElem h]
  exact List.getElem_mem h
end DL
set_option maxRecDepth 100000
set_option maxHeartbeats 400000
namespace DL
open PySem L2
variable [HW]
theorem words_all {l : List Str} : ∀ {cs : List D}, (∀ d ∈ cs, ∃ ps, d = cT ps ∧ CallOf l ps) → ∃ ws : List (List (Str × Str)), cs = ws.map cT ∧ Words l ws
  | [], _ => ⟨[], rfl, fun ps hp => by cases hp⟩
  | d :: cs, H => by
    obtain ⟨ps, rfl, hp⟩ := H d List.mem_cons_self
    obtain ⟨ws, rfl, hw⟩ := words_all fun e he => H e (List.mem_cons_of_mem _ he)
    exact ⟨ps :: ws, rfl, fun q hq => by
      rcases List.mem_cons.mp hq with rfl | hq
      · exact hp
      · exact hw q hq⟩
theorem at_nat {xs : List D} {j : Nat} {d : D} (h : xs[j]? = some d) : L2.atI xs (j : Int) = some d := by
  obtain ⟨hl, e⟩ := List.getElem?_eq_some_iff.mp h
  unfold L2.atI
  rw [ixN_nat hl]
  exact h
theorem lcL_list {α : Type} {k : TM} {f : EM} {ρ : Env} {h : Hh} (em : α → D) (g : α → D) : ∀ {xs : List α}, (∀ x ∈ xs, ∃ ρ1, k (.dat (em x)) ρ h = some ρ1 ∧ f ρ1 h = some (.dat (g x), h)) → lcL k bYes f ρ (xs.map em) h = some (xs.map g, h)
  | [], _ => rfl
  | x :: xs, H => by
    obtain ⟨ρ1, e1, e2⟩ := H x List.mem_cons_self
    rw [List.map_cons, List.map_cons, lcL]
    simp only [e1, bYes, obnd, if_true, e2]
    rw [lcL_list em g fun y hy => H y (List.mem_cons_of_mem _ hy)]
theorem enum_len : ∀ {k : Nat} {ds : List D}, (enumD k ds).length = ds.length
  | _, [] => rfl
  | k, d :: ds => by rw [enumD, List.length_cons, List.length_cons, enum_len]
end DL
set_option maxRecDepth 100000
set_option maxHeartbeats 400000
namespace DL
open PySem L2
variable [HW]
local macro_rules | `(tactic| walk_at "dl") => `(tactic| simp (config := { dsimp := false }) only [↓fnM_e, ↓sSeq_e, seqK_nx, seqK_rt, seqK_bk, seqK_ct, retK_rt, retK_nx, ↓sFrz_e, frK_some, ↓sAsg, ↓sRet, ↓sRetN, ↓sIf, ↓sExpr, ↓sSkip, ↓sNever, ↓sPar, ↓sFor, ↓sSub, ↓fVar, ↓fC, ↓fNil, ↓fCons, ↓fA, ↓f1, ↓f2, ↓fB, ↓fIf, ↓fNeg, ↓fNot, ↓fAnd, ↓fOr, ↓bNot, ↓bAnd, ↓bOr, ↓bYes, ↓obnd_x, ob_some, ↓sbnd_x, sb_some, ↓ite_x, iteK_t, iteK_f, gN, gT, gC, gE, ↓rng1I, ↓rng2I, ↓seqI, ↓enumA, ↓zipI, ↓strI, ↓fLc, ↓fDc, ↓fM, ↓fSl, ↓oNone, ↓oSome, ↓fRev, wipeE, ↓kwM, permM, permL, List.foldr, List.length_cons, List.length_nil, List.map_cons, List.map_nil, List.cons_append, List.nil_append, List.replicate, List.replicate_succ, List.replicate_zero, List.getElem?_cons_zero, List.getElem?_cons_succ, List.set_cons_zero, List.set_cons_succ, if_true, if_false, reduceIte, Nat.reduceAdd, Nat.reduceSub, Nat.reduceEqDiff, Nat.reduceLT, Nat.reduceLeDiff, Int.reduceLT, Int.reduceLE, Int.reduceNeg, Int.reduceMul, Int.reduceAdd, Int.reduceSub, Int.reduceToNat, Int.reducePow, Int.reduceEq, ok, bok, deref, mkL, lstW, tupW, dats, Option.map_some, appendW, insertW, setL, isL, listW, tupleW, lenW, absW, intC, maxW, minW, idxW, addW, subW_e, modW_e, divW_e, powW_e, mulW, intW, lt_e, gt_e, le_e, ge_e, ltW, allW_e, anyW_e, sumW_e, lW, setW, lstAt, cutW, backW, isW, isiW, iLT_none, iLT_bool, iLT_int, iLT_str, iLT_list, iLT_tup, iL_none, iL_bool, iL_int, iL_str, iL_list, iL_tup, iT_none, iT_bool, iT_int, iT_str, iT_list, iT_tup, iS_none, iS_bool, iS_int, iS_str, iS_list, iS_tup, iI_none, iI_bool, iI_int, iI_str, iI_list, iI_tup, iB_none, iB_bool, iB_int, iB_str, iB_list, iB_tup, Bool.false_eq_true, reduceCtorEq, Bool.not_true, Bool.not_false, decide_true, decide_false, List.zip_cons_cons, List.zip_nil_left, List.foldl_cons, List.foldl_nil, and_self, and_true, true_and, Bool.and_true, Bool.true_and, Bool.or_true, Bool.true_or, *])
def OkA (h : Hh) : Prop := h.all okM = true
theorem OkA.nil : OkA [] := rfl
theorem OkA.app {h : Hh} {o : Option MO} (x : OkA h) (y : okM o = true) : OkA (h ++ [o]) := by
  unfold OkA at *
  rw [List.all_append, x]
  simp [y]
theorem okM_ints (a b c : Int) : okM (some (.lst [.int a, .int b, .int c])) = true := by simp [okM, noLs, noL]
theorem OkA.only {h h' : Hh} {b c : Nat} (x : OkA h) (o : Only b h h') (bx : BoxAt h' b c) : OkA h' := by
  unfold OkA at *
  rw [List.all_eq_true] at *
  intro z hz
  obtain ⟨i, hi, e⟩ := List.getElem_of_mem hz
  have e' : h'[i]? = some z := by rw [List.getElem?_eq_getElem hi, e]
  by_cases hb : i = b
  · subst hb
    obtain ⟨d, s, k, q, _⟩ := bx
    rw [q] at e'
    cases e'
    exact okM_ints _ _ _
  · rw [o.off i hb] at e'
    exact x z (List.mem_of_getElem? e')
theorem OkA.take {h : Hh} (n : Nat) (x : OkA h) : OkA (h.take n) := by
  unfold OkA at *
  rw [List.all_eq_true] at *
  exact fun z hz => x z (List.mem_of_mem_take hz)
end DL
set_option maxRecDepth 100000
set_option maxHeartbeats 400000
namespace DL
open PySem L2
variable [HW]
def Srt (r : List Str) (key : Str → Nat) (m : List Str) : Prop := m.Perm r ∧ m.Pairwise fun a b => key a < key b ∨ (key a = key b ∧ r.idxOf a < r.idxOf b)
theorem Srt.eq {r m m' : List Str} {key : Str → Nat} (h : Srt r key m) (h' : Srt r key m') : m = m' := by
  refine List.Perm.eq_of_pairwise (fun a b ha hb h1 h2 => ?_) h.2 h'.2 (h.1.trans h'.1.symm)
  omega
theorem Srt.congr {r m : List Str} {key key' : Str → Nat} (h : Srt r key m) (e : ∀ s ∈ r, key s = key' s) : Srt r key' m := by
  refine ⟨h.1, List.Pairwise.imp_of_mem ?_ h.2⟩
  intro a b ha hb q
  rw [← e a (h.1.mem_iff.mp ha), ← e b (h.1.mem_iff.mp hb)]
  exact q
theorem pw_idxS {r : List Str} (nd : r.Nodup) : r.Pairwise fun a b => r.idxOf a < r.idxOf b := by
  rw [List.pairwise_iff_getElem]
  intro i j hi hj hij
  rw [idx_of nd hi, idx_of nd hj]
  exact hij
theorem Srt.start {r : List Str} (nd : r.Nodup) : Srt r (fun _ => 0) r := ⟨.refl _, (pw_idxS nd).imp fun h => .inr ⟨rfl, h⟩⟩
theorem Srt.idx {r m : List Str} {key : Str → Nat} (h : Srt r key m) {a b : Str} (ha : a ∈ m) (hb : b ∈ m) : m.idxOf a < m.idxOf b ↔ (key a < key b ∨ (key a = key b ∧ r.idxOf a < r.idxOf b)) := by
  have la := List.idxOf_lt_length_of_mem ha
  have lb := List.idxOf_lt_length_of_mem hb
  have ea := List.getElem_idxOf la
  have eb := List.getElem_idxOf lb
  have pw := List.pairwise_iff_getElem.mp h.2
  constructor
  · intro q
    have := pw _ _ la lb q
    rwa [ea, eb] at this
  · intro q
    rcases Nat.lt_trichotomy (m.idxOf a) (m.idxOf b) with z | z | z
    · exact z
    · have e := idx_inj ha hb z
      subst e
      omega
    · have := pw _ _ lb la z
      rw [ea, eb] at this
      omega
theorem Srt.step {r m : List Str} {num : Str → Nat} {f k : Nat} {ps : List (Str × Str)} (nd : r.Nodup) (h : Srt r (fun s => num s % f ^ k) m) (hg : ∀ s ∈ r, m.idxOf (goal ps s) = num s / f ^ k % f) (f0 : 0 < f) : Srt r (fun s => num s % f ^ (k + 1)) (led m ps) := by
  have nm : m.Nodup := h.1.nodup_iff.mpr nd
  have nl : (led m ps).Nodup := led_nodup nm ps
  refine ⟨(led_perm m ps).trans h.1, List.Pairwise.imp_of_mem ?_ (List.Pairwise.and (led_pw m ps) nl)⟩
  intro a b ha hb q
  obtain ⟨hab, ne⟩ := q
  have ha' := (led_perm m ps).mem_iff.mp ha
  have hb' := (led_perm m ps).mem_iff.mp hb
  have ix := h.idx ha' hb'
  unfold leK keyN at hab
  simp only [decide_eq_true_eq] at hab
  rw [hg a (h.1.mem_iff.mp ha'), hg b (h.1.mem_iff.mp hb')] at hab
  have ea : num a % f ^ (k + 1) = num a % f ^ k + f ^ k * (num a / f ^ k % f) := Nat.mod_pow_succ
  have eb : num b % f ^ (k + 1) = num b % f ^ k + f ^ k * (num b / f ^ k % f) := Nat.mod_pow_succ
  have pf : 0 < f ^ k := Nat.pow_pos f0
  have ma : num a % f ^ k < f ^ k := Nat.mod_lt _ pf
  show num a % f ^ (k + 1) < num b % f ^ (k + 1) ∨ (num a % f ^ (k + 1) = num b % f ^ (k + 1) ∧ r.idxOf a < r.idxOf b)
  rw [ea, eb]
  clear ea eb
  generalize num a % f ^ k = A at *
  generalize num b % f ^ k = B at *
  generalize num a / f ^ k % f = da at *
  generalize num b / f ^ k % f = db at *
  rcases hab with q | ⟨q1, q2⟩
  · left
    have := Nat.mul_le_mul_left (f ^ k) (show da + 1 ≤ db from q)
    rw [Nat.mul_succ] at this
    omega
  · rw [q1]
    have lt : m.idxOf a < m.idxOf b := by
      rcases Nat.lt_or_eq_of_le q2 with z | z
      · exact z
      · exact absurd (idx_inj ha' hb' z) ne
    have := ix.mp lt
    omega
end DL
set_option maxRecDepth 100000
set_option maxHeartbeats 400000
namespace DL
open PySem L2
variable [HW]
local macro_rules | `(tactic| walk_at "dl") => `(tactic| simp (config := { dsimp := false }) only [↓fnM_e, ↓sSeq_e, seqK_nx, seqK_rt, seqK_bk, seqK_ct, retK_rt, retK_nx, ↓sFrz_e, frK_some, ↓sAsg, ↓sRet, ↓sRetN, ↓sIf, ↓sExpr, ↓sSkip, ↓sNever, ↓sPar, ↓sFor, ↓sSub, ↓fVar, ↓fC, ↓fNil, ↓fCons, ↓fA, ↓f1, ↓f2, ↓fB, ↓fIf, ↓fNeg, ↓fNot, ↓fAnd, ↓fOr, ↓bNot, ↓bAnd, ↓bOr, ↓bYes, ↓obnd_x, ob_some, ↓sbnd_x, sb_some, ↓ite_x, iteK_t, iteK_f, gN, gT, gC, gE, ↓rng1I, ↓rng2I, ↓seqI, ↓enumA, ↓zipI, ↓strI, ↓fLc, ↓fDc, ↓fM, ↓fSl, ↓oNone, ↓oSome, ↓fRev, wipeE, ↓kwM, permM, permL, List.foldr, List.length_cons, List.length_nil, List.map_cons, List.map_nil, List.cons_append, List.nil_append, List.replicate, List.replicate_succ, List.replicate_zero, List.getElem?_cons_zero, List.getElem?_cons_succ, List.set_cons_zero, List.set_cons_succ, if_true, if_false, reduceIte, Nat.reduceAdd, Nat.reduceSub, Nat.reduceEqDiff, Nat.reduceLT, Nat.reduceLeDiff, Int.reduceLT, Int.reduceLE, Int.reduceNeg, Int.reduceMul, Int.reduceAdd, Int.reduceSub, Int.reduceToNat, Int.reducePow, Int.reduceEq, ok, bok, deref, mkL, lstW, tupW, dats, Option.map_some, appendW, insertW, setL, isL, listW, tupleW, lenW, absW, intC, maxW, minW, idxW, addW, subW_e, modW_e, divW_e, powW_e, mulW, intW, lt_e, gt_e, le_e, ge_e, ltW, allW_e, anyW_e, sumW_e, lW, setW, lstAt, cutW, backW, isW, isiW, iLT_none, iLT_bool, iLT_int, iLT_str, iLT_list, iLT_tup, iL_none, iL_bool, iL_int, iL_str, iL_list, iL_tup, iT_none, iT_bool, iT_int, iT_str, iT_list, iT_tup, iS_none, iS_bool, iS_int, iS_str, iS_list, iS_tup, iI_none, iI_bool, iI_int, iI_str, iI_list, iI_tup, iB_none, iB_bool, iB_int, iB_str, iB_list, iB_tup, Bool.false_eq_true, reduceCtorEq, Bool.not_true, Bool.not_false, decide_true, decide_false, List.zip_cons_cons, List.zip_nil_left, List.foldl_cons, List.foldl_nil, and_self, and_true, true_and, Bool.and_true, Bool.true_and, Bool.or_true, Bool.true_or, *])
end DL
set_option maxRecDepth 100000
set_option maxHeartbeats 400000
namespace DL
open PySem L2
variable [HW]
local macro_rules | `(tactic| walk_at "dl") => `(tactic| simp (config := { dsimp := false }) only [↓fnM_e, ↓sSeq_e, seqK_nx, seqK_rt, seqK_bk, seqK_ct, retK_rt, retK_nx, ↓sFrz_e, frK_some, ↓sAsg, ↓sRet, ↓sRetN, ↓sIf, ↓sExpr, ↓sSkip, ↓sNever, ↓sPar, ↓sFor, ↓sSub, ↓fVar, ↓fC, ↓fNil, ↓fCons, ↓fA, ↓f1, ↓f2, ↓fB, ↓fIf, ↓fNeg, ↓fNot, ↓fAnd, ↓fOr, ↓bNot, ↓bAnd, ↓bOr, ↓bYes, ↓obnd_x, ob_some, ↓sbnd_x, sb_some, ↓ite_x, iteK_t, iteK_f, gN, gT, gC, gE, ↓rng1I, ↓rng2I, ↓seqI, ↓enumA, ↓zipI, ↓strI, ↓fLc, ↓fDc, ↓fM, ↓fSl, ↓oNone, ↓oSome, ↓fRev, wipeE, ↓kwM, permM, permL, List.foldr, List.length_cons, List.length_nil, List.map_cons, List.map_nil, List.cons_append, List.nil_append, List.replicate, List.replicate_succ, List.replicate_zero, List.getElem?_cons_zero, List.getElem?_cons_succ, List.set_cons_zero, List.set_cons_succ, if_true, if_false, reduceIte, Nat.reduceAdd, Nat.reduceSub, Nat.reduceEqDiff, Nat.reduceLT, Nat.reduceLeDiff, Int.reduceLT, Int.reduceLE, Int.reduceNeg, Int.reduceMul, Int.reduceAdd, Int.reduceSub, Int.reduceToNat, Int.reducePow, Int.reduceEq, ok, bok, deref, mkL, lstW, tupW, dats, Option.map_some, appendW, insertW, setL, isL, listW, tupleW, lenW, absW, intC, maxW, minW, idxW, addW, subW_e, modW_e, divW_e, powW_e, mulW, intW, lt_e, gt_e, le_e, ge_e, ltW, allW_e, anyW_e, sumW_e, lW, setW, lstAt, cutW, backW, isW, isiW, iLT_none, iLT_bool, iLT_int, iLT_str, iLT_list, iLT_tup, iL_none, iL_bool, iL_int, iL_str, iL_list, iL_tup, iT_none, iT_bool, iT_int, iT_str, iT_list, iT_tup, iS_none, iS_bool, iS_int, iS_str, iS_list, iS_tup, iI_none, iI_bool, iI_int, iI_str, iI_list, iI_tup, iB_none, iB_bool, iB_int, iB_str, iB_list, iB_tup, Bool.false_eq_true, reduceCtorEq, Bool.not_true, Bool.not_false, decide_true, decide_false, List.zip_cons_cons, List.zip_nil_left, List.foldl_cons, List.foldl_nil, and_self, and_true, true_and, Bool.and_true, Bool.true_and, Bool.or_true, Bool.true_or, *])
end DL
set_option maxRecDepth 100000
set_option maxHeartbeats 400000
namespace DL
open PySem L2
variable [HW]
local macro_rules | `(tactic| walk_at "dl") => `(tactic| simp (config := { dsimp := false }) only [↓fnM_e, ↓sSeq_e, seqK_nx, seqK_rt, seqK_bk, seqK_ct, retK_rt, retK_nx, ↓sFrz_e, frK_some, ↓sAsg, ↓sRet, ↓sRetN, ↓sIf, ↓sExpr, ↓sSkip, ↓sNever, ↓sPar, ↓sFor, ↓sSub, ↓fVar, ↓fC, ↓fNil, ↓fCons, ↓fA, ↓f1, ↓f2, ↓fB, ↓fIf, ↓fNeg, ↓fNot, ↓fAnd, ↓fOr, ↓bNot, ↓bAnd, ↓bOr, ↓bYes, ↓obnd_x, ob_some, ↓sbnd_x, sb_some, ↓ite_x, iteK_t, iteK_f, gN, gT, gC, gE, ↓rng1I, ↓rng2I, ↓seqI, ↓enumA, ↓zipI, ↓strI, ↓fLc, ↓fDc, ↓fM, ↓fSl, ↓oNone, ↓oSome, ↓fRev, wipeE, ↓kwM, permM, permL, List.foldr, List.length_cons, List.length_nil, List.map_cons, List.map_nil, List.cons_append, List.nil_append, List.replicate, List.replicate_succ, List.replicate_zero, List.getElem?_cons_zero, List.getElem?_cons_succ, List.set_cons_zero, List.set_cons_succ, if_true, if_false, reduceIte, Nat.reduceAdd, Nat.reduceSub, Nat.reduceEqDiff, Nat.reduceLT, Nat.reduceLeDiff, Int.reduceLT, Int.reduceLE, Int.reduceNeg, Int.reduceMul, Int.reduceAdd, Int.reduceSub, Int.reduceToNat, Int.reducePow, Int.reduceEq, ok, bok, deref, mkL, lstW, tupW, dats, Option.map_some, appendW, insertW, setL, isL, listW, tupleW, lenW, absW, intC, maxW, minW, idxW, addW, subW_e, modW_e, divW_e, powW_e, mulW, intW, lt_e, gt_e, le_e, ge_e, ltW, allW_e, anyW_e, sumW_e, lW, setW, lstAt, cutW, backW, isW, isiW, iLT_none, iLT_bool, iLT_int, iLT_str, iLT_list, iLT_tup, iL_none, iL_bool, iL_int, iL_str, iL_list, iL_tup, iT_none, iT_bool, iT_int, iT_str, iT_list, iT_tup, iS_none, iS_bool, iS_int, iS_str, iS_list, iS_tup, iI_none, iI_bool, iI_int, iI_str, iI_list, iI_tup, iB_none, iB_bool, iB_int, iB_str, iB_list, iB_tup, Bool.false_eq_true, reduceCtorEq, Bool.not_true, Bool.not_false, decide_true, decide_false, List.zip_cons_cons, List.zip_nil_left, List.foldl_cons, List.foldl_nil, and_self, and_true, true_and, Bool.and_true, Bool.true_and, Bool.or_true, Bool.true_or, *])
theorem all_noDM_app {h : Hh} {o : Option MO} (hk : h.all noDM = true) (ho : noDM o = true) : (h ++ [o]).all noDM = true := by
  rw [List.all_append, hk]
  simp [ho]
end DL
set_option maxRecDepth 100000
set_option maxHeartbeats 400000
namespace DL
open PySem L2
variable [HW]
local macro_rules | `(tactic| walk_at "dl") => `(tactic| simp (config := { dsimp := false }) only [↓fnM_e, ↓sSeq_e, seqK_nx, seqK_rt, seqK_bk, seqK_ct, retK_rt, retK_nx, ↓sFrz_e, frK_some, ↓sAsg, ↓sRet, ↓sRetN, ↓sIf, ↓sExpr, ↓sSkip, ↓sNever, ↓sPar, ↓sFor, ↓sSub, ↓fVar, ↓fC, ↓fNil, ↓fCons, ↓fA, ↓f1, ↓f2, ↓fB, ↓fIf, ↓fNeg, ↓fNot, ↓fAnd, ↓fOr, ↓bNot, ↓bAnd, ↓bOr, ↓bYes, ↓obnd_x, ob_some, ↓sbnd_x, sb_some, ↓ite_x, iteK_t, iteK_f, gN, gT, gC, gE, ↓rng1I, ↓rng2I, ↓seqI, ↓enumA, ↓zipI, ↓strI, ↓fLc, ↓fDc, ↓fM, ↓fSl, ↓oNone, ↓oSome, ↓fRev, wipeE, ↓kwM, permM, permL, List.foldr, List.length_cons, List.length_nil, List.map_cons, List.map_nil, List.cons_append, List.nil_append, List.replicate, List.replicate_succ, List.replicate_zero, List.getElem?_cons_zero, List.getElem?_cons_succ, List.set_cons_zero, List.set_cons_succ, if_true, if_false, reduceIte, Nat.reduceAdd, Nat.reduceSub, Nat.reduceEqDiff, Nat.reduceLT, Nat.reduceLeDiff, Int.reduceLT, Int.reduceLE, Int.reduceNeg, Int.reduceMul, Int.reduceAdd, Int.reduceSub, Int.reduceToNat, Int.reducePow, Int.reduceEq, ok, bok, deref, mkL, lstW, tupW, dats, Option.map_some, appendW, insertW, setL, isL, listW, tupleW, lenW, absW, intC, maxW, minW, idxW, addW, subW_e, modW_e, divW_e, powW_e, mulW, intW, lt_e, gt_e, le_e, ge_e, ltW, allW_e, anyW_e, sumW_e, lW, setW, lstAt, cutW, backW, isW, isiW, iLT_none, iLT_bool, iLT_int, iLT_str, iLT_list, iLT_tup, iL_none, iL_bool, iL_int, iL_str, iL_list, iL_tup, iT_none, iT_bool, iT_int, iT_str, iT_list, iT_tup, iS_none, iS_bool, iS_int, iS_str, iS_list, iS_tup, iI_none, iI_bool, iI_int, iI_str, iI_list, iI_tup, iB_none, iB_bool, iB_int, iB_str, iB_list, iB_tup, Bool.false_eq_true, reduceCtorEq, Bool.not_true, Bool.not_false, decide_true, decide_false, List.zip_cons_cons, List.zip_nil_left, List.foldl_cons, List.foldl_nil, and_self, and_true, true_and, Bool.and_true, Bool.true_and, Bool.or_true, Bool.true_or, *])
end DL
set_option maxRecDepth 100000
set_option maxHeartbeats 400000
namespace DL
open PySem L2
variable [HW]
local macro_rules | `(tactic| walk_at "dl") => `(tactic| simp (config := { dsimp := false }) only [↓fnM_e, ↓sSeq_e, seqK_nx, seqK_rt, seqK_bk, seqK_ct, retK_rt, retK_nx, ↓sFrz_e, frK_some, ↓sAsg, ↓sRet, ↓sRetN, ↓sIf, ↓sExpr, ↓sSkip, ↓sNever, ↓sPar, ↓sFor, ↓sSub, ↓fVar, ↓fC, ↓fNil, ↓fCons, ↓fA, ↓f1, ↓f2, ↓fB, ↓fIf, ↓fNeg, ↓fNot, ↓fAnd, ↓fOr, ↓bNot, ↓bAnd, ↓bOr, ↓bYes, ↓obnd_x, ob_some, ↓sbnd_x, sb_some, ↓ite_x, iteK_t, iteK_f, gN, gT, gC, gE, ↓rng1I, ↓rng2I, ↓seqI, ↓enumA, ↓zipI, ↓strI, ↓fLc, ↓fDc, ↓fM, ↓fSl, ↓oNone, ↓oSome, ↓fRev, wipeE, ↓kwM, permM, permL, List.foldr, List.length_cons, List.length_nil, List.map_cons, List.map_nil, List.cons_append, List.nil_append, List.replicate, List.replicate_succ, List.replicate_zero, List.getElem?_cons_zero, List.getElem?_cons_succ, List.set_cons_zero, List.set_cons_succ, if_true, if_false, reduceIte, Nat.reduceAdd, Nat.reduceSub, Nat.reduceEqDiff, Nat.reduceLT, Nat.reduceLeDiff, Int.reduceLT, Int.reduceLE, Int.reduceNeg, Int.reduceMul, Int.reduceAdd, Int.reduceSub, Int.reduceToNat, Int.reducePow, Int.reduceEq, ok, bok, deref, mkL, lstW, tupW, dats, Option.map_some, appendW, insertW, setL, isL, listW, tupleW, lenW, absW, intC, maxW, minW, idxW, addW, subW_e, modW_e, divW_e, powW_e, mulW, intW, lt_e, gt_e, le_e, ge_e, ltW, allW_e, anyW_e, sumW_e, lW, setW, lstAt, cutW, backW, isW, isiW, iLT_none, iLT_bool, iLT_int, iLT_str, iLT_list, iLT_tup, iL_none, iL_bool, iL_int, iL_str, iL_list, iL_tup, iT_none, iT_bool, iT_int, iT_str, iT_list, iT_tup, iS_none, iS_bool, iS_int, iS_str, iS_list, iS_tup, iI_none, iI_bool, iI_int, iI_str, iI_list, iI_tup, iB_none, iB_bool, iB_int, iB_str, iB_list, iB_tup, Bool.false_eq_true, reduceCtorEq, Bool.not_true, Bool.not_false, decide_true, decide_false, List.zip_cons_cons, List.zip_nil_left, List.foldl_cons, List.foldl_nil, and_self, and_true, true_and, Bool.and_true, Bool.true_and, Bool.or_true, Bool.true_or, *])
structure JD (h0 h : Hh) : Prop where
  pre : Pre h0 h
  len : h0.length ≤ h.length
  nod : h.all noDM = true
theorem JD.app {h0 h : Hh} (j : JD h0 h) {o : Option MO} (ho : noDM o = true) : JD h0 (h ++ [o]) := ⟨j.pre.app j.len, by rw [List.length_append]; have := j.len; omega, all_noDM_app j.nod ho⟩
theorem noDM_ints (a b c : Int) : noDM (some (.lst [.int a, .int b, .int c])) = true := by simp [noDM, noDs, noD]
theorem nod_only {h h' : Hh} {b c : Nat} (hk : h.all noDM = true) (o : Only b h h') (bx : BoxAt h' b c) : h'.all noDM = true := by
  rw [List.all_eq_true] at *
  intro z hz
  obtain ⟨i, hi, e⟩ := List.getElem_of_mem hz
  have e' : h'[i]? = some z := by rw [List.getElem?_eq_getElem hi, e]
  by_cases hb : i = b
  · subst hb
    obtain ⟨d, s, k, q, _⟩ := bx
    rw [q] at e'
    cases e'
    exact noDM_ints _ _ _
  · rw [o.off i hb] at e'
    exact hk z (List.mem_of_getElem? e')
theorem JD.only {h0 h h' : Hh} {b c : Nat} (j : JD h0 h) (hb : h0.length ≤ b) (o : Only b h h') (bx : BoxAt h' b c) : JD h0 h' := ⟨j.pre.only hb o, by rw [o.len]; exact j.len, nod_only j.nod o bx⟩
end DL
set_option maxRecDepth 100000
set_option maxHeartbeats 400000
namespace DL
open PySem L2
variable [HW]
local macro_rules | `(tactic| walk_at "dl") => `(tactic| simp (config := { dsimp := false }) only [↓fnM_e, ↓sSeq_e, seqK_nx, seqK_rt, seqK_bk, seqK_ct, retK_rt, retK_nx, ↓sFrz_e, frK_some, ↓sAsg, ↓sRet, ↓sRetN, ↓sIf, ↓sExpr, ↓sSkip, ↓sNever, ↓sPar, ↓sFor, ↓sSub, ↓fVar, ↓fC, ↓fNil, ↓fCons, ↓fA, ↓f1, ↓f2, ↓fB, ↓fIf, ↓fNeg, ↓fNot, ↓fAnd, ↓fOr, ↓bNot, ↓bAnd, ↓bOr, ↓bYes, ↓obnd_x, ob_some, ↓sbnd_x, sb_some, ↓ite_x, iteK_t, iteK_f, gN, gT, gC, gE, ↓rng1I, ↓rng2I, ↓seqI, ↓enumA, ↓zipI, ↓strI, ↓fLc, ↓fDc, ↓fM, ↓fSl, ↓oNone, ↓oSome, ↓fRev, wipeE, ↓kwM, permM, permL, List.foldr, List.length_cons, List.length_nil, List.map_cons, List.map_nil, List.cons_append, List.nil_append, List.replicate, List.replicate_succ, List.replicate_zero, List.getElem?_cons_zero, List.getElem?_cons_succ, List.set_cons_zero, List.set_cons_succ, if_true, if_false, reduceIte, Nat.reduceAdd, Nat.reduceSub, Nat.reduceEqDiff, Nat.reduceLT, Nat.reduceLeDiff, Int.reduceLT, Int.reduceLE, Int.reduceNeg, Int.reduceMul, Int.reduceAdd, Int.reduceSub, Int.reduceToNat, Int.reducePow, Int.reduceEq, ok, bok, deref, mkL, lstW, tupW, dats, Option.map_some, appendW, insertW, setL, isL, listW, tupleW, lenW, absW, intC, maxW, minW, idxW, addW, subW_e, modW_e, divW_e, powW_e, mulW, intW, lt_e, gt_e, le_e, ge_e, ltW, allW_e, anyW_e, sumW_e, lW, setW, lstAt, cutW, backW, isW, isiW, iLT_none, iLT_bool, iLT_int, iLT_str, iLT_list, iLT_tup, iL_none, iL_bool, iL_int, iL_str, iL_list, iL_tup, iT_none, iT_bool, iT_int, iT_str, iT_list, iT_tup, iS_none, iS_bool, iS_int, iS_str, iS_list, iS_tup, iI_none, iI_bool, iI_int, iI_str, iI_list, iI_tup, iB_none, iB_bool, iB_int, iB_str, iB_list, iB_tup, Bool.false_eq_true, reduceCtorEq, Bool.not_true, Bool.not_false, decide_true, decide_false, List.zip_cons_cons, List.zip_nil_left, List.foldl_cons, List.foldl_nil, and_self, and_true, true_and, Bool.and_true, Bool.true_and, Bool.or_true, Bool.true_or, *])
def prsN (N : List Str) : List (Str × Str) := N.flatMap fun a => (N.filter fun b => !decide (a = b)).map fun b => (a, b)
theorem prsN_mem {N : List Str} {p : Str × Str} : p ∈ prsN N ↔ p.1 ∈ N ∧ p.2 ∈ N ∧ p.1 ≠ p.2 := by
  unfold prsN
  simp only [List.mem_flatMap, List.mem_map, List.mem_filter, Bool.not_eq_true', decide_eq_false_iff_not]
  constructor
  · rintro ⟨a, ha, b, ⟨hb, ne⟩, rfl⟩; exact ⟨ha, hb, ne⟩
  · rintro ⟨h1, h2, h3⟩; exact ⟨p.1, h1, p.2, ⟨h2, h3⟩, rfl⟩
theorem flat_nd {α β : Type} (f : α → List β) : ∀ {l : List α}, (∀ a ∈ l, (f a).Nodup) → l.Pairwise (fun a b => ∀ x ∈ f a, x ∉ f b) → (l.flatMap f).Nodup
  | [], _, _ => List.nodup_nil
  | a :: l, h1, h2 => by
    rw [List.flatMap_cons, List.nodup_append]
    obtain ⟨p, q⟩ := List.pairwise_cons.mp h2
    refine ⟨h1 a List.mem_cons_self, flat_nd f (fun b hb => h1 b (List.mem_cons_of_mem _ hb)) q, ?_⟩
    intro x hx y hy z
    subst z
    obtain ⟨b, hb, hxb⟩ := List.mem_flatMap.mp hy
    exact p b hb x hx hxb
theorem prsN_nodup {N : List Str} (nd : N.Nodup) : (prsN N).Nodup := by
  refine flat_nd _ (fun a _ => ?_) ?_
  · have : (N.filter fun b => !decide (a = b)).Nodup := nd.filter _
    rw [List.nodup_iff_pairwise_ne, List.pairwise_map]
    exact this.imp fun {b c} ne z => ne (by cases z; rfl)
  · refine List.Pairwise.imp ?_ nd
    intro a b ne x hx hy
    obtain ⟨_, _, rfl⟩ := List.mem_map.mp hx
    obtain ⟨_, _, e⟩ := List.mem_map.mp hy
    cases e
    exact ne rfl
theorem flat_le {α β : Type} (f : α → List β) {k : Nat} : ∀ {l : List α}, (∀ a ∈ l, (f a).length ≤ k) → (l.flatMap f).length ≤ l.length * k
  | [], _ => by simp
  | a :: l, h => by
    have h1 := h a List.mem_cons_self
    have h2 := flat_le f (l := l) fun b hb => h b (List.mem_cons_of_mem _ hb)
    rw [List.flatMap_cons, List.length_append, List.length_cons, Nat.succ_mul]
    omega
theorem prsN_len (N : List Str) : (prsN N).length ≤ N.length * N.length := flat_le _ fun a _ => by
  rw [List.length_map]; exact List.length_filter_le _ _
theorem prsN_small {N : List Str} (h : N.length ≤ 100) : (prsN N).length ≤ 10000 := Nat.le_trans (prsN_len N) (Nat.mul_le_mul h h)
theorem pairs_in {x : W} {a : Str} {h : Hh} : ∀ (M : List Str), lcL (gN 2) (fB (f2 (eqW true) (fVar 1) (fVar 2))) (fA tupW (fCons (fVar 1) (fCons (fVar 2) (fNil)))) [some x, some (.dat (.str a)), none] (M.map .str) h = some (((M.filter fun b => !decide (a = b)).map fun b => (a, b)).map prT, h) := by
  intro M
  have c2 : 2 ≤ sizeLine := by decide
  have e := lcL_map (k := gN 2) (t := fB (f2 (eqW true) (fVar 1) (fVar 2))) (f := fA tupW (fCons (fVar 1) (fCons (fVar 2) (fNil)))) (ρ := [some x, some (W.dat (.str a)), none]) (h := h) (fun d => !decide (a = unS d)) (fun d => prT (a, unS d)) (ds := M.map .str) (by
    intro d hd
    obtain ⟨s, hs, rfl⟩ := List.mem_map.mp hd
    have eq := eqW_strs (neg := true) (i := a) (j := s) (h := h)
    rw [if_pos rfl] at eq
    refine ⟨[some x, some (.dat (.str a)), some (.dat (.str s))], rfl, ?_, fun _ => ?_⟩
    · clear hs hd c2
      show fB (f2 (eqW true) (fVar 1) (fVar 2)) _ h = some (!decide (a = s), h)
      walk_at "dl"
    · clear hs hd eq
      show _ = some (W.dat (prT (a, s)), h)
      walk_at "dl")
  rw [e]
  congr 2
  clear e
  induction M with
  | nil => rfl
  | cons b M ih =>
    have q : unS (.str b) = b := rfl
    simp only [List.map_cons, List.filter_cons, q]
    split
    · rw [List.map_cons, List.map_cons, List.map_cons, ih]; rfl
    · exact ih
theorem pairs_out {x : D} {N : List Str} {h : Hh} (hx : IsSeq x (N.map .str)) : ∀ (M : List Str), lc2L (gN 1) (bYes) 0 (gN 2) (fB (f2 (eqW true) (fVar 1) (fVar 2))) (fA tupW (fCons (fVar 1) (fCons (fVar 2) (fNil)))) [2] [some (.dat x), none, none] (M.map .str) h = some ((M.flatMap fun a => (N.filter fun b => !decide (a = b)).map fun b => (a, b)).map prT, h)
  | [] => rfl
  | a :: M => by
    have ih := pairs_out hx (h := h) M
    have e := pairs_in (x := .dat x) (a := a) (h := h) N
    have dl : datL (some (some (.dat x))) = some (N.map .str) := by rcases hx with rfl | rfl <;> rfl
    rw [List.map_cons, List.flatMap_cons, List.map_append]
    unfold lc2L
    have es : (gN 1) (.dat (.str a)) [some (.dat x), none, none] h = some [some (.dat x), some (.dat (.str a)), none] := rfl
    have ew : wipeE [some (.dat x), some (.dat (.str a)), none] [2] = [some (.dat x), some (.dat (.str a)), none] := rfl
    simp only [es, bYes, obnd, if_true, List.getElem?_cons_zero, dl, ew, e, ih]
theorem all_pairs_ok {x : D} {N : List Str} {h : Hh} (hx : IsSeq x (N.map .str)) (hl : N.length ≤ 100) : m_all_pairs [.dat x] h = some (.dat (.list ((prsN N).map prT)), h) := by
  have e : lc2L (gN 1) (bYes) 0 (gN 2) (fB (f2 (eqW true) (fVar 1) (fVar 2))) (fA tupW (fCons (fVar 1) (fCons (fVar 2) (fNil)))) [2] [some (.dat x), none, none] (N.map .str) h = some ((prsN N).map prT, h) := pairs_out hx N
  have l1 : ((prsN N).map prT).length ≤ sizeLine := by rw [List.length_map]; exact Nat.le_trans (prsN_small hl) (by decide)
  have lv := leave_same' (h := h) (d := .list ((prsN N).map prT))
  have si : seqI (fVar 0) [some (.dat x), none, none] h = some (N.map .str, h) := by rcases hx with rfl | rfl <;> rfl
  have fl : fLc2 false (seqI (fVar 0)) (gN 1) (bYes) 0 (gN 2) (fB (f2 (eqW true) (fVar 1) (fVar 2))) (fA tupW (fCons (fVar 1) (fCons (fVar 2) (fNil)))) [1, 2] [2] [some (.dat x), none, none] h = some (.dat (.list ((prsN N).map prT)), h) := by
    unfold fLc2
    rw [si]
    show obnd (lc2L _ _ _ _ _ _ _ [some (.dat x), none, none] _ h) _ = _
    rw [e]
    simp only [obnd]
    rw [if_pos l1]; rfl
  unfold m_all_pairs
  clear hx hl e l1 si
  walk_at "dl"
def tblD (ps : List (Str × Str)) (f : Str × Str → Str × Str) : List (D × D) := ps.map fun p => (prT p, prT (f p))
abbrev tabD (N : List Str) (f : Str × Str → Str × Str) : D := .dict ((.none, .none) :: tblD (prsN N) f)
abbrev pK (p : Str × Str) : List Key := [.inr p.1, .inr p.2]
theorem tKey_prT (p : Str × Str) : tKey (prT p) = some (pK p) := rfl
theorem pK_inj {p q : Str × Str} (e : pK p = pK q) : p = q := by
  obtain ⟨a, b⟩ := p; obtain ⟨c, d⟩ := q
  simp only [pK, List.cons.injEq, Sum.inr.injEq, and_true] at e
  rw [e.1, e.2]
theorem getT_in {f : Str × Str → Str × Str} {p : Str × Str} : ∀ {ps : List (Str × Str)}, p ∈ ps → getT (tblD ps f) (pK p) = some (prT (f p))
  | [], h => by cases h
  | q :: ps, h => by
    show ((List.find? _ ((prT q, prT (f q)) :: tblD ps f)).map _) = _
    rw [List.find?_cons]
    by_cases z : q = p
    · subst z; simp [tKey_prT]
    · have z' : decide (tKey (prT q) = some (pK p)) = false := by
        rw [tKey_prT]
        simp only [Option.some.injEq, decide_eq_false_iff_not]
        exact fun w => z (pK_inj w)
      rw [z']
      exact getT_in (ps := ps) ((List.mem_cons.mp h).resolve_left fun w => z w.symm)
theorem getT_out {f : Str × Str → Str × Str} {p : Str × Str} : ∀ {ps : List (Str × Str)}, p ∉ ps → getT (tblD ps f) (pK p) = none
  | [], _ => rfl
  | q :: ps, h => by
    show ((List.find? _ ((prT q, prT (f q)) :: tblD ps f)).map _) = _
    rw [List.find?_cons]
    have z' : decide (tKey (prT q) = some (pK p)) = false := by
      rw [tKey_prT]
      simp only [Option.some.injEq, decide_eq_false_iff_not]
      intro w
      exact h (by rw [pK_inj w]; exact List.mem_cons_self)
    rw [z']
    exact getT_out (ps := ps) fun w => h (List.mem_cons_of_mem _ w)
theorem bare_prT (p : Str × Str) : bareK (prT p) = false := rfl
theorem getD_tab {N : List Str} {f : Str × Str → Str × Str} {p : Str × Str} (h : p ∈ prsN N) : getD ((.none, .none) :: tblD (prsN N) f) (prT p) = some (some (prT (f p))) := by
  unfold getD
  rw [if_pos (show isT ((PyData.none, PyData.none) :: tblD (prsN N) f) = true from rfl), bare_prT, if_neg (by simp), tKey_prT, Option.map_some]
  show some (getT (tblD (prsN N) f) (pK p)) = _
  rw [getT_in h]
theorem dcTL_tab {k : TM} {fk fv : EM} {ρ : Env} {h : Hh} {f : Str × Str → Str × Str} : ∀ {ps qs : List (Str × Str)}, (qs ++ ps).Nodup → (qs ++ ps).length ≤ 10000 →
    (∀ p ∈ ps, ∃ ρ1, k (.dat (prT p)) ρ h = some ρ1 ∧ fk ρ1 h = some (.dat (prT p), h) ∧ fv ρ1 h = some (.dat (prT (f p)), h)) → dcTL k bYes fk fv ρ (ps.map prT) (tblD qs f) h = some (tblD (qs ++ ps) f, h)
  | [], qs, _, _, _ => by rw [List.append_nil]; rfl
  | p :: ps, qs, nd, hl, H => by
    obtain ⟨ρ1, e1, e2, e3⟩ := H p List.mem_cons_self
    have np : p ∉ qs := fun z => by
      have := (List.nodup_append.mp nd).2.2 p z p List.mem_cons_self
      exact this rfl
    have hz : sizeLine = 16777216 := rfl
    have hq : (tblD qs f).length < sizeLine := by
      unfold tblD; rw [List.length_map]; rw [List.length_append] at hl; omega
    have ep : putT (tblD qs f) (pK p) (prT (f p)) = tblD (qs ++ [p]) f := by
      unfold putT
      rw [getT_out np]
      simp only [Option.isSome_none, Bool.false_eq_true, if_false]
      unfold tblD
      rw [List.map_append]; rfl
    have ih := dcTL_tab (k := k) (fk := fk) (fv := fv) (ρ := ρ) (h := h) (f := f) (ps := ps) (qs := qs ++ [p]) (by rw [List.append_assoc]; exact nd) (by rw [List.append_assoc]; exact hl) fun q hq => H q (List.mem_cons_of_mem _ hq)
    rw [List.append_assoc] at ih
    rw [List.map_cons]
    unfold dcTL
    simp only [e1, bYes, obnd, if_true, e2, e3]
    have ed : dKeys [PyData.str p.1, PyData.str p.2] = some (pK p) := rfl
    have ec : pairD [PyData.str p.1, PyData.str p.2] = false := rfl
    simp only [ed]
    rw [if_pos ⟨hq, ec⟩, ep]
    exact ih
theorem dcT_tab {gi : IM} {k : TM} {fk fv : EM} {vs : List Nat} {ρ : Env} {h : Hh} {N : List Str} {f : Str × Str → Str × Str} (nd : N.Nodup) (hl : N.length ≤ 100) (eg : gi ρ h = some ((prsN N).map prT, h))
    (H : ∀ p ∈ prsN N, ∃ ρ1, k (.dat (prT p)) (wipeE ρ vs) h = some ρ1 ∧ fk ρ1 h = some (.dat (prT p), h) ∧ fv ρ1 h = some (.dat (prT (f p)), h)) : fDcT gi k bYes fk fv vs ρ h = some (.dat (tabD N f), h) := by
  have e := dcTL_tab (k := k) (fk := fk) (fv := fv) (ρ := wipeE ρ vs) (h := h) (f := f) (ps := prsN N) (qs := []) (by rw [List.nil_append]; exact prsN_nodup nd) (by rw [List.nil_append]; exact prsN_small hl) H
  rw [List.nil_append] at e
  have e' : dcTL k bYes fk fv (wipeE ρ vs) ((prsN N).map prT) [] h = some (tblD (prsN N) f, h) := e
  unfold fDcT
  rw [eg]
  simp only [obnd]
  rw [e']
abbrev On (N : List Str) (f : Str × Str → Str × Str) : Prop := ∀ p ∈ prsN N, f p ∈ prsN N
theorem on_last {N : List Str} {ws : List (List (Str × Str))} (c : Words N ws) : On N (lastW ws) := fun p hp => by
  obtain ⟨h1, h2, h3⟩ := prsN_mem.mp hp
  obtain ⟨g1, g2⟩ := lastW_in c h1 h2
  exact prsN_mem.mpr ⟨g1, g2, lastW_ne ws h3⟩
theorem Words.rev {r : List Str} {ws : List (List (Str × Str))} (c : Words r ws) : Words r ws.reverse := fun p hp => c p (List.mem_reverse.mp hp)
theorem told_pairs_ok {y : D} {l : Bool} {N : List Str} {ws : List (List (Str × Str))} {h : Hh} (hy : IsSeq y (ws.map (cD l))) (c : Words N ws) (nd : N.Nodup) (hl : N.length ≤ 100) (hw : ws.length ≤ 1000) :
    m_told_pairs [.dat (rowT N), .dat y] h = some (.dat (tabD N (lastW ws.reverse)), h) := by
  have e1 := ways_ok (h := h) hy c nd (by omega) hw
  have e2 := all_pairs_ok (x := rowT N) (N := N) (h := h) (.inr rfl) hl
  have e3 : fDcT (seqI (fA (m_all_pairs) (fCons (fVar 0) (fNil)))) (gN 3) (bYes) (fVar 3) (f2 idxW (fA (m_walked) (fCons (fVar 2) (fCons (fVar 3) (fNil)))) (fNeg (fC (.int 1)))) [3] [some (.dat (rowT N)), some (.dat y), some (.dat (.list (ws.reverse.map dW))), none] h = some (.dat (tabD N (lastW ws.reverse)), h) := by
    refine dcT_tab nd hl ?_ fun p hp => ?_
    · clear e1 hy c nd hl hw
      walk_at "dl"
    · obtain ⟨h1, h2, h3⟩ := prsN_mem.mp hp
      have e4 := walked_ok (h := h) (ws := ws.reverse) (p := p) c.rev h1 h2 (by rw [List.length_reverse]; exact hw)
      obtain ⟨wl, el⟩ := walkL_last ws.reverse p
      have al : L2.atI ((walkL ws.reverse p).map prT) (-1) = some (prT (lastW ws.reverse p)) := by rw [el, List.map_append]; exact atI_neg1 _ _
      refine ⟨[some (.dat (rowT N)), some (.dat y), some (.dat (.list (ws.reverse.map dW))), some (.dat (prT p))], rfl, rfl, ?_⟩
      clear e1 e2 hy c nd hl hw hp h1 h2 h3 el
      walk_at "dl"
  have lv := leave_same' (h := h) (d := tabD N (lastW ws.reverse))
  unfold m_told_pairs
  clear hy c nd hl hw e2
  walk_at "dl"
end DL
set_option maxRecDepth 100000
set_option maxHeartbeats 400000
namespace DL
open PySem L2
variable [HW]
local macro_rules | `(tactic| walk_at "dl") => `(tactic| simp (config := { dsimp := false }) only [↓fnM_e, ↓sSeq_e, seqK_nx, seqK_rt, seqK_bk, seqK_ct, retK_rt, retK_nx, ↓sFrz_e, frK_some, ↓sAsg, ↓sRet, ↓sRetN, ↓sIf, ↓sExpr, ↓sSkip, ↓sNever, ↓sPar, ↓sFor, ↓sSub, ↓fVar, ↓fC, ↓fNil, ↓fCons, ↓fA, ↓f1, ↓f2, ↓fB, ↓fIf, ↓fNeg, ↓fNot, ↓fAnd, ↓fOr, ↓bNot, ↓bAnd, ↓bOr, ↓bYes, ↓obnd_x, ob_some, ↓sbnd_x, sb_some, ↓ite_x, iteK_t, iteK_f, gN, gT, gC, gE, ↓rng1I, ↓rng2I, ↓seqI, ↓enumA, ↓zipI, ↓strI, ↓fLc, ↓fDc, ↓fM, ↓fSl, ↓oNone, ↓oSome, ↓fRev, wipeE, ↓kwM, permM, permL, List.foldr, List.length_cons, List.length_nil, List.map_cons, List.map_nil, List.cons_append, List.nil_append, List.replicate, List.replicate_succ, List.replicate_zero, List.getElem?_cons_zero, List.getElem?_cons_succ, List.set_cons_zero, List.set_cons_succ, if_true, if_false, reduceIte, Nat.reduceAdd, Nat.reduceSub, Nat.reduceEqDiff, Nat.reduceLT, Nat.reduceLeDiff, Int.reduceLT, Int.reduceLE, Int.reduceNeg, Int.reduceMul, Int.reduceAdd, Int.reduceSub, Int.reduceToNat, Int.reducePow, Int.reduceEq, ok, bok, deref, mkL, lstW, tupW, dats, Option.map_some, appendW, insertW, setL, isL, listW, tupleW, lenW, absW, intC, maxW, minW, idxW, addW, subW_e, modW_e, divW_e, powW_e, mulW, intW, lt_e, gt_e, le_e, ge_e, ltW, allW_e, anyW_e, sumW_e, lW, setW, lstAt, cutW, backW, isW, isiW, iLT_none, iLT_bool, iLT_int, iLT_str, iLT_list, iLT_tup, iL_none, iL_bool, iL_int, iL_str, iL_list, iL_tup, iT_none, iT_bool, iT_int, iT_str, iT_list, iT_tup, iS_none, iS_bool, iS_int, iS_str, iS_list, iS_tup, iI_none, iI_bool, iI_int, iI_str, iI_list, iI_tup, iB_none, iB_bool, iB_int, iB_str, iB_list, iB_tup, Bool.false_eq_true, reduceCtorEq, Bool.not_true, Bool.not_false, decide_true, decide_false, List.zip_cons_cons, List.zip_nil_left, List.foldl_cons, List.foldl_nil, and_self, and_true, true_and, Bool.and_true, Bool.true_and, Bool.or_true, Bool.true_or, *])
def itn {α : Type} (f : α → α) : Nat → α → α
  | 0, a => a
  | n + 1, a => itn f n (f a)
theorem itn_add {α : Type} (f : α → α) : ∀ (m n : Nat) (a : α), itn f (m + n) a = itn f m (itn f n a)
  | m, 0, a => rfl
  | m, n + 1, a => by
    show itn f (m + n) (f a) = itn f m (itn f n (f a))
    exact itn_add f m n (f a)
theorem itn_on {N : List Str} {f : Str × Str → Str × Str} (h : On N f) : ∀ n : Nat, On N (itn f n)
  | 0 => fun p hp => hp
  | n + 1 => fun p hp => itn_on h n (f p) (h p hp)
theorem itn_succ {α : Type} (f : α → α) (n : Nat) (a : α) : itn f (n + 1) a = f (itn f n a) := by
  rw [Nat.add_comm, itn_add]; rfl
theorem is_less_ok {r : List Str} {p : Str × Str} {h : Hh} (h1 : p.1 ∈ r) (h2 : p.2 ∈ r) : m_is_less [.dat (.dict (sdic (plc 0 r))), .dat (prT p)] h = some (.dat (.bool (decide (r.idxOf p.1 < r.idxOf p.2))), h) := by
  have g1 : getD (sdic (plc 0 r)) (.str p.1) = some (some (.int (r.idxOf p.1 : Int))) := by rw [getD_sdic, plc_look, if_pos h1, Nat.zero_add]
  have g2 : getD (sdic (plc 0 r)) (.str p.2) = some (some (.int (r.idxOf p.2 : Int))) := by rw [getD_sdic, plc_look, if_pos h2, Nat.zero_add]
  have a0 : L2.atI [PyData.str p.1, .str p.2] 0 = some (.str p.1) := rfl
  have a1 : L2.atI [PyData.str p.1, .str p.2] 1 = some (.str p.2) := rfl
  have q : decide ((r.idxOf p.1 : Int) < (r.idxOf p.2 : Int)) = decide (r.idxOf p.1 < r.idxOf p.2) := by
    by_cases z : r.idxOf p.1 < r.idxOf p.2 <;> simp [z]
  have lv := fun d : D => leave_same' (h := h) (d := d)
  unfold m_is_less
  rw [← q]
  clear h1 h2 q
  walk_at "dl"
end DL
set_option maxRecDepth 100000
set_option maxHeartbeats 400000
namespace DL
open PySem L2
variable [HW]
local macro_rules | `(tactic| walk_at "dl") => `(tactic| simp (config := { dsimp := false }) only [↓fnM_e, ↓sSeq_e, seqK_nx, seqK_rt, seqK_bk, seqK_ct, retK_rt, retK_nx, ↓sFrz_e, frK_some, ↓sAsg, ↓sRet, ↓sRetN, ↓sIf, ↓sExpr, ↓sSkip, ↓sNever, ↓sPar, ↓sFor, ↓sSub, ↓fVar, ↓fC, ↓fNil, ↓fCons, ↓fA, ↓f1, ↓f2, ↓fB, ↓fIf, ↓fNeg, ↓fNot, ↓fAnd, ↓fOr, ↓bNot, ↓bAnd, ↓bOr, ↓bYes, ↓obnd_x, ob_some, ↓sbnd_x, sb_some, ↓ite_x, iteK_t, iteK_f, gN, gT, gC, gE, ↓rng1I, ↓rng2I, ↓seqI, ↓enumA, ↓zipI, ↓strI, ↓fLc, ↓fDc, ↓fM, ↓fSl, ↓oNone, ↓oSome, ↓fRev, wipeE, ↓kwM, permM, permL, List.foldr, List.length_cons, List.length_nil, List.map_cons, List.map_nil, List.cons_append, List.nil_append, List.replicate, List.replicate_succ, List.replicate_zero, List.getElem?_cons_zero, List.getElem?_cons_succ, List.set_cons_zero, List.set_cons_succ, if_true, if_false, reduceIte, Nat.reduceAdd, Nat.reduceSub, Nat.reduceEqDiff, Nat.reduceLT, Nat.reduceLeDiff, Int.reduceLT, Int.reduceLE, Int.reduceNeg, Int.reduceMul, Int.reduceAdd, Int.reduceSub, Int.reduceToNat, Int.reducePow, Int.reduceEq, ok, bok, deref, mkL, lstW, tupW, dats, Option.map_some, appendW, insertW, setL, isL, listW, tupleW, lenW, absW, intC, maxW, minW, idxW, addW, subW_e, modW_e, divW_e, powW_e, mulW, intW, lt_e, gt_e, le_e, ge_e, ltW, allW_e, anyW_e, sumW_e, lW, setW, lstAt, cutW, backW, isW, isiW, iLT_none, iLT_bool, iLT_int, iLT_str, iLT_list, iLT_tup, iL_none, iL_bool, iL_int, iL_str, iL_list, iL_tup, iT_none, iT_bool, iT_int, iT_str, iT_list, iT_tup, iS_none, iS_bool, iS_int, iS_str, iS_list, iS_tup, iI_none, iI_bool, iI_int, iI_str, iI_list, iI_tup, iB_none, iB_bool, iB_int, iB_str, iB_list, iB_tup, Bool.false_eq_true, reduceCtorEq, Bool.not_true, Bool.not_false, decide_true, decide_false, List.zip_cons_cons, List.zip_nil_left, List.foldl_cons, List.foldl_nil, and_self, and_true, true_and, Bool.and_true, Bool.true_and, Bool.or_true, Bool.true_or, *])
def ahF (r : List Str) (f : Str × Str → Str × Str) (p : Str × Str) : Bool := decide (r.idxOf (f p).1 < r.idxOf (f p).2)
end DL
set_option maxRecDepth 100000
set_option maxHeartbeats 400000
namespace DL
open PySem L2
variable [HW]
local macro_rules | `(tactic| walk_at "dl") => `(tactic| simp (config := { dsimp := false }) only [↓fnM_e, ↓sSeq_e, seqK_nx, seqK_rt, seqK_bk, seqK_ct, retK_rt, retK_nx, ↓sFrz_e, frK_some, ↓sAsg, ↓sRet, ↓sRetN, ↓sIf, ↓sExpr, ↓sSkip, ↓sNever, ↓sPar, ↓sFor, ↓sSub, ↓fVar, ↓fC, ↓fNil, ↓fCons, ↓fA, ↓f1, ↓f2, ↓fB, ↓fIf, ↓fNeg, ↓fNot, ↓fAnd, ↓fOr, ↓bNot, ↓bAnd, ↓bOr, ↓bYes, ↓obnd_x, ob_some, ↓sbnd_x, sb_some, ↓ite_x, iteK_t, iteK_f, gN, gT, gC, gE, ↓rng1I, ↓rng2I, ↓seqI, ↓enumA, ↓zipI, ↓strI, ↓fLc, ↓fDc, ↓fM, ↓fSl, ↓oNone, ↓oSome, ↓fRev, wipeE, ↓kwM, permM, permL, List.foldr, List.length_cons, List.length_nil, List.map_cons, List.map_nil, List.cons_append, List.nil_append, List.replicate, List.replicate_succ, List.replicate_zero, List.getElem?_cons_zero, List.getElem?_cons_succ, List.set_cons_zero, List.set_cons_succ, if_true, if_false, reduceIte, Nat.reduceAdd, Nat.reduceSub, Nat.reduceEqDiff, Nat.reduceLT, Nat.reduceLeDiff, Int.reduceLT, Int.reduceLE, Int.reduceNeg, Int.reduceMul, Int.reduceAdd, Int.reduceSub, Int.reduceToNat, Int.reducePow, Int.reduceEq, ok, bok, deref, mkL, lstW, tupW, dats, Option.map_some, appendW, insertW, setL, isL, listW, tupleW, lenW, absW, intC, maxW, minW, idxW, addW, subW_e, modW_e, divW_e, powW_e, mulW, intW, lt_e, gt_e, le_e, ge_e, ltW, allW_e, anyW_e, sumW_e, lW, setW, lstAt, cutW, backW, isW, isiW, iLT_none, iLT_bool, iLT_int, iLT_str, iLT_list, iLT_tup, iL_none, iL_bool, iL_int, iL_str, iL_list, iL_tup, iT_none, iT_bool, iT_int, iT_str, iT_list, iT_tup, iS_none, iS_bool, iS_int, iS_str, iS_list, iS_tup, iI_none, iI_bool, iI_int, iI_str, iI_list, iI_tup, iB_none, iB_bool, iB_int, iB_str, iB_list, iB_tup, Bool.false_eq_true, reduceCtorEq, Bool.not_true, Bool.not_false, decide_true, decide_false, List.zip_cons_cons, List.zip_nil_left, List.foldl_cons, List.foldl_nil, and_self, and_true, true_and, Bool.and_true, Bool.true_and, Bool.or_true, Bool.true_or, *])
def fldK (C : Addr) (f : Str) (w : W) (h1 : Hh) : Option (W × Hh) := match insF C w h1 with
  | some fs => match fs.lookup f with
    | some d => some (.dat d, h1)
    | none => none
  | none => none
theorem fFld_e (C : Addr) (f : Str) (g : EM) (ρ : DL.Env) (h : Hh) : fFld C f g ρ h = ob (fldK C f) () (g ρ h) := rfl
def metK (C : Addr) (m : Str) (mm : FM) (ga : AM) (ρ : DL.Env) (w : W) (h1 : Hh) : Option (W × Hh) := match insF C w h1 with
  | some fs => match fs.lookup m with
    | some _ => none
    | none => ob (fun ws h2 => mm (w :: ws) h2) () (ga ρ h1)
  | none => none
theorem fMeth_e (C : Addr) (m : Str) (mm : FM) (go : EM) (ga : AM) (ρ : DL.Env) (h : Hh) : fMeth C m mm go ga ρ h = ob (metK C m mm ga ρ) () (go ρ h) := rfl
def mkT (C : Addr) (mi : FM) (ws : List W) (h1 : Hh) : Option (W × Hh) := match mi (.ref h1.length :: ws) (h1 ++ [some (.ins C [])]) with
  | some (.dat .none, h2) => match h2[h1.length]? with
    | some (some (.ins C' fs)) => if C' = C then some (.ins C fs, h2.set h1.length none) else none
    | _ => none
  | _ => none
theorem fMk_e (C : Addr) (mi : FM) (ga : AM) (ρ : DL.Env) (h : Hh) : fMk C mi ga ρ h = ob (mkT C mi) () (ga ρ h) := rfl
abbrev tbI (C : Addr) (N : List Str) (f : Str × Str → Str × Str) : W := .ins C [("own_names", rowT N), ("own_pairs", tabD N f)]
theorem fld_n {C : Addr} {a b : D} {h : Hh} : fldK C "own_names" (.ins C [("own_names", a), ("own_pairs", b)]) h = some (.dat a, h) := by
  simp only [fldK, insF, if_true]; rfl
theorem fld_p {C : Addr} {a b : D} {h : Hh} : fldK C "own_pairs" (.ins C [("own_names", a), ("own_pairs", b)]) h = some (.dat b, h) := by
  simp only [fldK, insF, if_true]; rfl
theorem met_t {C : Addr} {m : Str} {mm : FM} {ga : AM} {ρ : DL.Env} {a b : D} {h : Hh} (hm : List.lookup m [(("own_names" : Str), a), ("own_pairs", b)] = none) : metK C m mm ga ρ (.ins C [("own_names", a), ("own_pairs", b)]) h = ob (fun ws h2 => mm (.ins C [("own_names", a), ("own_pairs", b)] :: ws) h2) () (ga ρ h) := by
  simp only [metK, insF, if_true, hm]
theorem met_leads {C : Addr} {mm : FM} {ga : AM} {ρ : DL.Env} {a b : D} {h : Hh} : metK C "leads" mm ga ρ (.ins C [("own_names", a), ("own_pairs", b)]) h = ob (fun ws h2 => mm (.ins C [("own_names", a), ("own_pairs", b)] :: ws) h2) () (ga ρ h) := met_t rfl
theorem met_then {C : Addr} {mm : FM} {ga : AM} {ρ : DL.Env} {a b : D} {h : Hh} : metK C "then" mm ga ρ (.ins C [("own_names", a), ("own_pairs", b)]) h = ob (fun ws h2 => mm (.ins C [("own_names", a), ("own_pairs", b)] :: ws) h2) () (ga ρ h) := met_t rfl
theorem met_times {C : Addr} {mm : FM} {ga : AM} {ρ : DL.Env} {a b : D} {h : Hh} : metK C "times" mm ga ρ (.ins C [("own_names", a), ("own_pairs", b)]) h = ob (fun ws h2 => mm (.ins C [("own_names", a), ("own_pairs", b)] :: ws) h2) () (ga ρ h) := met_t rfl
theorem met_made {C : Addr} {mm : FM} {ga : AM} {ρ : DL.Env} {a b : D} {h : Hh} : metK C "made" mm ga ρ (.ins C [("own_names", a), ("own_pairs", b)]) h = ob (fun ws h2 => mm (.ins C [("own_names", a), ("own_pairs", b)] :: ws) h2) () (ga ρ h) := met_t rfl
theorem met_tells {C : Addr} {mm : FM} {ga : AM} {ρ : DL.Env} {a b : D} {h : Hh} : metK C "tells" mm ga ρ (.ins C [("own_names", a), ("own_pairs", b)]) h = ob (fun ws h2 => mm (.ins C [("own_names", a), ("own_pairs", b)] :: ws) h2) () (ga ρ h) := met_t rfl
theorem met_names {C : Addr} {mm : FM} {ga : AM} {ρ : DL.Env} {a b : D} {h : Hh} : metK C "names" mm ga ρ (.ins C [("own_names", a), ("own_pairs", b)]) h = ob (fun ws h2 => mm (.ins C [("own_names", a), ("own_pairs", b)] :: ws) h2) () (ga ρ h) := met_t rfl
end DL
set_option maxRecDepth 100000
set_option maxHeartbeats 400000
namespace DL
open PySem L2
variable [HW]
local macro_rules | `(tactic| walk_at "dl") => `(tactic| simp (config := { dsimp := false }) only [↓fnM_e, ↓sSeq_e, seqK_nx, seqK_rt, seqK_bk, seqK_ct, retK_rt, retK_nx, ↓sFrz_e, frK_some, ↓sAsg, ↓sRet, ↓sRetN, ↓sIf, ↓sExpr, ↓sSkip, ↓sNever, ↓sPar, ↓sFor, ↓sSub, ↓fVar, ↓fC, ↓fNil, ↓fCons, ↓fA, ↓f1, ↓f2, ↓fB, ↓fIf, ↓fNeg, ↓fNot, ↓fAnd, ↓fOr, ↓bNot, ↓bAnd, ↓bOr, ↓bYes, ↓obnd_x, ob_some, ↓sbnd_x, sb_some, ↓ite_x, iteK_t, iteK_f, gN, gT, gC, gE, ↓rng1I, ↓rng2I, ↓seqI, ↓enumA, ↓zipI, ↓strI, ↓fLc, ↓fDc, ↓fM, ↓fSl, ↓oNone, ↓oSome, ↓fRev, wipeE, ↓kwM, permM, permL, List.foldr, List.length_cons, List.length_nil, List.map_cons, List.map_nil, List.cons_append, List.nil_append, List.replicate, List.replicate_succ, List.replicate_zero, List.getElem?_cons_zero, List.getElem?_cons_succ, List.set_cons_zero, List.set_cons_succ, if_true, if_false, reduceIte, Nat.reduceAdd, Nat.reduceSub, Nat.reduceEqDiff, Nat.reduceLT, Nat.reduceLeDiff, Int.reduceLT, Int.reduceLE, Int.reduceNeg, Int.reduceMul, Int.reduceAdd, Int.reduceSub, Int.reduceToNat, Int.reducePow, Int.reduceEq, ok, bok, deref, mkL, lstW, tupW, dats, Option.map_some, appendW, insertW, setL, isL, listW, tupleW, lenW, absW, intC, maxW, minW, idxW, addW, subW_e, modW_e, divW_e, powW_e, mulW, intW, lt_e, gt_e, le_e, ge_e, ltW, allW_e, anyW_e, sumW_e, lW, setW, lstAt, cutW, backW, isW, isiW, iLT_none, iLT_bool, iLT_int, iLT_str, iLT_list, iLT_tup, iL_none, iL_bool, iL_int, iL_str, iL_list, iL_tup, iT_none, iT_bool, iT_int, iT_str, iT_list, iT_tup, iS_none, iS_bool, iS_int, iS_str, iS_list, iS_tup, iI_none, iI_bool, iI_int, iI_str, iI_list, iI_tup, iB_none, iB_bool, iB_int, iB_str, iB_list, iB_tup, Bool.false_eq_true, reduceCtorEq, Bool.not_true, Bool.not_false, decide_true, decide_false, List.zip_cons_cons, List.zip_nil_left, List.foldl_cons, List.foldl_nil, and_self, and_true, true_and, Bool.and_true, Bool.true_and, Bool.or_true, Bool.true_or, *])
theorem nd_inj {S : List Str} (nd : S.Nodup) {i j : Nat} (hi : i < S.length) (hj : j < S.length) (e : S[i] = S[j]) : i = j := by
  rcases Nat.lt_trichotomy i j with h | h | h
  · exact absurd e (List.pairwise_iff_getElem.mp nd i j hi hj h)
  · exact h
  · exact absurd e.symm (List.pairwise_iff_getElem.mp nd j i hj hi h)
structure Nam (l : List Str) (ms : List (Str × Str)) : Prop where
  key : ms.map (·.1) = l
  nd : l.Nodup
  inj : (ms.map (·.2)).Nodup
  txt : Txts (ms.map (·.2))
section
variable {l : List Str} {ms : List (Str × Str)} (N : Nam l ms)
include N
theorem Nam.nk : (ms.map (·.1)).Nodup := by rw [N.key]; exact N.nd
theorem Nam.look {s : Str} (hs : s ∈ l) : ∃ p ∈ ms, p.1 = s ∧ goal ms s = p.2 ∧ ms.lookup s = some p.2 := by
  rw [← N.key] at hs
  obtain ⟨p, hp, rfl⟩ := List.mem_map.mp hs
  refine ⟨p, hp, rfl, goal_of N.nk p hp, ?_⟩
  have : ∀ {ms : List (Str × Str)}, (ms.map (·.1)).Nodup → p ∈ ms → ms.lookup p.1 = some p.2 := fun {ms} => by
    induction ms with
    | nil => intro _ h; cases h
    | cons q ms ih =>
      intro nd h
      rw [List.map_cons, List.nodup_cons] at nd
      rcases List.mem_cons.mp h with rfl | h
      · rw [List.lookup_cons]; simp
      · rw [List.lookup_cons]
        have : p.1 ≠ q.1 := fun z => nd.1 (z ▸ List.mem_map.mpr ⟨p, h, rfl⟩)
        rw [beq_eq_false_iff_ne.mpr this]
        exact ih nd.2 h
  exact this N.nk hp
theorem Nam.get {s : Str} (hs : s ∈ l) : getD (sdic (tld ms)) (.str s) = some (some (.str (goal ms s))) := by
  obtain ⟨p, _, _, e1, e2⟩ := N.look hs
  rw [getD_sdic, look_tld, e2, e1]; rfl
theorem Nam.map : l.map (goal ms) = ms.map (·.2) := by
  rw [← N.key, List.map_map]
  apply List.map_congr_left
  intro p hp
  exact goal_of N.nk p hp
theorem Nam.one {a b : Str} (ha : a ∈ l) (hb : b ∈ l) : goal ms a = goal ms b ↔ a = b := by
  constructor
  · intro e
    obtain ⟨i, hi, rfl⟩ := List.getElem_of_mem ha
    obtain ⟨j, hj, rfl⟩ := List.getElem_of_mem hb
    have nd := N.inj
    rw [← N.map] at nd
    have q : (l.map (DL.goal ms))[i]'(by rw [List.length_map]; exact hi) = (l.map (DL.goal ms))[j]'(by rw [List.length_map]; exact hj) := by rw [List.getElem_map, List.getElem_map]; exact e
    have := nd_inj nd (by rw [List.length_map]; exact hi) (by rw [List.length_map]; exact hj) q
    subst this; rfl
  · rintro rfl; rfl
end
noncomputable def leP (a b : Str × Str) : Bool := PySem.W.dataLe false (fun d : D => d) (prT a) (prT b)
theorem sortD_prs (ps : List (Str × Str)) : sortD (ps.map prT) = (ps.mergeSort leP).map prT := by
  unfold sortD
  rw [← PySem.W.sort_maps (r := leP) (s := PySem.W.dataLe false fun d : D => d) prT (l := ps) fun a _ b _ => rfl]
theorem shp_pr {p : Str × Str} (h1 : TxtOk p.1) (h2 : TxtOk p.2) : shp (prT p) = true := by
  have := shp_row (l := [p.1, p.2]) (fun s hs => by
    rcases List.mem_cons.mp hs with rfl | hs
    · exact h1
    · rw [List.mem_singleton] at hs; subst hs; exact h2)
  exact this
theorem sortable_prs {ps : List (Str × Str)} (ht : TxtP ps) : sortable (ps.map prT) = true := by
  unfold sortable
  have h1 : ((ps.map prT).all fun d => (ps.map prT).all fun e => PySem.W.alike d e) = true := by
    rw [List.all_eq_true]
    intro d hd
    rw [List.all_eq_true]
    intro e he
    obtain ⟨a, _, rfl⟩ := List.mem_map.mp hd
    obtain ⟨b, _, rfl⟩ := List.mem_map.mp he
    simp [PySem.W.alike, PySem.W.alikeAll]
  have h3 : (ps.map prT).all shp = true := by
    rw [List.all_eq_true]
    intro d hd
    obtain ⟨a, ha, rfl⟩ := List.mem_map.mp hd
    exact shp_pr (ht a ha).1 (ht a ha).2
  rw [h1, h3]
  simp only [Bool.true_and, Bool.and_true, Bool.or_eq_true]
  left
  rw [List.all_eq_true]
  intro d hd
  obtain ⟨a, _, rfl⟩ := List.mem_map.mp hd
  rfl
section
variable {r : List Str} {ms ps : List (Str × Str)} (N : Nam r ms) (c : CallOf r ps)
include N c
end
end DL
set_option maxRecDepth 100000
set_option maxHeartbeats 400000
namespace DL
open PySem L2
variable [HW]
local macro_rules | `(tactic| walk_at "dl") => `(tactic| simp (config := { dsimp := false }) only [↓fnM_e, ↓sSeq_e, seqK_nx, seqK_rt, seqK_bk, seqK_ct, retK_rt, retK_nx, ↓sFrz_e, frK_some, ↓sAsg, ↓sRet, ↓sRetN, ↓sIf, ↓sExpr, ↓sSkip, ↓sNever, ↓sPar, ↓sFor, ↓sSub, ↓fVar, ↓fC, ↓fNil, ↓fCons, ↓fA, ↓f1, ↓f2, ↓fB, ↓fIf, ↓fNeg, ↓fNot, ↓fAnd, ↓fOr, ↓bNot, ↓bAnd, ↓bOr, ↓bYes, ↓obnd_x, ob_some, ↓sbnd_x, sb_some, ↓ite_x, iteK_t, iteK_f, gN, gT, gC, gE, ↓rng1I, ↓rng2I, ↓seqI, ↓enumA, ↓zipI, ↓strI, ↓fLc, ↓fDc, ↓fM, ↓fSl, ↓oNone, ↓oSome, ↓fRev, wipeE, ↓kwM, permM, permL, List.foldr, List.length_cons, List.length_nil, List.map_cons, List.map_nil, List.cons_append, List.nil_append, List.replicate, List.replicate_succ, List.replicate_zero, List.getElem?_cons_zero, List.getElem?_cons_succ, List.set_cons_zero, List.set_cons_succ, if_true, if_false, reduceIte, Nat.reduceAdd, Nat.reduceSub, Nat.reduceEqDiff, Nat.reduceLT, Nat.reduceLeDiff, Int.reduceLT, Int.reduceLE, Int.reduceNeg, Int.reduceMul, Int.reduceAdd, Int.reduceSub, Int.reduceToNat, Int.reducePow, Int.reduceEq, ok, bok, deref, mkL, lstW, tupW, dats, Option.map_some, appendW, insertW, setL, isL, listW, tupleW, lenW, absW, intC, maxW, minW, idxW, addW, subW_e, modW_e, divW_e, powW_e, mulW, intW, lt_e, gt_e, le_e, ge_e, ltW, allW_e, anyW_e, sumW_e, lW, setW, lstAt, cutW, backW, isW, isiW, iLT_none, iLT_bool, iLT_int, iLT_str, iLT_list, iLT_tup, iL_none, iL_bool, iL_int, iL_str, iL_list, iL_tup, iT_none, iT_bool, iT_int, iT_str, iT_list, iT_tup, iS_none, iS_bool, iS_int, iS_str, iS_list, iS_tup, iI_none, iI_bool, iI_int, iI_str, iI_list, iI_tup, iB_none, iB_bool, iB_int, iB_str, iB_list, iB_tup, Bool.false_eq_true, reduceCtorEq, Bool.not_true, Bool.not_false, decide_true, decide_false, List.zip_cons_cons, List.zip_nil_left, List.foldl_cons, List.foldl_nil, and_self, and_true, true_and, Bool.and_true, Bool.true_and, Bool.or_true, Bool.true_or, *])
local macro_rules | `(tactic| walk_at "tb") => `(tactic| simp (config := { dsimp := false }) only [↓fFld_e, ↓fMeth_e, ↓fMk_e, fld_n, fld_p, met_leads, met_then, met_times, met_made, met_tells, met_names, ↓fnM_e, ↓sSeq_e, seqK_nx, seqK_rt, seqK_bk, seqK_ct, retK_rt, retK_nx, ↓sFrz_e, frK_some, ↓sAsg, ↓sRet, ↓sRetN, ↓sIf, ↓sExpr, ↓sSkip, ↓sNever, ↓sPar, ↓sFor, ↓sSub, ↓fVar, ↓fC, ↓fNil, ↓fCons, ↓fA, ↓f1, ↓f2, ↓fB, ↓fIf, ↓fNeg, ↓fNot, ↓fAnd, ↓fOr, ↓bNot, ↓bAnd, ↓bOr, ↓bYes, ↓obnd_x, ob_some, ↓sbnd_x, sb_some, ↓ite_x, iteK_t, iteK_f, gN, gT, gC, gE, ↓rng1I, ↓rng2I, ↓seqI, ↓enumA, ↓zipI, ↓strI, ↓fLc, ↓fDc, ↓fM, ↓fSl, ↓oNone, ↓oSome, ↓fRev, wipeE, ↓kwM, permM, permL, List.foldr, List.length_cons, List.length_nil, List.map_cons, List.map_nil, List.cons_append, List.nil_append, List.replicate, List.replicate_succ, List.replicate_zero, List.getElem?_cons_zero, List.getElem?_cons_succ, List.set_cons_zero, List.set_cons_succ, if_true, if_false, reduceIte, Nat.reduceAdd, Nat.reduceSub, Nat.reduceEqDiff, Nat.reduceLT, Nat.reduceLeDiff, Int.reduceLT, Int.reduceLE, Int.reduceNeg, Int.reduceMul, Int.reduceAdd, Int.reduceSub, Int.reduceToNat, Int.reducePow, Int.reduceEq, ok, bok, deref, mkL, lstW, tupW, dats, Option.map_some, appendW, insertW, setL, isL, listW, tupleW, lenW, absW, intC, maxW, minW, idxW, addW, subW_e, modW_e, divW_e, powW_e, mulW, intW, lt_e, gt_e, le_e, ge_e, ltW, allW_e, anyW_e, sumW_e, lW, setW, lstAt, cutW, backW, isW, isiW, iLT_none, iLT_bool, iLT_int, iLT_str, iLT_list, iLT_tup, iL_none, iL_bool, iL_int, iL_str, iL_list, iL_tup, iT_none, iT_bool, iT_int, iT_str, iT_list, iT_tup, iS_none, iS_bool, iS_int, iS_str, iS_list, iS_tup, iI_none, iI_bool, iI_int, iI_str, iI_list, iI_tup, iB_none, iB_bool, iB_int, iB_str, iB_list, iB_tup, Bool.false_eq_true, reduceCtorEq, Bool.not_true, Bool.not_false, decide_true, decide_false, List.zip_cons_cons, List.zip_nil_left, List.foldl_cons, List.foldl_nil, and_self, and_true, true_and, Bool.and_true, Bool.true_and, Bool.or_true, Bool.true_or, *])
theorem setF_run {C : Addr} {f : Str} {go gv : EM} {ρ : DL.Env} {h h1 : Hh} {n : Nat} {d : D} {fs fs' : List (Str × D)} (e1 : gv ρ h = some (.dat d, h1)) (e2 : go ρ h1 = some (.ref n, h1)) (e3 : h1[n]? = some (some (.ins C fs))) (hl : fs.length < 100) (ef : putE f d fs = fs') :
    sSetF C f go gv ρ h = some (.nx ρ, h1.set n (some (.ins C fs'))) := by
  subst ef
  unfold sSetF
  simp only [e1, sbnd, e2, e3, hl, and_self, if_true]
noncomputable def iniBody : SM := sExpr (fA (m_look_alike) (fCons (fVar 1) (fCons (fA (m_people) (fCons (fVar 3) (fNil))) (fNil))))
theorem ini_turn {w v : W} {x y : D} {A : List Str} {g : Hh} (e1 : m_people [.dat y] g = some (.dat (.tuple (A.map .str)), g)) (e2 : m_look_alike [.dat x, .dat (.tuple (A.map .str))] g = some (.dat .none, g)) :
    iniBody [some w, some (.dat x), some v, some (.dat y)] g = some (.nx [some w, some (.dat x), some v, some (.dat y)], g) := by
  unfold iniBody
  walk_at "dl"
theorem init_ok {C : Addr} {T : Nat → Addr} {x y : D} {lb : Bool} {l : List Str} {ws : List (List (Str × Str))} {h : Hh} (hC : T 7 = C) (hx : IsSeq x (l.map .str)) (hy : IsSeq y (ws.map (cD lb))) (c : Words l ws) (nd : l.Nodup) (hl : l.length ≤ 100) (ht : Txts l) (hw : ws.length ≤ 1000) :
    m_Table___init__ T [.ref h.length, .dat x, .dat y] (h ++ [some (.ins C [])]) = some (.dat .none, h ++ [some (.ins C [("own_names", rowT (sortS l)), ("own_pairs", tabD (sortS l) (lastW ws.reverse))])]) := by
  subst hC
  have pS := sortS_perm l
  have key := forL_end (k := gN 3) (body := iniBody) (fun n ρ g => g = h ++ [some (.ins (T 7) [])] ∧ ∃ v3 : Option W, ρ = [some (.ref h.length), some (.dat x), some (.dat y), v3])
    (ds := ws.map (cD lb)) (ρ := [some (.ref h.length), some (.dat x), some (.dat y), none]) (h := h ++ [some (.ins (T 7) [])]) ⟨rfl, none, rfl⟩ (by
      intro j d ej ρ g hi
      obtain ⟨rfl, v3, rfl⟩ := hi
      rw [List.getElem?_map] at ej
      obtain ⟨ps, ep, rfl⟩ := Option.map_eq_some_iff.mp ej
      have hc : CallOf l ps := c ps (List.mem_of_getElem? ep)
      have lp : ps.length ≤ 1000 := by have := hc.perm.length_eq; rw [List.length_map] at this; omega
      have e1 := people_ok (h := h ++ [some (.ins (T 7) [])]) (cD_seq lb ps) lp
      have e2 := look_alike_ok (h := h ++ [some (.ins (T 7) [])]) hx (y := .tuple ((ps.map (·.1)).map .str)) (.inr rfl) hc.perm.symm ht
      exact ⟨_, _, _, rfl, ini_turn (w := .ref h.length) (v := .dat y) e1 e2, rfl, some (.dat (cD lb ps)), rfl⟩)
  obtain ⟨ρ', g', e, rfl, v3, rfl⟩ := key
  have es := sortW_strs (h := h ++ [some (.ins (T 7) [])]) hx ht
  have et : fA tupleW (fCons (fA (sortW false) (fCons (fVar 1) (fNil))) (fNil)) [some (.ref h.length), some (.dat x), some (.dat y), v3] (h ++ [some (.ins (T 7) [])]) = some (.dat (rowT (sortS l)), h ++ [some (.ins (T 7) [])]) := by
    clear e hx hy
    walk_at "dl"
  have s1 := setF_run (C := T 7) (f := "own_names") (go := fVar 0) (fs := []) (fs' := [("own_names", rowT (sortS l))]) et rfl (app_get rfl) (by simp) rfl
  rw [app_set rfl] at s1
  have e3 := told_pairs_ok (h := h ++ [some (.ins (T 7) [("own_names", rowT (sortS l))])]) hy (c.perm pS.symm) (pS.nodup_iff.mpr nd) (by rw [pS.length_eq]; exact hl) hw
  have ef : fldK (T 7) "own_names" (.ref h.length) (h ++ [some (.ins (T 7) [("own_names", rowT (sortS l))])]) = some (.dat (rowT (sortS l)), h ++ [some (.ins (T 7) [("own_names", rowT (sortS l))])]) := by
    have hg : (h ++ [some (MO.ins (T 7) [(("own_names" : Str), rowT (sortS l))])])[h.length]? = some (some (.ins (T 7) [("own_names", rowT (sortS l))])) := app_get rfl
    simp only [fldK, insF, hg, if_true]
    rfl
  have eu : fA (m_told_pairs) (fCons (fFld (T 7) "own_names" (fVar 0)) (fCons (fVar 2) (fNil))) [some (.ref h.length), some (.dat x), some (.dat y), v3] (h ++ [some (.ins (T 7) [("own_names", rowT (sortS l))])]) = some (.dat (tabD (sortS l) (lastW ws.reverse)), h ++ [some (.ins (T 7) [("own_names", rowT (sortS l))])]) := by
    clear e hx hy es et s1
    walk_at "tb"
  have s2 := setF_run (C := T 7) (f := "own_pairs") (go := fVar 0) (fs := [("own_names", rowT (sortS l))]) (fs' := [("own_names", rowT (sortS l)), ("own_pairs", tabD (sortS l) (lastW ws.reverse))]) eu rfl (app_get rfl) (by simp) rfl
  rw [app_set rfl] at s2
  have lv : leave false (h ++ [some (.ins (T 7) [])]) (.dat .none) (h ++ [some (.ins (T 7) [("own_names", rowT (sortS l)), ("own_pairs", tabD (sortS l) (lastW ws.reverse))])]) = some (.dat .none, h ++ [some (.ins (T 7) [("own_names", rowT (sortS l)), ("own_pairs", tabD (sortS l) (lastW ws.reverse))])]) := by
    have hn : (h ++ [some (MO.ins (T 7) [("own_names", rowT (sortS l)), ("own_pairs", tabD (sortS l) (lastW ws.reverse))])]).take (h ++ [some (MO.ins (T 7) [])]).length = h ++ [some (MO.ins (T 7) [("own_names", rowT (sortS l)), ("own_pairs", tabD (sortS l) (lastW ws.reverse))])] := by
      apply List.take_of_length_le
      simp
    have := leave_dat (h := h ++ [some (.ins (T 7) [])]) (h' := h ++ [some (.ins (T 7) [("own_names", rowT (sortS l)), ("own_pairs", tabD (sortS l) (lastW ws.reverse))])]) (d := .none) (by rw [hn]; simp [live])
    rw [hn] at this
    exact this
  have si : seqI (fVar 2) [some (.ref h.length), some (.dat x), some (.dat y), none] (h ++ [some (.ins (T 7) [])]) = some (ws.map (cD lb), h ++ [some (.ins (T 7) [])]) := by rcases hy with rfl | rfl <;> rfl
  unfold m_Table___init__
  unfold iniBody at e
  clear hx hy c nd hl ht hw pS es et e3 ef eu
  generalize tabD (sortS l) (lastW ws.reverse) = TD at *
  generalize rowT (sortS l) = RD at *
  have fr : sFor (seqI (fVar 2)) (gN 3) (sExpr (fA (m_look_alike) (fCons (fVar 1) (fCons (fA (m_people) (fCons (fVar 3) (fNil))) (fNil))))) [some (.ref h.length), some (.dat x), some (.dat y), none] (h ++ [some (.ins (T 7) [])]) = some (.nx [some (.ref h.length), some (.dat x), some (.dat y), v3], h ++ [some (.ins (T 7) [])]) := by
    unfold sFor
    rw [si]
    exact e
  clear e si
  simp only [↓fnM_e, ↓sSeq_e, fr, seqK_nx, s1, s2, retK_nx, lv, List.map_cons, List.map_nil, List.cons_append, List.nil_append, List.length_cons, List.length_nil, Nat.reduceAdd, Nat.reduceSub, List.replicate, List.replicate_succ, List.replicate_zero]
theorem mk_ok {T : Nat → Addr} {x y : D} {lb : Bool} {l : List Str} {ws : List (List (Str × Str))} {h : Hh} (hx : IsSeq x (l.map .str)) (hy : IsSeq y (ws.map (cD lb))) (c : Words l ws) (nd : l.Nodup) (hl : l.length ≤ 100) (ht : Txts l) (hw : ws.length ≤ 1000) :
    mkT (T 7) (m_Table___init__ T) [.dat x, .dat y] h = some (tbI (T 7) (sortS l) (lastW ws.reverse), h ++ [none]) := by
  have e := init_ok (T := T) (h := h) rfl hx hy c nd hl ht hw
  unfold mkT
  rw [e]
  have hg : (h ++ [some (MO.ins (T 7) [("own_names", rowT (sortS l)), ("own_pairs", tabD (sortS l) (lastW ws.reverse))])])[h.length]? = some (some (.ins (T 7) [("own_names", rowT (sortS l)), ("own_pairs", tabD (sortS l) (lastW ws.reverse))])) := app_get rfl
  simp only [hg, if_true]
  rw [app_set rfl]
end DL
set_option maxRecDepth 100000
set_option maxHeartbeats 400000
namespace DL
open PySem L2
variable [HW]
local macro_rules | `(tactic| walk_at "tb") => `(tactic| simp (config := { dsimp := false }) only [↓fFld_e, ↓fMeth_e, ↓fMk_e, fld_n, fld_p, met_leads, met_then, met_times, met_made, met_tells, met_names, ↓fnM_e, ↓sSeq_e, seqK_nx, seqK_rt, seqK_bk, seqK_ct, retK_rt, retK_nx, ↓sFrz_e, frK_some, ↓sAsg, ↓sRet, ↓sRetN, ↓sIf, ↓sExpr, ↓sSkip, ↓sNever, ↓sPar, ↓sFor, ↓sSub, ↓fVar, ↓fC, ↓fNil, ↓fCons, ↓fA, ↓f1, ↓f2, ↓fB, ↓fIf, ↓fNeg, ↓fNot, ↓fAnd, ↓fOr, ↓bNot, ↓bAnd, ↓bOr, ↓bYes, ↓obnd_x, ob_some, ↓sbnd_x, sb_some, ↓ite_x, iteK_t, iteK_f, gN, gT, gC, gE, ↓rng1I, ↓rng2I, ↓seqI, ↓enumA, ↓zipI, ↓strI, ↓fLc, ↓fDc, ↓fM, ↓fSl, ↓oNone, ↓oSome, ↓fRev, wipeE, ↓kwM, permM, permL, List.foldr, List.length_cons, List.length_nil, List.map_cons, List.map_nil, List.cons_append, List.nil_append, List.replicate, List.replicate_succ, List.replicate_zero, List.getElem?_cons_zero, List.getElem?_cons_succ, List.set_cons_zero, List.set_cons_succ, if_true, if_false, reduceIte, Nat.reduceAdd, Nat.reduceSub, Nat.reduceEqDiff, Nat.reduceLT, Nat.reduceLeDiff, Int.reduceLT, Int.reduceLE, Int.reduceNeg, Int.reduceMul, Int.reduceAdd, Int.reduceSub, Int.reduceToNat, Int.reducePow, Int.reduceEq, ok, bok, deref, mkL, lstW, tupW, dats, Option.map_some, appendW, insertW, setL, isL, listW, tupleW, lenW, absW, intC, maxW, minW, idxW, addW, subW_e, modW_e, divW_e, powW_e, mulW, intW, lt_e, gt_e, le_e, ge_e, ltW, allW_e, anyW_e, sumW_e, lW, setW, lstAt, cutW, backW, isW, isiW, iLT_none, iLT_bool, iLT_int, iLT_str, iLT_list, iLT_tup, iL_none, iL_bool, iL_int, iL_str, iL_list, iL_tup, iT_none, iT_bool, iT_int, iT_str, iT_list, iT_tup, iS_none, iS_bool, iS_int, iS_str, iS_list, iS_tup, iI_none, iI_bool, iI_int, iI_str, iI_list, iI_tup, iB_none, iB_bool, iB_int, iB_str, iB_list, iB_tup, Bool.false_eq_true, reduceCtorEq, Bool.not_true, Bool.not_false, decide_true, decide_false, List.zip_cons_cons, List.zip_nil_left, List.foldl_cons, List.foldl_nil, and_self, and_true, true_and, Bool.and_true, Bool.true_and, Bool.or_true, Bool.true_or, *])
theorem lastW_app (us vs : List (List (Str × Str))) (p : Str × Str) : lastW (us ++ vs) p = lastW vs (lastW us p) := List.foldl_append
theorem lastW_two (us vs : List (List (Str × Str))) (p : Str × Str) : lastW (us ++ vs).reverse p = lastW us.reverse (lastW vs.reverse p) := by rw [List.reverse_append, lastW_app]
def oft (ws : List (List (Str × Str))) : Nat → List (List (Str × Str))
  | 0 => []
  | n + 1 => ws ++ oft ws n
theorem oft_words {r : List Str} {ws : List (List (Str × Str))} (c : Words r ws) : ∀ n, Words r (oft ws n)
  | 0 => fun p hp => by cases hp
  | n + 1 => fun p hp => (List.mem_append.mp hp).elim (c p) (oft_words c n p)
theorem oft_comm (ws : List (List (Str × Str))) : ∀ n, ws ++ oft ws n = oft ws n ++ ws
  | 0 => by simp [oft]
  | n + 1 => by
    show ws ++ (ws ++ oft ws n) = (ws ++ oft ws n) ++ ws
    rw [List.append_assoc, ← oft_comm ws n]
theorem oft_add (ws : List (List (Str × Str))) (m : Nat) : ∀ n, oft ws (m + n) = oft ws m ++ oft ws n
  | 0 => by simp [oft]
  | n + 1 => by
    show ws ++ oft ws (m + n) = _
    rw [oft_add ws m n, ← List.append_assoc, oft_comm ws m, List.append_assoc]; rfl
theorem lastW_oft (ws : List (List (Str × Str))) : ∀ (n : Nat) (p : Str × Str), lastW (oft ws n).reverse p = itn (lastW ws.reverse) n p
  | 0, p => rfl
  | n + 1, p => by
    show lastW (ws ++ oft ws n).reverse p = _
    rw [lastW_two, lastW_oft ws n, ← itn_succ (lastW ws.reverse)]
theorem words_ahF {r : List Str} {ws : List (List (Str × Str))} (c : Words r ws) {a b : Str} (ha : a ∈ r) (hb : b ∈ r) (ne : a ≠ b) : ahF r (lastW ws.reverse) (a, b) = decide ((ledAll r ws).idxOf a < (ledAll r ws).idxOf b) := by
  unfold ahF
  rw [decide_eq_decide]
  exact (ahead_all ws c ha hb ne).symm
theorem row_eq {r q : List Str} (nd : q.Nodup) (p : r.Perm q) (H : ∀ a b, a ∈ q → b ∈ q → a ≠ b → (r.idxOf a < r.idxOf b ↔ q.idxOf a < q.idxOf b)) : r = q := by
  have nr : r.Nodup := p.nodup_iff.mpr nd
  refine List.Perm.eq_of_pairwise (le := fun a b => q.idxOf a ≤ q.idxOf b) (fun a b ha hb h1 h2 => idx_inj (p.mem_iff.mp ha) hb (by omega)) ?_ ((pw_idx nd).imp fun h => by omega) p
  refine (List.Pairwise.and_mem.mp (pw_idx nr)).imp fun {a b} h => ?_
  obtain ⟨ha, hb, hlt⟩ := h
  have ne : a ≠ b := fun z => by subst z; omega
  have := (H a b (p.mem_iff.mp ha) (p.mem_iff.mp hb) ne).mp hlt
  omega
theorem prsN_perm {r q : List Str} (p : r.Perm q) {x : Str × Str} : x ∈ prsN r ↔ x ∈ prsN q := by
  rw [prsN_mem, prsN_mem, p.mem_iff, p.mem_iff]
end DL
set_option maxRecDepth 100000
set_option maxHeartbeats 400000
namespace DL
open PySem L2
variable [HW]
local macro_rules | `(tactic| walk_at "dl") => `(tactic| simp (config := { dsimp := false }) only [↓fnM_e, ↓sSeq_e, seqK_nx, seqK_rt, seqK_bk, seqK_ct, retK_rt, retK_nx, ↓sFrz_e, frK_some, ↓sAsg, ↓sRet, ↓sRetN, ↓sIf, ↓sExpr, ↓sSkip, ↓sNever, ↓sPar, ↓sFor, ↓sSub, ↓fVar, ↓fC, ↓fNil, ↓fCons, ↓fA, ↓f1, ↓f2, ↓fB, ↓fIf, ↓fNeg, ↓fNot, ↓fAnd, ↓fOr, ↓bNot, ↓bAnd, ↓bOr, ↓bYes, ↓obnd_x, ob_some, ↓sbnd_x, sb_some, ↓ite_x, iteK_t, iteK_f, gN, gT, gC, gE, ↓rng1I, ↓rng2I, ↓seqI, ↓enumA, ↓zipI, ↓strI, ↓fLc, ↓fDc, ↓fM, ↓fSl, ↓oNone, ↓oSome, ↓fRev, wipeE, ↓kwM, permM, permL, List.foldr, List.length_cons, List.length_nil, List.map_cons, List.map_nil, List.cons_append, List.nil_append, List.replicate, List.replicate_succ, List.replicate_zero, List.getElem?_cons_zero, List.getElem?_cons_succ, List.set_cons_zero, List.set_cons_succ, if_true, if_false, reduceIte, Nat.reduceAdd, Nat.reduceSub, Nat.reduceEqDiff, Nat.reduceLT, Nat.reduceLeDiff, Int.reduceLT, Int.reduceLE, Int.reduceNeg, Int.reduceMul, Int.reduceAdd, Int.reduceSub, Int.reduceToNat, Int.reducePow, Int.reduceEq, ok, bok, deref, mkL, lstW, tupW, dats, Option.map_some, appendW, insertW, setL, isL, listW, tupleW, lenW, absW, intC, maxW, minW, idxW, addW, subW_e, modW_e, divW_e, powW_e, mulW, intW, lt_e, gt_e, le_e, ge_e, ltW, allW_e, anyW_e, sumW_e, lW, setW, lstAt, cutW, backW, isW, isiW, iLT_none, iLT_bool, iLT_int, iLT_str, iLT_list, iLT_tup, iL_none, iL_bool, iL_int, iL_str, iL_list, iL_tup, iT_none, iT_bool, iT_int, iT_str, iT_list, iT_tup, iS_none, iS_bool, iS_int, iS_str, iS_list, iS_tup, iI_none, iI_bool, iI_int, iI_str, iI_list, iI_tup, iB_none, iB_bool, iB_int, iB_str, iB_list, iB_tup, Bool.false_eq_true, reduceCtorEq, Bool.not_true, Bool.not_false, decide_true, decide_false, List.zip_cons_cons, List.zip_nil_left, List.foldl_cons, List.foldl_nil, and_self, and_true, true_and, Bool.and_true, Bool.true_and, Bool.or_true, Bool.true_or, *])
theorem cut_drop {α : Type} (xs : List α) {k : Nat} : cutG xs (some (k : Int)) none = xs.drop k := by
  have e : HT.sIx xs.length 0 (some (k : Int)) = min k xs.length := HT.sIx_nat _ _ _
  have e0 : HT.sIx xs.length xs.length none = xs.length := rfl
  unfold cutG
  rw [e, e0]
  rcases Nat.le_total k xs.length with q | q
  · rw [Nat.min_eq_left q]
    exact List.take_of_length_le (by rw [List.length_drop]; omega)
  · rw [Nat.min_eq_right q, List.drop_eq_nil_of_le q]
    simp
structure GoodC (ps : List (Str × Str)) : Prop where
  pos : 0 < ps.length
  few : ps.length ≤ 30
  nam : ∀ p ∈ ps, NameOk p.1 ∧ NameOk p.2
  nd : (ps.map (·.1)).Nodup
  pw : (ps.map (·.1)).Pairwise fun a b => leS a b = true
  tgt : ∀ p ∈ ps, p.2 ∈ ps.map (·.1)
theorem GoodC.txts {ps : List (Str × Str)} (g : GoodC ps) : Txts (ps.map (·.1)) := fun s hs => by
  obtain ⟨p, hp, rfl⟩ := List.mem_map.mp hs
  exact (g.nam p hp).1.txt
end DL
set_option maxRecDepth 100000
set_option maxHeartbeats 400000
namespace DL
open PySem L2
variable [HW]
local macro_rules | `(tactic| walk_at "dl") => `(tactic| simp (config := { dsimp := false }) only [↓fnM_e, ↓sSeq_e, seqK_nx, seqK_rt, seqK_bk, seqK_ct, retK_rt, retK_nx, ↓sFrz_e, frK_some, ↓sAsg, ↓sRet, ↓sRetN, ↓sIf, ↓sExpr, ↓sSkip, ↓sNever, ↓sPar, ↓sFor, ↓sSub, ↓fVar, ↓fC, ↓fNil, ↓fCons, ↓fA, ↓f1, ↓f2, ↓fB, ↓fIf, ↓fNeg, ↓fNot, ↓fAnd, ↓fOr, ↓bNot, ↓bAnd, ↓bOr, ↓bYes, ↓obnd_x, ob_some, ↓sbnd_x, sb_some, ↓ite_x, iteK_t, iteK_f, gN, gT, gC, gE, ↓rng1I, ↓rng2I, ↓seqI, ↓enumA, ↓zipI, ↓strI, ↓fLc, ↓fDc, ↓fM, ↓fSl, ↓oNone, ↓oSome, ↓fRev, wipeE, ↓kwM, permM, permL, List.foldr, List.length_cons, List.length_nil, List.map_cons, List.map_nil, List.cons_append, List.nil_append, List.replicate, List.replicate_succ, List.replicate_zero, List.getElem?_cons_zero, List.getElem?_cons_succ, List.set_cons_zero, List.set_cons_succ, if_true, if_false, reduceIte, Nat.reduceAdd, Nat.reduceSub, Nat.reduceEqDiff, Nat.reduceLT, Nat.reduceLeDiff, Int.reduceLT, Int.reduceLE, Int.reduceNeg, Int.reduceMul, Int.reduceAdd, Int.reduceSub, Int.reduceToNat, Int.reducePow, Int.reduceEq, ok, bok, deref, mkL, lstW, tupW, dats, Option.map_some, appendW, insertW, setL, isL, listW, tupleW, lenW, absW, intC, maxW, minW, idxW, addW, subW_e, modW_e, divW_e, powW_e, mulW, intW, lt_e, gt_e, le_e, ge_e, ltW, allW_e, anyW_e, sumW_e, lW, setW, lstAt, cutW, backW, isW, isiW, iLT_none, iLT_bool, iLT_int, iLT_str, iLT_list, iLT_tup, iL_none, iL_bool, iL_int, iL_str, iL_list, iL_tup, iT_none, iT_bool, iT_int, iT_str, iT_list, iT_tup, iS_none, iS_bool, iS_int, iS_str, iS_list, iS_tup, iI_none, iI_bool, iI_int, iI_str, iI_list, iI_tup, iB_none, iB_bool, iB_int, iB_str, iB_list, iB_tup, Bool.false_eq_true, reduceCtorEq, Bool.not_true, Bool.not_false, decide_true, decide_false, List.zip_cons_cons, List.zip_nil_left, List.foldl_cons, List.foldl_nil, and_self, and_true, true_and, Bool.and_true, Bool.true_and, Bool.or_true, Bool.true_or, *])
local macro_rules | `(tactic| walk_at "tb") => `(tactic| simp (config := { dsimp := false }) only [↓fFld_e, ↓fMeth_e, ↓fMk_e, fld_n, fld_p, met_leads, met_then, met_times, met_made, met_tells, met_names, ↓fnM_e, ↓sSeq_e, seqK_nx, seqK_rt, seqK_bk, seqK_ct, retK_rt, retK_nx, ↓sFrz_e, frK_some, ↓sAsg, ↓sRet, ↓sRetN, ↓sIf, ↓sExpr, ↓sSkip, ↓sNever, ↓sPar, ↓sFor, ↓sSub, ↓fVar, ↓fC, ↓fNil, ↓fCons, ↓fA, ↓f1, ↓f2, ↓fB, ↓fIf, ↓fNeg, ↓fNot, ↓fAnd, ↓fOr, ↓bNot, ↓bAnd, ↓bOr, ↓bYes, ↓obnd_x, ob_some, ↓sbnd_x, sb_some, ↓ite_x, iteK_t, iteK_f, gN, gT, gC, gE, ↓rng1I, ↓rng2I, ↓seqI, ↓enumA, ↓zipI, ↓strI, ↓fLc, ↓fDc, ↓fM, ↓fSl, ↓oNone, ↓oSome, ↓fRev, wipeE, ↓kwM, permM, permL, List.foldr, List.length_cons, List.length_nil, List.map_cons, List.map_nil, List.cons_append, List.nil_append, List.replicate, List.replicate_succ, List.replicate_zero, List.getElem?_cons_zero, List.getElem?_cons_succ, List.set_cons_zero, List.set_cons_succ, if_true, if_false, reduceIte, Nat.reduceAdd, Nat.reduceSub, Nat.reduceEqDiff, Nat.reduceLT, Nat.reduceLeDiff, Int.reduceLT, Int.reduceLE, Int.reduceNeg, Int.reduceMul, Int.reduceAdd, Int.reduceSub, Int.reduceToNat, Int.reducePow, Int.reduceEq, ok, bok, deref, mkL, lstW, tupW, dats, Option.map_some, appendW, insertW, setL, isL, listW, tupleW, lenW, absW, intC, maxW, minW, idxW, addW, subW_e, modW_e, divW_e, powW_e, mulW, intW, lt_e, gt_e, le_e, ge_e, ltW, allW_e, anyW_e, sumW_e, lW, setW, lstAt, cutW, backW, isW, isiW, iLT_none, iLT_bool, iLT_int, iLT_str, iLT_list, iLT_tup, iL_none, iL_bool, iL_int, iL_str, iL_list, iL_tup, iT_none, iT_bool, iT_int, iT_str, iT_list, iT_tup, iS_none, iS_bool, iS_int, iS_str, iS_list, iS_tup, iI_none, iI_bool, iI_int, iI_str, iI_list, iI_tup, iB_none, iB_bool, iB_int, iB_str, iB_list, iB_tup, Bool.false_eq_true, reduceCtorEq, Bool.not_true, Bool.not_false, decide_true, decide_false, List.zip_cons_cons, List.zip_nil_left, List.foldl_cons, List.foldl_nil, and_self, and_true, true_and, Bool.and_true, Bool.true_and, Bool.or_true, Bool.true_or, *])
theorem part_more {cr r : List Str} {j : Nat} (h : Part cr (j + 1) r) : ∃ r0, Part cr j r0 ∧ r ∈ moreR cr r0 := by
  obtain ⟨nd, hl, hm⟩ := h
  have hne : r ≠ [] := fun z => by subst z; simp at hl
  have e := List.dropLast_concat_getLast hne
  have lm : r.getLast hne ∈ r := List.getLast_mem hne
  have nd' := nd
  rw [← e, List.nodup_append] at nd'
  refine ⟨r.dropLast, ⟨nd'.1, by rw [List.length_dropLast, hl]; rfl, fun s hs => hm s (List.dropLast_subset r hs)⟩, ?_⟩
  unfold moreR
  refine List.mem_map.mpr ⟨r.getLast hne, List.mem_filter.mpr ⟨hm _ lm, ?_⟩, e⟩
  simp only [decide_eq_true_eq]
  intro z
  exact nd'.2.2 _ z _ (List.mem_singleton.mpr rfl) rfl
theorem cut_ab {α : Type} (xs : List α) {a b : Nat} (h : a ≤ b) : cutG xs (some (a : Int)) (some (b : Int)) = (xs.drop a).take (b - a) := by
  have e : HT.sIx xs.length 0 (some (a : Int)) = min a xs.length := HT.sIx_nat _ _ _
  have e0 : HT.sIx xs.length xs.length (some (b : Int)) = min b xs.length := HT.sIx_nat _ _ _
  unfold cutG
  rw [e, e0]
  rcases Nat.le_total a xs.length with q | q
  · rw [Nat.min_eq_left q]
    rcases Nat.le_total b xs.length with q2 | q2
    · rw [Nat.min_eq_left q2]
    · rw [Nat.min_eq_right q2, List.take_of_length_le (by simp), List.take_of_length_le (by simp; omega)]
  · rw [Nat.min_eq_right q, List.drop_eq_nil_of_le (Nat.le_refl _), List.drop_eq_nil_of_le q]
    simp
end DL
set_option maxRecDepth 100000
set_option maxHeartbeats 400000
namespace DL
open PySem L2
variable [HW]
section
variable {ρ ρ1 ρ2 : DL.Env} {h h1 h2 : Hh}
theorem xN : fNil ρ h = some ([], h) := rfl
theorem xC {E : EM} {g : AM} {w : W} {ws : List W} (he : E ρ h = some (w, h1)) (hg : g ρ h1 = some (ws, h2)) : fCons E g ρ h = some (w :: ws, h2) := by simp only [fCons, obnd, he, hg]
theorem xA {m : FM} {g : AM} {ws : List W} {r : Option (W × Hh)} (hg : g ρ h = some (ws, h1)) (hm : m ws h1 = r) : fA m g ρ h = r := by simp only [fA, obnd, hg, hm]
theorem x2 {f : W → W → Hh → Option (W × Hh)} {A B : EM} {x y : W} {r : Option (W × Hh)} (ha : A ρ h = some (x, h1)) (hb : B ρ h1 = some (y, h2)) (hf : f x y h2 = r) : f2 f A B ρ h = r := by simp only [f2, obnd, ha, hb, hf]
theorem xL {IT : IM} {k : TM} {f : EM} {vs : List Nat} {ds rs : List D} (hi : IT ρ h = some (ds, h1)) (e : lcL k bYes f (wipeE ρ vs) ds h1 = some (rs, h2)) (hl : rs.length ≤ sizeLine) : fLc false IT k bYes f vs ρ h = some (.dat (.list rs), h2) := by
  unfold fLc
  simp only [hi, obnd, e]
  rw [if_pos hl]
  rfl
theorem xS {E : EM} {x : D} {ds : List D} (he : E ρ h = some (.dat x, h1)) (hx : IsSeq x ds) : seqI E ρ h = some (ds, h1) := by
  unfold seqI
  simp only [he, obnd]
  rcases hx with rfl | rfl <;> rfl
theorem xList {x : D} {ds : List D} (hx : IsSeq x ds) : listW false [.dat x] h = some (.dat (.list ds), h) := by rcases hx with rfl | rfl <;> rfl
theorem xLst {ws : List W} {ds : List D} (e : dats ws = some ds) (hl : ds.length ≤ sizeLine) : lstW false ws h = some (.dat (.list ds), h) := by
  unfold lstW
  simp only [e, hl, if_true]
  rfl
theorem xTp {ws : List W} {ds : List D} (e : dats ws = some ds) (hl : ds.length ≤ sizeLine) : tupW ws h = some (.dat (.tuple ds), h) := by
  unfold tupW
  simp only [e, hl, if_true]
  rfl
theorem xAdd {a b : List D} (hl : a.length + b.length ≤ sizeLine) : addW false (.dat (.list a)) (.dat (.list b)) h = some (.dat (.list (a ++ b)), h) := by
  unfold addW
  simp only [deref, hl, if_true]
  rfl
theorem zA {E : EM} {k : TM} {rest : SM} {w : W} (he : E ρ h = some (w, h1)) (hk : k w ρ h1 = some ρ1) : sSeq (sAsg E k) rest ρ h = rest ρ1 h1 := by
  unfold sSeq sAsg
  simp only [he, sbnd, hk]
theorem zI {t : BM} {a rest : SM} (ht : t ρ h = some (false, h1)) : sSeq (sIf t a sSkip) rest ρ h = rest ρ h1 := by
  unfold sSeq sIf
  simp only [ht, sbnd, Bool.false_eq_true, if_false, sSkip]
theorem zF {IT : IM} {k : TM} {body rest : SM} {ds : List D} (hi : IT ρ h = some (ds, h1)) (e : forL k body ds ρ h1 = some (.nx ρ2, h2)) : sSeq (sFor IT k body) rest ρ h = rest ρ2 h2 := by
  unfold sSeq sFor
  simp only [hi, sbnd, e]
theorem zP {g : AM} {is : List Nat} {rest : SM} {ws : List W} (hg : g ρ h = some (ws, h1)) (hl : ws.length = is.length) (hr : (is.zip ws).foldl (fun ρ p => ρ.set p.1 (some p.2)) ρ = ρ1) : sSeq (sPar g is) rest ρ h = rest ρ1 h1 := by
  unfold sSeq sPar
  simp only [hg, sbnd, hl, if_true, hr]
theorem zR {E : EM} {w : W} (he : E ρ h = some (w, h1)) : sRet E ρ h = some (.rt w, h1) := by
  unfold sRet
  simp only [he, sbnd]
end
end DL
set_option maxRecDepth 100000
set_option maxHeartbeats 400000
namespace DL
open PySem L2
variable [HW]
local macro_rules | `(tactic| walk_at "dl") => `(tactic| simp (config := { dsimp := false }) only [↓fnM_e, ↓sSeq_e, seqK_nx, seqK_rt, seqK_bk, seqK_ct, retK_rt, retK_nx, ↓sFrz_e, frK_some, ↓sAsg, ↓sRet, ↓sRetN, ↓sIf, ↓sExpr, ↓sSkip, ↓sNever, ↓sPar, ↓sFor, ↓sSub, ↓fVar, ↓fC, ↓fNil, ↓fCons, ↓fA, ↓f1, ↓f2, ↓fB, ↓fIf, ↓fNeg, ↓fNot, ↓fAnd, ↓fOr, ↓bNot, ↓bAnd, ↓bOr, ↓bYes, ↓obnd_x, ob_some, ↓sbnd_x, sb_some, ↓ite_x, iteK_t, iteK_f, gN, gT, gC, gE, ↓rng1I, ↓rng2I, ↓seqI, ↓enumA, ↓zipI, ↓strI, ↓fLc, ↓fDc, ↓fM, ↓fSl, ↓oNone, ↓oSome, ↓fRev, wipeE, ↓kwM, permM, permL, List.foldr, List.length_cons, List.length_nil, List.map_cons, List.map_nil, List.cons_append, List.nil_append, List.replicate, List.replicate_succ, List.replicate_zero, List.getElem?_cons_zero, List.getElem?_cons_succ, List.set_cons_zero, List.set_cons_succ, if_true, if_false, reduceIte, Nat.reduceAdd, Nat.reduceSub, Nat.reduceEqDiff, Nat.reduceLT, Nat.reduceLeDiff, Int.reduceLT, Int.reduceLE, Int.reduceNeg, Int.reduceMul, Int.reduceAdd, Int.reduceSub, Int.reduceToNat, Int.reducePow, Int.reduceEq, ok, bok, deref, mkL, lstW, tupW, dats, Option.map_some, appendW, insertW, setL, isL, listW, tupleW, lenW, absW, intC, maxW, minW, idxW, addW, subW_e, modW_e, divW_e, powW_e, mulW, intW, lt_e, gt_e, le_e, ge_e, ltW, allW_e, anyW_e, sumW_e, lW, setW, lstAt, cutW, backW, isW, isiW, iLT_none, iLT_bool, iLT_int, iLT_str, iLT_list, iLT_tup, iL_none, iL_bool, iL_int, iL_str, iL_list, iL_tup, iT_none, iT_bool, iT_int, iT_str, iT_list, iT_tup, iS_none, iS_bool, iS_int, iS_str, iS_list, iS_tup, iI_none, iI_bool, iI_int, iI_str, iI_list, iI_tup, iB_none, iB_bool, iB_int, iB_str, iB_list, iB_tup, Bool.false_eq_true, reduceCtorEq, Bool.not_true, Bool.not_false, decide_true, decide_false, List.zip_cons_cons, List.zip_nil_left, List.foldl_cons, List.foldl_nil, and_self, and_true, true_and, Bool.and_true, Bool.true_and, Bool.or_true, Bool.true_or, *])
theorem words_txt {l : List Str} {ws : List (List (Str × Str))} (ht : Txts l) (cw : Words l ws) : ∀ ps ∈ ws, TxtP ps ∧ ps.length ≤ l.length := fun ps hp => by
  have c := cw ps hp
  have := c.perm.length_eq
  rw [List.length_map] at this
  exact ⟨c.txts ht, by omega⟩
end DL
set_option maxRecDepth 100000
set_option maxHeartbeats 400000
namespace DL
open PySem L2
variable [HW]
local macro_rules | `(tactic| walk_at "dl") => `(tactic| simp (config := { dsimp := false }) only [↓fnM_e, ↓sSeq_e, seqK_nx, seqK_rt, seqK_bk, seqK_ct, retK_rt, retK_nx, ↓sFrz_e, frK_some, ↓sAsg, ↓sRet, ↓sRetN, ↓sIf, ↓sExpr, ↓sSkip, ↓sNever, ↓sPar, ↓sFor, ↓sSub, ↓fVar, ↓fC, ↓fNil, ↓fCons, ↓fA, ↓f1, ↓f2, ↓fB, ↓fIf, ↓fNeg, ↓fNot, ↓fAnd, ↓fOr, ↓bNot, ↓bAnd, ↓bOr, ↓bYes, ↓obnd_x, ob_some, ↓sbnd_x, sb_some, ↓ite_x, iteK_t, iteK_f, gN, gT, gC, gE, ↓rng1I, ↓rng2I, ↓seqI, ↓enumA, ↓zipI, ↓strI, ↓fLc, ↓fDc, ↓fM, ↓fSl, ↓oNone, ↓oSome, ↓fRev, wipeE, ↓kwM, permM, permL, List.foldr, List.length_cons, List.length_nil, List.map_cons, List.map_nil, List.cons_append, List.nil_append, List.replicate, List.replicate_succ, List.replicate_zero, List.getElem?_cons_zero, List.getElem?_cons_succ, List.set_cons_zero, List.set_cons_succ, if_true, if_false, reduceIte, Nat.reduceAdd, Nat.reduceSub, Nat.reduceEqDiff, Nat.reduceLT, Nat.reduceLeDiff, Int.reduceLT, Int.reduceLE, Int.reduceNeg, Int.reduceMul, Int.reduceAdd, Int.reduceSub, Int.reduceToNat, Int.reducePow, Int.reduceEq, ok, bok, deref, mkL, lstW, tupW, dats, Option.map_some, appendW, insertW, setL, isL, listW, tupleW, lenW, absW, intC, maxW, minW, idxW, addW, subW_e, modW_e, divW_e, powW_e, mulW, intW, lt_e, gt_e, le_e, ge_e, ltW, allW_e, anyW_e, sumW_e, lW, setW, lstAt, cutW, backW, isW, isiW, iLT_none, iLT_bool, iLT_int, iLT_str, iLT_list, iLT_tup, iL_none, iL_bool, iL_int, iL_str, iL_list, iL_tup, iT_none, iT_bool, iT_int, iT_str, iT_list, iT_tup, iS_none, iS_bool, iS_int, iS_str, iS_list, iS_tup, iI_none, iI_bool, iI_int, iI_str, iI_list, iI_tup, iB_none, iB_bool, iB_int, iB_str, iB_list, iB_tup, Bool.false_eq_true, reduceCtorEq, Bool.not_true, Bool.not_false, decide_true, decide_false, List.zip_cons_cons, List.zip_nil_left, List.foldl_cons, List.foldl_nil, and_self, and_true, true_and, Bool.and_true, Bool.true_and, Bool.or_true, Bool.true_or, *])
local macro_rules | `(tactic| walk_at "tg") => `(tactic| simp (config := { dsimp := false }) only [divBW_e, ↓fFld_e, ↓fMeth_e, ↓fMk_e, fld_n, fld_p, met_leads, met_then, met_times, met_made, met_tells, met_names, ↓fnM_e, ↓sSeq_e, seqK_nx, seqK_rt, seqK_bk, seqK_ct, retK_rt, retK_nx, ↓sFrz_e, frK_some, ↓sAsg, ↓sRet, ↓sRetN, ↓sIf, ↓sExpr, ↓sSkip, ↓sNever, ↓sPar, ↓sFor, ↓sSub, ↓fVar, ↓fC, ↓fNil, ↓fCons, ↓fA, ↓f1, ↓f2, ↓fB, ↓fIf, ↓fNeg, ↓fNot, ↓fAnd, ↓fOr, ↓bNot, ↓bAnd, ↓bOr, ↓bYes, ↓obnd_x, ob_some, ↓sbnd_x, sb_some, ↓ite_x, iteK_t, iteK_f, gN, gT, gC, gE, ↓rng1I, ↓rng2I, ↓seqI, ↓enumA, ↓zipI, ↓strI, ↓fLc, ↓fDc, ↓fM, ↓fSl, ↓oNone, ↓oSome, ↓fRev, wipeE, ↓kwM, permM, permL, List.foldr, List.length_cons, List.length_nil, List.map_cons, List.map_nil, List.cons_append, List.nil_append, List.replicate, List.replicate_succ, List.replicate_zero, List.getElem?_cons_zero, List.getElem?_cons_succ, List.set_cons_zero, List.set_cons_succ, if_true, if_false, reduceIte, Nat.reduceAdd, Nat.reduceSub, Nat.reduceEqDiff, Nat.reduceLT, Nat.reduceLeDiff, Int.reduceLT, Int.reduceLE, Int.reduceNeg, Int.reduceMul, Int.reduceAdd, Int.reduceSub, Int.reduceToNat, Int.reducePow, Int.reduceEq, ok, bok, deref, mkL, lstW, tupW, dats, Option.map_some, appendW, insertW, setL, isL, listW, tupleW, lenW, absW, intC, maxW, minW, idxW, addW, subW_e, modW_e, divW_e, powW_e, mulW, intW, lt_e, gt_e, le_e, ge_e, ltW, allW_e, anyW_e, sumW_e, lW, setW, lstAt, cutW, backW, isW, isiW, iLT_none, iLT_bool, iLT_int, iLT_str, iLT_list, iLT_tup, iL_none, iL_bool, iL_int, iL_str, iL_list, iL_tup, iT_none, iT_bool, iT_int, iT_str, iT_list, iT_tup, iS_none, iS_bool, iS_int, iS_str, iS_list, iS_tup, iI_none, iI_bool, iI_int, iI_str, iI_list, iI_tup, iB_none, iB_bool, iB_int, iB_str, iB_list, iB_tup, Bool.false_eq_true, reduceCtorEq, Bool.not_true, Bool.not_false, decide_true, decide_false, List.zip_cons_cons, List.zip_nil_left, List.foldl_cons, List.foldl_nil, and_self, and_true, true_and, Bool.and_true, Bool.true_and, Bool.or_true, Bool.true_or, *])
theorem take_okFG (fu : Nat) {h : Hh} {b c : Nat} {n : Int} (hb : BoxAt h b c) (hc : c < 1099511627776) (h0 : 0 < n) (h1 : n ≤ 10000000) :
    ∃ r h', m__law_takeG (fu + 1) [.ref b, .dat (.int n)] h = some (.dat (.int r), h') ∧ 0 ≤ r ∧ r < n ∧ BoxAt h' b (c + 1) ∧ Only b h h' := by
  obtain ⟨d, s, k, e, hd, hs, hs2, hk, hk2⟩ := id hb
  have lb := hb.lt
  have a0 := fun x y z : D => (atI3 x y z).1
  have a1 := fun x y z : D => (atI3 x y z).2.1
  have a2 := fun x y z : D => (atI3 x y z).2.2
  have i0 := ix3.1
  have i2 := ix3.2.2
  have hna : Int.natAbs 10 < 18446744073709551616 := by decide
  have h1' : n < 1000000000000000000 := by omega
  have h7 : decide (10000000 < n) = false := decide_eq_false (by omega)
  by_cases hp : 0 < d
  · have y : BoxAt (h.set b (some (.lst [.int (d / n), .int s, .int k]))) b c := ⟨d / n, s, k, by rw [List.getElem?_set_self lb], Int.ediv_nonneg hd (by omega), hs, hs2, hk, hk2⟩
    refine ⟨d % n, h.set b (some (.lst [.int (d / n), .int s, .int k])), ?_, Int.emod_nonneg _ (by omega), Int.emod_lt_of_pos _ h0, y.mono (by omega), only_set _ _ _⟩
    rw [m__law_takeG]
    walk_at "tg"
    exact leave_dat' hb y (only_set _ _ _)
  · have y : BoxAt (h.set b (some (.lst [.int d, .int s, .int (k + 1)]))) b (c + 1) := ⟨d, s, k + 1, by rw [List.getElem?_set_self lb], hd, hs, hs2, by omega, by omega⟩
    have hp' : decide (0 < d) = false := by simpa using hp
    have g1 : (h.set b (some (.lst [.int d, .int s, .int (k + 1)])))[b]? = some (some (.lst [.int d, .int s, .int (k + 1)])) := by rw [List.getElem?_set_self lb]
    have hw : (s + 39373 * (k + 1)).natAbs < 18446744073709551616 := by omega
    have o1 : -18446744073709551616 < (s + 39373 * (k + 1)) ^ 5 % 2147483647 := by omega
    have o2 : (s + 39373 * (k + 1)) ^ 5 % 2147483647 < 18446744073709551616 := by omega
    have k1 : -18446744073709551616 < k + 1 := by omega
    have k2 : k + 1 < 18446744073709551616 := by omega
    refine ⟨((s + 39373 * (k + 1)) ^ 5 % 2147483647 * ((s + 39373 * (k + 1)) ^ 5 % 2147483647 % 40009 + 7) + (k + 1) * 7919) % 2147483629 / 64 % n, h.set b (some (.lst [.int d, .int s, .int (k + 1)])), ?_, Int.emod_nonneg _ (by omega), Int.emod_lt_of_pos _ h0, y, only_set _ _ _⟩
    rw [m__law_takeG]
    walk_at "tg"
    exact leave_dat' hb y (only_set _ _ _)
theorem take_okB {h : Hh} {b c : Nat} {n : Int} (hb : BoxAt h b c) (hc : c < 1000000000000) (h0 : 10000000 < n) (h1 : n ≤ 100000000000000) :
    ∃ r h', m__law_takeG 12 [.ref b, .dat (.int n)] h = some (.dat (.int r), h') ∧ 0 ≤ r ∧ r < n ∧ BoxAt h' b (c + 2) ∧ Only b h h' := by
  obtain ⟨d, s, k, e, hd, hs, hs2, hk, hk2⟩ := id hb
  have lb := hb.lt
  have a0 := fun x y z : D => (atI3 x y z).1
  have i0 := ix3.1
  have hna : Int.natAbs 10 < 18446744073709551616 := by decide
  have h1' : n < 1000000000000000000 := by omega
  have h0' : 0 < n := by omega
  have h7 : decide (10000000 < n) = true := decide_eq_true (by omega)
  by_cases hp : 0 < d
  · have y : BoxAt (h.set b (some (.lst [.int (d / n), .int s, .int k]))) b c := ⟨d / n, s, k, by rw [List.getElem?_set_self lb], Int.ediv_nonneg hd (by omega), hs, hs2, hk, hk2⟩
    refine ⟨d % n, h.set b (some (.lst [.int (d / n), .int s, .int k])), ?_, Int.emod_nonneg _ (by omega), Int.emod_lt_of_pos _ h0', y.mono (by omega), only_set _ _ _⟩
    rw [m__law_takeG]
    walk_at "tg"
    exact leave_dat' hb y (only_set _ _ _)
  · have hp' : decide (0 < d) = false := by simpa using hp
    obtain ⟨r1, g1, e1, p1, q1, b1, o1⟩ := take_okFG 10 (n := 10000000) hb (by omega) (by omega) (by omega)
    obtain ⟨r2, g2, e2, p2, q2, b2, o2⟩ := take_okFG 10 (n := (n - 1) / 10000000 + 1) b1 (by omega) (by omega) (by omega)
    have oo := o1.trans o2
    refine ⟨(r1 + 10000000 * r2) % n, g2, ?_, Int.emod_nonneg _ (by omega), Int.emod_lt_of_pos _ h0', b2.mono (by omega), oo⟩
    have lv := fun r : Int => leave_dat' (d := .int r) hb b2 oo
    have k1 : -18446744073709551616 < r2 := by omega
    have k2 : r2 < 18446744073709551616 := by omega
    rw [m__law_takeG]
    have e1' : m__law_takeG 11 [W.ref b, W.dat (PyData.int 10000000)] h = some (W.dat (PyData.int r1), g1) := e1
    have e2' : m__law_takeG 11 [W.ref b, W.dat (PyData.int ((n - 1) / 10000000 + 1))] g1 = some (W.dat (PyData.int r2), g2) := e2
    clear e1 e2 hb b1 b2 o1 o2 oo hs hs2 hk hk2 hd lb h1 h0 p1 q1 p2 q2 hp
    walk_at "tg"
theorem take_okH {h : Hh} {b c : Nat} {n : Int} (hb : BoxAt h b c) (hc : c < 1000000000000) (h0 : 0 < n) (h1 : n ≤ 100000000000000) :
    ∃ r h', m__law_takeG 12 [.ref b, .dat (.int n)] h = some (.dat (.int r), h') ∧ 0 ≤ r ∧ r < n ∧ BoxAt h' b (c + 2) ∧ Only b h h' := by
  by_cases z : 10000000 < n
  · exact take_okB hb hc z h1
  · obtain ⟨r, h', e, p, q, b1, o⟩ := take_okFG 11 hb (by omega) h0 (by omega)
    exact ⟨r, h', e, p, q, b1.mono (by omega), o⟩
theorem take_okG {h : Hh} {b c : Nat} {n : Int} (hb : BoxAt h b c) (hc : c < 1099511627776) (h0 : 0 < n) (h1 : n ≤ 10000000) :
    ∃ r h', m__law_takeG 12 [.ref b, .dat (.int n)] h = some (.dat (.int r), h') ∧ 0 ≤ r ∧ r < n ∧ BoxAt h' b (c + 1) ∧ Only b h h' := take_okFG 11 hb hc h0 h1
theorem pick_okG {x : D} {ds : List D} {h : Hh} {b c : Nat} (hx : IsSeq x ds) (hb : BoxAt h b c) (hc : c < 1000000000) (h0 : 0 < ds.length) (h1 : ds.length ≤ 1000) :
    ∃ d h', m__law_pickG [.ref b, .dat x] h = some (.dat d, h') ∧ d ∈ ds ∧ BoxAt h' b (c + 1) ∧ Only b h h' := by
  obtain ⟨r, h', e, r0, r1, b1, o1⟩ := take_okG (n := (ds.length : Int)) hb (by omega) (by omega) (by omega)
  have hr : r.toNat < ds.length := by omega
  have e2 : L2.atI ds r = some ds[r.toNat] := by
    have := atI_nat (xs := ds) (j := r.toNat) (List.getElem?_eq_getElem hr)
    rwa [show ((r.toNat : Nat) : Int) = r by omega] at this
  obtain ⟨d, hd, e3⟩ : ∃ d, d ∈ ds ∧ L2.atI ds r = some d := ⟨_, List.getElem_mem hr, e2⟩
  refine ⟨d, h', ?_, hd, b1, o1⟩
  have lv := leave_dat' (d := d) hb b1 o1
  unfold m__law_pickG
  clear e2 hd hb b1 o1 r0 r1 hr h0 h1 hc
  rcases hx with rfl | rfl <;> walk_at "dl"
theorem pick_txtG {z : Str} {h : Hh} {b c : Nat} (hb : BoxAt h b c) (hc : c < 1000000000) (h0 : 0 < z.length) (h1 : z.length ≤ 1000) :
    ∃ (y : Nat) (h' : Hh), m__law_pickG [.ref b, .dat (.str z)] h = some (.dat (.str ⟨#[y]⟩), h') ∧ y ∈ z.cps.toList ∧ BoxAt h' b (c + 1) ∧ Only b h h' := by
  obtain ⟨r, h', e, r0, r1, b1, o1⟩ := take_okG (n := (z.length : Int)) hb (by omega) (by omega) (by omega)
  have hz : z.cps.toList.length = z.length := by simp [Str.length]
  have hr : r.toNat < z.cps.toList.length := by omega
  have e2 : L2.atI z.cps.toList r = some z.cps.toList[r.toNat] := by
    have := atI_nat (xs := z.cps.toList) (j := r.toNat) (List.getElem?_eq_getElem hr)
    rwa [show ((r.toNat : Nat) : Int) = r by omega] at this
  refine ⟨z.cps.toList[r.toNat], h', ?_, List.getElem_mem hr, b1, o1⟩
  have lv := leave_dat' (d := .str ⟨#[z.cps.toList[r.toNat]]⟩) hb b1 o1
  have l1 : z.length ≤ sizeLine := Nat.le_trans h1 (by decide)
  generalize z.cps.toList[r.toNat] = y at *
  unfold m__law_pickG
  clear hb b1 o1 r0 r1 hr h0 h1 hc hz
  walk_at "dl"
noncomputable def nmBodyG : SM := (sSeq (sAsg (fJoin (fC (.str "")) (fLc false (rng1I (fCons (f2 (addW false) (fC (.int 1)) (fA (m__law_takeG 12) (fCons (fVar 0) (fCons (fC (.int 3)) (fNil))))) (fNil))) (gN 5) (bYes) (fA (m__law_pickG) (fCons (fVar 0) (fCons (fC (.str "abkmxz")) (fNil)))) [5])) (gN 4))
    (sAsg (fA (sortSW false) (fCons (f2 (addW false) (fVar 3) (fA (lstW false) (fCons (f2 (addW false) (fVar 4) (f2 idxW (fC (.str "abcdefghijklmnopqrstuvwx")) (fA lenW (fCons (fVar 3) (fNil))))) (fNil)))) (fNil))) (gN 3)))
theorem nm_runG {g g1 g2 : Hh} {b : Nat} {r nI : Int} {L M Z nmz : Str} {cc : Nat} {F rs R : List D} {v1 v2 v4 : Option W} (hL : L = ends) (hM : M = six) (hZ : Z = "") (e1 : m__law_takeG 12 [.ref b, .dat (.int 3)] g = some (.dat (.int r), g1)) (b0 : -1000000000 ≤ 1 + r) (b1 : 1 + r ≤ 1000000000)
    (e2 : lcL (gN 5) (bYes) (fA (m__law_pickG) (fCons (fVar 0) (fCons (fC (.str M)) (fNil)))) [some (.ref b), v1, v2, some (.dat (.list F)), v4, none] (rngD 0 (1 + r).toNat) g1 = some (rs, g2)) (l1 : rs.length ≤ sizeLine) (ej : joinW (.dat (.str Z)) (.dat (.list rs)) g2 = some (.dat (.str nmz), g2)) (es : isS (.dat (.str Z)) = true)
    (hn : (F.length : Int) = nI) (la : L2.atI L.cps.toList nI = some cc) (ll : L.length ≤ sizeLine) (l2 : nmz.length + (Str.length ⟨#[cc]⟩) ≤ sizeLine) (l3 : F.length + 1 ≤ sizeLine) (eq : sortSW false [.dat (.list (F ++ [.str (nmz ++ ⟨#[cc]⟩)]))] g2 = some (.dat (.list R), g2)) :
    nmBodyG [some (.ref b), v1, v2, some (.dat (.list F)), v4, none] g = some (.nx [some (.ref b), v1, v2, some (.dat (.list R)), some (.dat (.str nmz)), none], g2) := by
  have c1 : 1 ≤ sizeLine := by decide
  unfold nmBodyG fJoin
  subst hL hM hZ
  walk_at "dl"
theorem nm_turnG {g : Hh} {b c n : Nat} {l : List Str} {v1 v2 v4 : Option W} (hb : BoxAt g b c) (hc : c < 100000) (hl : l.length = n) (hn : n < 24) (nd : l.Nodup) (hno : ∀ s, NameAt n s → s ∉ l) :
    ∃ (s : Str) (v4' : Option W) (g' : Hh), NameAt n s ∧ nmBodyG [some (.ref b), v1, v2, some (.dat (.list (l.map .str))), v4, none] g = some (.nx [some (.ref b), v1, v2, some (.dat (.list (((l ++ [s]).mergeSort leT).map .str))), v4', none], g') ∧ BoxAt g' b (c + 4) ∧ Only b g g' := by
  have hz : sizeLine = 16777216 := rfl
  obtain ⟨r, g1, e1, r0, r1, b1, o1⟩ := take_okG (n := 3) hb (by omega) (by omega) (by omega)
  have key := lcL_inv (k := gN 5) (f := fA (m__law_pickG) (fCons (fVar 0) (fCons (fC (.str six)) (fNil)))) (ρ := [some (.ref b), v1, v2, some (.dat (.list (l.map .str))), v4, none]) (fun k g' => BoxAt g' b (c + 1 + k) ∧ Only b g g') (fun _ d => ∃ y : Nat, y ∈ six.cps.toList ∧ d = .str ⟨#[y]⟩) (ds := rngD 0 (1 + r).toNat) (n := 0) (h := g1) ⟨b1, o1⟩ (by
    intro j d ej g' hi
    obtain ⟨bx, on⟩ := hi
    have hj := (rng_get ej).1
    obtain ⟨y, g2, e2, hy, b2, o2⟩ := pick_txtG (z := six) bx (by omega) (by rw [six_len]; omega) (by rw [six_len]; omega)
    refine ⟨[some (.ref b), v1, v2, some (.dat (.list (l.map .str))), v4, some (.dat d)], .str ⟨#[y]⟩, g2, rfl, ?_, ⟨y, hy, rfl⟩, b2, on.trans o2⟩
    generalize six = M at *
    clear hb hc hl hn nd hno hz e1 r0 r1 b1 o1 ej bx on hj hy b2 o2
    walk_at "dl")
  obtain ⟨rs, g2, e2, rl, hr, b2, o2⟩ := key
  rw [rng_len] at rl b2
  obtain ⟨ys, rfl, hy⟩ : ∃ ys : List Nat, rs = ys.map (fun y => PyData.str ⟨#[y]⟩) ∧ ∀ y ∈ ys, y ∈ six.cps.toList := by
    have : ∀ rs : List D, (∀ d ∈ rs, ∃ y : Nat, y ∈ six.cps.toList ∧ d = .str ⟨#[y]⟩) → ∃ ys : List Nat, rs = ys.map (fun y => PyData.str ⟨#[y]⟩) ∧ ∀ y ∈ ys, y ∈ six.cps.toList := fun rs => by
      induction rs with
      | nil => exact fun _ => ⟨[], rfl, fun y hy => by cases hy⟩
      | cons d rs ih =>
        intro H
        obtain ⟨y, h1, rfl⟩ := H d List.mem_cons_self
        obtain ⟨ys, rfl, h2⟩ := ih fun e he => H e (List.mem_cons_of_mem _ he)
        exact ⟨y :: ys, rfl, fun z hz => by
          rcases List.mem_cons.mp hz with rfl | hz
          · exact h1
          · exact h2 z hz⟩
    refine this rs fun d hd => ?_
    obtain ⟨j, hj, rfl⟩ := List.getElem_of_mem hd
    exact hr j _ (List.getElem?_eq_getElem hj)
  rw [List.length_map] at rl
  have na := name_made (ys := ys) (i := n) (by omega) (by omega) (fun y h => six_ok y (hy y h)) hn
  have nn := hno _ na
  have ndl : (l ++ [Txt.join "" (ys.map fun y => (⟨#[y]⟩ : Str)) ++ ⟨#[97 + n]⟩]).Nodup := by
    rw [List.nodup_append]
    refine ⟨nd, by simp, fun x hx y hy' e => ?_⟩
    rw [List.mem_singleton] at hy'
    subst hy'
    rw [e] at hx
    exact nn hx
  have nl := na.1.2.1
  refine ⟨_, some (.dat (.str (Txt.join "" (ys.map fun y => (⟨#[y]⟩ : Str))))), g2, na, nm_runG (L := ends) (M := six) (Z := "") (cc := 97 + n) (nI := (n : Int)) rfl rfl rfl e1 (by omega) (by omega) e2 (by rw [List.length_map]; omega) ?_ rfl (by rw [List.length_map, hl]) (ends_at hn) (by rw [ends_len]; omega) ?_ (by rw [List.length_map]; omega) ?_, b2.mono (by omega), o2⟩
  · unfold joinW
    have q : ((ys.map fun y => (⟨#[y]⟩ : Str)).map (·.length)).sum + (ys.map fun y => (⟨#[y]⟩ : Str)).length * ("" : Str).length ≤ 16777216 := by
      have e0 : ("" : Str).length = 0 := by decide +kernel
      rw [e0, Nat.mul_zero, List.map_map]
      have : ∀ ys : List Nat, (ys.map ((fun s : Str => s.length) ∘ fun y => (⟨#[y]⟩ : Str))).sum = ys.length := fun ys => by
        induction ys with
        | nil => rfl
        | cons a t ih =>
          rw [List.map_cons, List.sum_cons, ih, List.length_cons]
          show 1 + _ = _
          omega
      rw [this]
      omega
    simp only [deref, rowS_sing]
    rw [if_pos q]
    rfl
  · rw [← len_app]; omega
  · unfold sortSW
    have e : rowS (l.map PyData.str ++ [.str (Txt.join "" (ys.map fun y => (⟨#[y]⟩ : Str)) ++ ⟨#[97 + n]⟩)]) = some (l ++ [Txt.join "" (ys.map fun y => (⟨#[y]⟩ : Str)) ++ ⟨#[97 + n]⟩]) := by
      have := rowS_strs (l ++ [Txt.join "" (ys.map fun y => (⟨#[y]⟩ : Str)) ++ ⟨#[97 + n]⟩])
      rwa [List.map_append] at this
    have ln : (l ++ [Txt.join "" (ys.map fun y => (⟨#[y]⟩ : Str)) ++ ⟨#[97 + n]⟩]).length < 1000 := by rw [List.length_append]; simp; omega
    simp only [deref, e, ndl, ln, decide_true, Bool.and_self, if_true]
    rfl
theorem names_okZG {h : Hh} {b c most : Nat} (hb : BoxAt h b c) (hc : c < 10000) (m0 : 0 < most) (m1 : most ≤ 24) :
    ∃ (l : List Str) (h' : Hh), m__law_namesG [.ref b, .dat (.int most)] h = some (.dat (.list (l.map .str)), h') ∧ Folk most l ∧ (∀ s ∈ l, ∃ i, i < 24 ∧ NameAt i s) ∧ l.Pairwise (fun a b => leS a b = true) ∧ BoxAt h' b (c + 1 + 4 * most) ∧ Only b h h' := by
  have hz : sizeLine = 16777216 := rfl
  obtain ⟨r, g1, e1, r0, r1, b1, o1⟩ := take_okG (n := (most : Int)) hb (by omega) (by omega) (by omega)
  have key := whileL_run (t := fB (f2 lt_W (fA lenW (fCons (fVar 3) (fNil))) (fVar 2))) (body := nmBodyG) (fun n ρ g => ∃ (l : List Str) (v4 : Option W), ρ = [some (.ref b), some (.dat (.int most)), some (.dat (.int (1 + r))), some (.dat (.list (l.map .str))), v4, none] ∧ l.length = n ∧ l.Nodup ∧ (∀ s ∈ l, ∃ i, i < n ∧ NameAt i s) ∧ l.Pairwise (fun a b => leS a b = true) ∧ BoxAt g b (c + 1 + 4 * n) ∧ Only b h g)
    (1 + r).toNat (n := 0) (fuel := 100000) (ρ := [some (.ref b), some (.dat (.int most)), some (.dat (.int (1 + r))), some (.dat (.list [])), none, none]) (h := g1) (by omega) ⟨[], none, rfl, rfl, .nil, (fun s hs => by cases hs), .nil, b1, o1⟩ (by
      intro j ρ g _ hj hi
      obtain ⟨l, v4, rfl, hl, nd, hs, pw, bx, on⟩ := hi
      obtain ⟨s, v4', g', na, et, b2, o2⟩ := nm_turnG (v1 := some (.dat (.int most))) (v2 := some (.dat (.int (1 + r)))) (v4 := v4) bx (by omega) hl (by omega) nd (fun s hs' hm => by
        obtain ⟨i, hi, ni⟩ := hs s hm
        have := nameAt_inj hs' ni
        omega)
      have pm := List.mergeSort_perm (l ++ [s]) leT
      refine ⟨g, _, g', ?_, et, _, v4', rfl, ?_, ?_, ?_, ?_, b2.mono (by omega), on.trans o2⟩
      · have d1 : decide (((l.map PyData.str).length : Int) < 1 + r) = true := by rw [List.length_map, hl]; simp; omega
        clear hz e1 r0 r1 b1 o1 hl nd hs pw bx on na et b2 o2 hb hc m0 m1 hj pm
        walk_at "dl"
      · rw [pm.length_eq]; simp [hl]
      · refine pm.nodup_iff.mpr ?_
        rw [List.nodup_append]
        refine ⟨nd, by simp, fun x hx y hy e => ?_⟩
        rw [List.mem_singleton] at hy
        subst hy
        subst e
        obtain ⟨i, hi, ni⟩ := hs x hx
        have := nameAt_inj na ni
        omega
      · intro x hx
        rcases List.mem_append.mp (pm.mem_iff.mp hx) with hx | hx
        · obtain ⟨i, hi, ni⟩ := hs x hx
          exact ⟨i, by omega, ni⟩
        · rw [List.mem_singleton] at hx
          subst hx
          exact ⟨j, by omega, na⟩
      · exact List.pairwise_mergeSort leT_trans leT_total (l ++ [s])) (by
      intro ρ g hi
      obtain ⟨l, v4, rfl, hl, nd, hs, pw, bx, on⟩ := hi
      have d1 : decide (((l.map PyData.str).length : Int) < 1 + r) = false := by rw [List.length_map, hl]; simp; omega
      clear hz e1 r0 r1 b1 o1 hl nd hs pw bx on hb hc m0 m1
      walk_at "dl")
  obtain ⟨ρ', g, e2, l, v4, rfl, hl, nd, hs, pw, bx, on⟩ := key
  have bm : BoxAt g b (c + 1 + 4 * most) := bx.mono (by omega)
  refine ⟨l, g, ?_, ⟨nd, by omega, by omega, fun s h' => by obtain ⟨i, _, na⟩ := hs s h'; exact na.1⟩, fun s h' => by obtain ⟨i, hi, na⟩ := hs s h'; exact ⟨i, by omega, na⟩, pw, bm, on⟩
  have lv := leave_dat' (d := .list (l.map .str)) hb bm on
  have c0 : 0 ≤ sizeLine := Nat.zero_le _
  have ew : sWhile 100000 (fB (f2 lt_W (fA lenW (fCons (fVar 3) (fNil))) (fVar 2))) nmBodyG [some (.ref b), some (.dat (.int most)), some (.dat (.int (1 + r))), some (.dat (.list [])), none, none] g1 = some (.nx [some (.ref b), some (.dat (.int most)), some (.dat (.int (1 + r))), some (.dat (.list (l.map .str))), v4, none], g) := e2
  unfold nmBodyG at ew
  unfold m__law_namesG
  clear hz r0 r1 b1 o1 hl nd hs pw bx on hb hc m0 m1 e2 bm
  walk_at "dl"
noncomputable def rowBodyG : SM := sExpr (fM isL appendW (fVar 3) (fCons (fM isL popAtW (fVar 2) (fCons (fA (m__law_takeG 12) (fCons (fVar 0) (fCons (fA lenW (fCons (fVar 2) (fNil))) (fNil)))) (fNil))) (fNil)))
theorem row_turnG {g g1 g2 : Hh} {b p q : Nat} {x : W} {left found : List D} {d : D} {i n : Int} (hp : g[p]? = some (some (.lst left))) (hq : g[q]? = some (some (.lst found))) (hn : (left.length : Int) = n) (e1 : m__law_takeG 12 [.ref b, .dat (.int n)] g = some (.dat (.int i), g1)) (hp1 : g1[p]? = some (some (.lst left))) (i0 : 0 ≤ i) (i1 : i < 1000000) (hd : left[i.toNat]? = some d)
    (e2 : g1.set p (some (.lst (left.eraseIdx i.toNat))) = g2) (hq2 : g2[q]? = some (some (.lst found))) (hl : found.length < sizeLine) :
    rowBodyG [some (.ref b), some x, some (.ref p), some (.ref q)] g = some (.nx [some (.ref b), some x, some (.ref p), some (.ref q)], g2.set q (some (.lst (found ++ [d])))) := by
  have f1 : isL (.ref p) g = true := by unfold isL; simp only [deref, hp]
  have f2 : isL (.ref q) g = true := by unfold isL; simp only [deref, hq]
  have f3 : popAtW (.ref p) [.dat (.int i)] g1 = some (.dat d, g2) := by
    unfold popAtW lstAt setL
    simp only [hp1, hd, e2]
    rw [if_pos ⟨i0, i1⟩]
  have f4 : appendW (.ref q) [.dat d] g2 = some (.dat .none, g2.set q (some (.lst (found ++ [d])))) := by
    unfold appendW lstAt setL
    simp only [hq2, hl, if_true]
  have f5 : lenW [.ref p] g = some (.dat (.int n), g) := by
    unfold lenW
    simp only [deref, hp, hn]
    rfl
  unfold rowBodyG fM
  clear hp hq hn hp1 i0 i1 hd e2 hq2 hl
  simp only [fCons, fNil, fA, fVar, sExpr, List.getElem?_cons_zero, List.getElem?_cons_succ, obnd, sbnd, f1, f2, if_true, e1, f3, f4, f5]
theorem row_okG {x : D} {l : List Str} {h : Hh} {b c : Nat} (hx : IsSeq x (l.map .str)) (ht : Txts l) (hb : BoxAt h b c) (hc : c < 1000000) (hl : l.length ≤ 1000) :
    ∃ (r : List Str) (h' : Hh), m__law_rowG [.ref b, .dat x] h = some (.dat (rowT r), h') ∧ r.Perm l ∧ BoxAt h' b (c + l.length) ∧ Only b h h' := by
  have hz : sizeLine = 16777216 := rfl
  have key := whileL_run (t := fB (f2 (eqW true) (fVar 2) (fA (lstW false) (fNil)))) (body := rowBodyG) (fun n ρ g => ∃ (left found : List Str) (g' : Hh), ρ = [some (.ref b), some (.dat x), some (.ref h.length), some (.ref (h.length + 1))] ∧ g = g' ++ [some (.lst (left.map .str)), some (.lst (found.map .str))] ∧ (found ++ left).Perm l ∧ left.length + n = l.length ∧ BoxAt g' b (c + n) ∧ Only b h g')
    l.length (n := 0) (fuel := 100000) (ρ := [some (.ref b), some (.dat x), some (.ref h.length), some (.ref (h.length + 1))]) (h := h ++ [some (.lst (l.map .str)), some (.lst [])]) (by omega) ⟨l, [], h, rfl, rfl, List.Perm.refl _, rfl, hb, .refl _ _⟩ (by
      intro j ρ g _ hj hi
      obtain ⟨left, found, g', rfl, rfl, pm, ll, bx, on⟩ := hi
      have gl := on.len
      have tl : Txts left := fun s hs => ht s (pm.mem_iff.mp (List.mem_append_right _ hs))
      have fl : found.length ≤ l.length := by have := pm.length_eq; rw [List.length_append] at this; omega
      obtain ⟨i, g1, e1, i0, i1, b1, o1⟩ := take_okG (n := (left.length : Int)) (box_app (l := [some (.lst (left.map .str)), some (.lst (found.map .str))]) bx) (by omega) (by omega) (by omega)
      obtain ⟨g2, rfl, g2l, o2⟩ := only_two bx.lt o1
      have hi : i.toNat < left.length := by omega
      have hlb : h.length = g'.length := gl.symm
      have et := row_turnG (x := .dat x) (p := h.length) (q := h.length + 1) (left := left.map .str) (found := found.map .str) (d := .str left[i.toNat]) (n := (left.length : Int)) (two_get (by omega)).1 (two_get (by omega)).2 (by rw [List.length_map]) e1 (two_get (by omega)).1 i0 (by omega) (by rw [List.getElem?_map, List.getElem?_eq_getElem hi]; rfl) (two_set (by omega)).1 (two_get (by omega)).2 (by rw [List.length_map]; omega)
      rw [(two_set (by omega)).2] at et
      refine ⟨_, _, _, ?_, et, left.eraseIdx i.toNat, found ++ [left[i.toNat]], g2, rfl, ?_, ?_, ?_, ?_, on.trans o2⟩
      · have ne : left ≠ [] := fun z => by rw [z] at hi; simp at hi
        have e3 := eqW_nil (n := h.length) (h := g' ++ [some (.lst (left.map .str)), some (.lst (found.map .str))]) tl (two_get (by omega)).1
        rw [decide_eq_true ne] at e3
        have c0 : 0 ≤ sizeLine := Nat.zero_le _
        clear et e1 hz ht hb hc hl pm ll bx on tl fl b1 o1 o2 hx gl hlb g2l i0 i1 ne hi hj
        walk_at "dl"
      · rw [erase_map, List.map_append]; rfl
      · refine List.Perm.trans ?_ pm
        rw [List.append_assoc]
        exact List.Perm.append_left _ (erase_perm left i.toNat hi).symm
      · rw [List.length_eraseIdx_of_lt hi]; omega
      · have := box_take b1 (n := g2.length) (by rw [g2l]; exact bx.lt)
        rw [List.take_append_of_le_length (Nat.le_refl _), List.take_length] at this
        exact this) (by
      intro ρ g hi
      obtain ⟨left, found, g', rfl, rfl, pm, ll, bx, on⟩ := hi
      have e0 : left = [] := List.length_eq_zero_iff.mp (by omega)
      subst e0
      have gl := on.len
      have e3 := eqW_nil (l := []) (n := h.length) (h := g' ++ [some (.lst (([] : List Str).map .str)), some (.lst (found.map .str))]) (fun s hs => by cases hs) (two_get (by omega)).1
      have e4 : decide (([] : List Str) ≠ []) = false := by simp
      rw [e4] at e3
      have c0 : 0 ≤ sizeLine := Nat.zero_le _
      rw [List.map_nil] at e3 ⊢
      clear hz ht hb hc hl pm ll bx on hx gl e4
      walk_at "dl")
  obtain ⟨ρ', g, e2, left, found, g', rfl, rfl, pm, ll, bx, on⟩ := key
  have e0 : left = [] := List.length_eq_zero_iff.mp (by omega)
  subst e0
  rw [List.append_nil] at pm
  rw [Nat.zero_add] at bx
  refine ⟨found, g', ?_, pm, bx, on⟩
  have gl := on.len
  have lb := hb.lt
  have lv : leave false h (.dat (rowT found)) (g' ++ [some (.lst []), none]) = some (.dat (rowT found), g') := by
    have e : (g' ++ [some (MO.lst []), none]).take h.length = g' := by rw [← gl, List.take_append_of_le_length (Nat.le_refl _), List.take_length]
    rw [leave_dat (by rw [e]; exact live_only hb bx on), e]
  have hf : frz 3 [some (.ref b), some (.dat x), some (.ref h.length), some (.ref (h.length + 1))] (g' ++ [some (.lst []), some (.lst (found.map .str))]) = some ([some (.ref b), some (.dat x), some (.ref h.length), some (.dat (.list (found.map .str)))], g' ++ [some (.lst []), none]) := by
    have g1 := (two_get (g := g') (o := some (MO.lst [])) (o' := some (MO.lst (found.map .str))) (n := h.length) (by omega)).2
    have g2 := (two_set (g := g') (o := some (MO.lst [])) (o' := some (MO.lst (found.map .str))) (z := none) (n := h.length) (by omega)).2
    have n1 : (b = h.length + 1) = False := eq_false (by omega)
    have n2 : (h.length = h.length + 1) = False := eq_false (by omega)
    unfold frz
    simp only [List.getElem?_cons_zero, List.getElem?_cons_succ, g1, g2, List.set_cons_zero, List.set_cons_succ, List.any_cons, List.any_nil, isR_ref, isR_dat, isR_none, n1, n2, decide_false, Bool.or_false, isTab, Bool.false_eq_true, if_false, moD]
  have ew : sWhile 100000 (fB (f2 (eqW true) (fVar 2) (fA (lstW false) (fNil)))) rowBodyG [some (.ref b), some (.dat x), some (.ref h.length), some (.ref (h.length + 1))] (h ++ [some (.lst (l.map .str)), some (.lst [])]) = some (.nx [some (.ref b), some (.dat x), some (.ref h.length), some (.ref (h.length + 1))], g' ++ [some (.lst []), some (.lst (found.map .str))]) := e2
  have c0 : 0 ≤ sizeLine := Nat.zero_le _
  have ha : (h ++ [some (MO.lst (l.map .str))]) ++ [some (.lst [])] = h ++ [some (.lst (l.map .str)), some (.lst [])] := by simp
  have hl1 : (h ++ [some (MO.lst (l.map PyData.str))]).length = h.length + 1 := by simp
  unfold rowBodyG at ew
  unfold m__law_rowG
  clear hz ht hb hc hl pm ll bx on e2 gl lb
  rcases hx with rfl | rfl <;> walk_at "dl"
theorem call2_runG {x : D} {b : Nat} {h h1 h2 h3 h4 : Hh} {n k o : Int} {ds S R : List D} (hx : IsSeq x ds) (hn : (ds.length : Int) = n) (e1 : m__law_pickG [.ref b, .dat (.list [.int 1, .int 2, .int n, .int n])] h = some (.dat (.int k), h1)) (k0 : -1000000000 ≤ k) (k1 : k ≤ 1000000000)
    (e2 : lcL (gN 5) (bYes) (fA (m__law_pickG) (fCons (fVar 0) (fCons (fVar 1) (fNil)))) [some (.ref b), some (.dat x), some (.dat (.int k)), none, none, none, none] (rngD 0 k.toNat) h1 = some (S, h2)) (l1 : S.length ≤ sizeLine) (e3 : m__law_takeG 12 [.ref b, .dat (.int 4)] h2 = some (.dat (.int o), h3))
    (e4 : lcL (gN 6) (bYes) (fA tupW (fCons (fVar 6) (fCons (fIf (fB (f2 gt_W (fA (m__law_takeG 12) (fCons (fVar 0) (fCons (fVar 4) (fNil)))) (fC (.int 0)))) (fVar 6) (fA (m__law_pickG) (fCons (fVar 0) (fCons (fVar 3) (fNil))))) (fNil)))) [some (.ref b), some (.dat x), some (.dat (.int k)), some (.dat (.list S)), some (.dat (.int (1 + o))), none, none] ds h3 = some (R, h4)) (l2 : R.length ≤ sizeLine) :
    m__law_callG [.ref b, .dat x] h = leave false h (.dat (.tuple R)) h4 := by
  have c4 : 4 ≤ sizeLine := by decide
  unfold m__law_callG
  rcases hx with rfl | rfl <;> walk_at "dl"
theorem call2_okG {x : D} {l : List Str} {h : Hh} {b c : Nat} (hx : IsSeq x (l.map .str)) (hb : BoxAt h b c) (hc : c < 1000000) (h0 : 0 < l.length) (h1 : l.length ≤ 900) :
    ∃ (ps : List (Str × Str)) (h' : Hh), m__law_callG [.ref b, .dat x] h = some (.dat (cT ps), h') ∧ ps.map (·.1) = l ∧ (∀ p ∈ ps, p.2 ∈ l) ∧ BoxAt h' b (c + 4 + 3 * l.length) ∧ Only b h h' := by
  have hz : sizeLine = 16777216 := rfl
  obtain ⟨d, g1, e1, hd, b1, o1⟩ := pick_okG (x := .list [.int 1, .int 2, .int (l.length : Int), .int (l.length : Int)]) (.inl rfl) hb (by omega) (by simp) (by simp)
  obtain ⟨k, rfl, k0, k1⟩ : ∃ k : Int, d = .int k ∧ 1 ≤ k ∧ k ≤ (l.length : Int) + 1 := by
    simp only [List.mem_cons, List.not_mem_nil, or_false] at hd
    rcases hd with rfl | rfl | rfl | rfl
    · exact ⟨1, rfl, by omega, by omega⟩
    · exact ⟨2, rfl, by omega, by omega⟩
    · exact ⟨_, rfl, by omega, by omega⟩
    · exact ⟨_, rfl, by omega, by omega⟩
  obtain ⟨S', g2, e2, sl, hs, b2, o2⟩ := lcL_inv (k := gN 5) (f := fA (m__law_pickG) (fCons (fVar 0) (fCons (fVar 1) (fNil)))) (ρ := [some (.ref b), some (.dat x), some (.dat (.int k)), none, none, none, none]) (fun j g => BoxAt g b (c + 1 + j) ∧ Only b h g) (fun _ d => ∃ s, s ∈ l ∧ d = .str s) (ds := rngD 0 k.toNat) (n := 0) (h := g1) ⟨b1, o1⟩ (by
    intro j d ej g hi
    obtain ⟨bx, on⟩ := hi
    have hj := (rng_get ej).1
    obtain ⟨d', g', e3, hd', b3, o3⟩ := pick_okG hx bx (by omega) (by rw [List.length_map]; omega) (by rw [List.length_map]; omega)
    obtain ⟨s, hs, rfl⟩ := List.mem_map.mp hd'
    refine ⟨[some (.ref b), some (.dat x), some (.dat (.int k)), none, none, some (.dat d), none], .str s, g', rfl, ?_, ⟨s, hs, rfl⟩, b3, on.trans o3⟩
    clear hx hb hc h0 h1 hz e1 hd b1 o1 k0 k1 ej bx on hj hd' hs b3 o3
    walk_at "dl")
  rw [rng_len] at sl b2
  obtain ⟨S, rfl, hS⟩ := strs_all (l := l) (rs := S') fun d hd => by
    obtain ⟨j, hj, rfl⟩ := List.getElem_of_mem hd
    exact hs j _ (List.getElem?_eq_getElem hj)
  rw [List.length_map] at sl
  obtain ⟨o, g3, e3, p0, p1, b3, o3⟩ := take_okG (n := 4) b2 (by omega) (by omega) (by omega)
  have b3' : BoxAt g3 b (c + 4 + l.length) := b3.mono (by omega)
  obtain ⟨R', g4, e4, rl, hr, b4, o4⟩ := lcL_inv (k := gN 6) (f := fA tupW (fCons (fVar 6) (fCons (fIf (fB (f2 gt_W (fA (m__law_takeG 12) (fCons (fVar 0) (fCons (fVar 4) (fNil)))) (fC (.int 0)))) (fVar 6) (fA (m__law_pickG) (fCons (fVar 0) (fCons (fVar 3) (fNil))))) (fNil)))) (ρ := [some (.ref b), some (.dat x), some (.dat (.int k)), some (.dat (.list (S.map .str))), some (.dat (.int (1 + o))), none, none])
    (fun j g => BoxAt g b (c + 4 + l.length + 2 * j) ∧ Only b h g) (fun j d => ∃ s t, l[j]? = some s ∧ t ∈ l ∧ d = prT (s, t)) (ds := l.map .str) (n := 0) (h := g3) ⟨b3', o2.trans o3⟩ (by
    intro j d ej g hi
    obtain ⟨bx, on⟩ := hi
    rw [Nat.zero_add] at bx ⊢
    rw [List.getElem?_map] at ej
    obtain ⟨s, es, rfl⟩ := Option.map_eq_some_iff.mp ej
    have hj : j < l.length := (List.getElem?_eq_some_iff.mp es).1
    have c2 : 2 ≤ sizeLine := by omega
    obtain ⟨q, g5, e5, q0, q1, b5, o5⟩ := take_okG (n := 1 + o) bx (by omega) (by omega) (by omega)
    cases hq : decide (0 < q) with
    | true =>
      refine ⟨[some (.ref b), some (.dat x), some (.dat (.int k)), some (.dat (.list (S.map .str))), some (.dat (.int (1 + o))), none, some (.dat (.str s))], prT (s, s), g5, rfl, ?_, ⟨s, s, es, List.mem_of_getElem? es, rfl⟩, b5.mono (by omega), on.trans o5⟩
      clear hx hb hc h0 h1 hz e1 hd b1 o1 k0 k1 e2 hs b2 o2 hS sl e3 p0 p1 b3 o3 b3' bx on ej es hj q0 q1 b5 o5
      walk_at "dl"
    | false =>
      obtain ⟨d', g6, e6, hd', b6, o6⟩ := pick_okG (x := .list (S.map .str)) (.inl rfl) b5 (by omega) (by rw [List.length_map]; omega) (by rw [List.length_map]; omega)
      obtain ⟨t, ht, rfl⟩ := List.mem_map.mp hd'
      refine ⟨[some (.ref b), some (.dat x), some (.dat (.int k)), some (.dat (.list (S.map .str))), some (.dat (.int (1 + o))), none, some (.dat (.str s))], prT (s, t), g6, rfl, ?_, ⟨s, t, es, hS t ht, rfl⟩, b6.mono (by omega), on.trans (o5.trans o6)⟩
      clear hx hb hc h0 h1 hz e1 hd b1 o1 k0 k1 e2 hs b2 o2 hS sl e3 p0 p1 b3 o3 b3' bx on ej es hj q0 q1 b5 o5 hd' ht b6 o6
      walk_at "dl")
  rw [List.length_map] at rl b4
  obtain ⟨ps, rfl, pf, pt⟩ := pairs_all (l := l) (m := l) (rs := R') rl (fun j d hd => by have := hr j d hd; rwa [Nat.zero_add] at this)
  rw [Nat.zero_add] at b4
  have b4' : BoxAt g4 b (c + 4 + 3 * l.length) := b4.mono (by omega)
  refine ⟨ps, g4, ?_, pf, pt, b4', o4⟩
  rw [call2_runG (n := (l.length : Int)) hx (by rw [List.length_map]) e1 (by omega) (by omega) e2 (by rw [List.length_map]; omega) e3 e4 (by omega)]
  exact leave_dat' hb b4' o4
end DL
set_option maxRecDepth 100000
set_option maxHeartbeats 400000
namespace DL
open PySem L2
variable [HW]
local macro_rules | `(tactic| walk_at "dl") => `(tactic| simp (config := { dsimp := false }) only [↓fnM_e, ↓sSeq_e, seqK_nx, seqK_rt, seqK_bk, seqK_ct, retK_rt, retK_nx, ↓sFrz_e, frK_some, ↓sAsg, ↓sRet, ↓sRetN, ↓sIf, ↓sExpr, ↓sSkip, ↓sNever, ↓sPar, ↓sFor, ↓sSub, ↓fVar, ↓fC, ↓fNil, ↓fCons, ↓fA, ↓f1, ↓f2, ↓fB, ↓fIf, ↓fNeg, ↓fNot, ↓fAnd, ↓fOr, ↓bNot, ↓bAnd, ↓bOr, ↓bYes, ↓obnd_x, ob_some, ↓sbnd_x, sb_some, ↓ite_x, iteK_t, iteK_f, gN, gT, gC, gE, ↓rng1I, ↓rng2I, ↓seqI, ↓enumA, ↓zipI, ↓strI, ↓fLc, ↓fDc, ↓fM, ↓fSl, ↓oNone, ↓oSome, ↓fRev, wipeE, ↓kwM, permM, permL, List.foldr, List.length_cons, List.length_nil, List.map_cons, List.map_nil, List.cons_append, List.nil_append, List.replicate, List.replicate_succ, List.replicate_zero, List.getElem?_cons_zero, List.getElem?_cons_succ, List.set_cons_zero, List.set_cons_succ, if_true, if_false, reduceIte, Nat.reduceAdd, Nat.reduceSub, Nat.reduceEqDiff, Nat.reduceLT, Nat.reduceLeDiff, Int.reduceLT, Int.reduceLE, Int.reduceNeg, Int.reduceMul, Int.reduceAdd, Int.reduceSub, Int.reduceToNat, Int.reducePow, Int.reduceEq, ok, bok, deref, mkL, lstW, tupW, dats, Option.map_some, appendW, insertW, setL, isL, listW, tupleW, lenW, absW, intC, maxW, minW, idxW, addW, subW_e, modW_e, divW_e, powW_e, mulW, intW, lt_e, gt_e, le_e, ge_e, ltW, allW_e, anyW_e, sumW_e, lW, setW, lstAt, cutW, backW, isW, isiW, iLT_none, iLT_bool, iLT_int, iLT_str, iLT_list, iLT_tup, iL_none, iL_bool, iL_int, iL_str, iL_list, iL_tup, iT_none, iT_bool, iT_int, iT_str, iT_list, iT_tup, iS_none, iS_bool, iS_int, iS_str, iS_list, iS_tup, iI_none, iI_bool, iI_int, iI_str, iI_list, iI_tup, iB_none, iB_bool, iB_int, iB_str, iB_list, iB_tup, Bool.false_eq_true, reduceCtorEq, Bool.not_true, Bool.not_false, decide_true, decide_false, List.zip_cons_cons, List.zip_nil_left, List.foldl_cons, List.foldl_nil, and_self, and_true, true_and, Bool.and_true, Bool.true_and, Bool.or_true, Bool.true_or, *])
end DL
set_option maxRecDepth 100000
set_option maxHeartbeats 400000
namespace DL
open PySem L2
variable [HW]
local macro_rules | `(tactic| walk_at "dl") => `(tactic| simp (config := { dsimp := false }) only [↓fnM_e, ↓sSeq_e, seqK_nx, seqK_rt, seqK_bk, seqK_ct, retK_rt, retK_nx, ↓sFrz_e, frK_some, ↓sAsg, ↓sRet, ↓sRetN, ↓sIf, ↓sExpr, ↓sSkip, ↓sNever, ↓sPar, ↓sFor, ↓sSub, ↓fVar, ↓fC, ↓fNil, ↓fCons, ↓fA, ↓f1, ↓f2, ↓fB, ↓fIf, ↓fNeg, ↓fNot, ↓fAnd, ↓fOr, ↓bNot, ↓bAnd, ↓bOr, ↓bYes, ↓obnd_x, ob_some, ↓sbnd_x, sb_some, ↓ite_x, iteK_t, iteK_f, gN, gT, gC, gE, ↓rng1I, ↓rng2I, ↓seqI, ↓enumA, ↓zipI, ↓strI, ↓fLc, ↓fDc, ↓fM, ↓fSl, ↓oNone, ↓oSome, ↓fRev, wipeE, ↓kwM, permM, permL, List.foldr, List.length_cons, List.length_nil, List.map_cons, List.map_nil, List.cons_append, List.nil_append, List.replicate, List.replicate_succ, List.replicate_zero, List.getElem?_cons_zero, List.getElem?_cons_succ, List.set_cons_zero, List.set_cons_succ, if_true, if_false, reduceIte, Nat.reduceAdd, Nat.reduceSub, Nat.reduceEqDiff, Nat.reduceLT, Nat.reduceLeDiff, Int.reduceLT, Int.reduceLE, Int.reduceNeg, Int.reduceMul, Int.reduceAdd, Int.reduceSub, Int.reduceToNat, Int.reducePow, Int.reduceEq, ok, bok, deref, mkL, lstW, tupW, dats, Option.map_some, appendW, insertW, setL, isL, listW, tupleW, lenW, absW, intC, maxW, minW, idxW, addW, subW_e, modW_e, divW_e, powW_e, mulW, intW, lt_e, gt_e, le_e, ge_e, ltW, allW_e, anyW_e, sumW_e, lW, setW, lstAt, cutW, backW, isW, isiW, iLT_none, iLT_bool, iLT_int, iLT_str, iLT_list, iLT_tup, iL_none, iL_bool, iL_int, iL_str, iL_list, iL_tup, iT_none, iT_bool, iT_int, iT_str, iT_list, iT_tup, iS_none, iS_bool, iS_int, iS_str, iS_list, iS_tup, iI_none, iI_bool, iI_int, iI_str, iI_list, iI_tup, iB_none, iB_bool, iB_int, iB_str, iB_list, iB_tup, Bool.false_eq_true, reduceCtorEq, Bool.not_true, Bool.not_false, decide_true, decide_false, List.zip_cons_cons, List.zip_nil_left, List.foldl_cons, List.foldl_nil, and_self, and_true, true_and, Bool.and_true, Bool.true_and, Bool.or_true, Bool.true_or, *])
theorem least_or (P : Nat → Prop) : ∀ n : Nat, (∃ k, k ≤ n ∧ P k ∧ ∀ j, j < k → ¬ P j) ∨ ∀ k, k ≤ n → ¬ P k
  | 0 => by
    by_cases h : P 0
    · exact .inl ⟨0, Nat.le_refl _, h, fun j hj => absurd hj (Nat.not_lt_zero _)⟩
    · exact .inr fun k hk => by rw [Nat.le_zero.mp hk]; exact h
  | n + 1 => by
    rcases least_or P n with ⟨k, hk, h1, h2⟩ | h
    · exact .inl ⟨k, by omega, h1, h2⟩
    · by_cases q : P (n + 1)
      · exact .inl ⟨n + 1, Nat.le_refl _, q, fun j hj => h j (by omega)⟩
      · exact .inr fun k hk => by
          by_cases z : k = n + 1
          · rw [z]; exact q
          · exact h k (by omega)
def EvP (t : Nat → Bool) (a k : Nat) : Prop := ∀ n, a ≤ n → t (n + k) = t n
theorem EvP.mul {t : Nat → Bool} {a k : Nat} (h : EvP t a k) : ∀ s : Nat, EvP t a (k * s)
  | 0 => fun n _ => rfl
  | s + 1 => fun n hn => by
    rw [Nat.mul_succ, ← Nat.add_assoc, h (n + k * s) (by omega), h.mul s n hn]
theorem EvP.mono {t : Nat → Bool} {a b k : Nat} (h : EvP t a k) (q : a ≤ b) : EvP t b k := fun n hn => h n (by omega)
structure Least (t : Nat → Bool) (a m : Nat) : Prop where
  pos : 0 < m
  ev : EvP t a m
  le : ∀ a2 k2, 0 < k2 → EvP t a2 k2 → a ≤ a2 ∧ m ∣ k2
theorem Least.iff {t : Nat → Bool} {a m : Nat} (h : Least t a m) {a2 k2 : Nat} (hk : 0 < k2) : EvP t a2 k2 ↔ a ≤ a2 ∧ m ∣ k2 := by
  constructor
  · exact h.le a2 k2 hk
  · rintro ⟨h1, s, rfl⟩
    exact (h.ev.mul s).mono h1
theorem least_mk {t : Nat → Bool} {a m : Nat} (hm : 0 < m) (ev : EvP t a m) (min : ∀ d, 0 < d → d < m → ¬ EvP t a d) (st : 0 < a → t (a - 1) ≠ t (a - 1 + m)) : Least t a m := by
  refine ⟨hm, ev, fun a2 k2 hk e2 => ?_⟩
  constructor
  · by_cases z : a ≤ a2
    · exact z
    · exfalso
      have ha : 0 < a := by omega
      apply st ha
      have h1 : t (a - 1 + k2) = t (a - 1) := e2 (a - 1) (by omega)
      have h2 : t (a - 1 + m + k2) = t (a - 1 + m) := e2 (a - 1 + m) (by omega)
      have h3 : t (a - 1 + k2 + m) = t (a - 1 + k2) := ev (a - 1 + k2) (by omega)
      rw [← h1, ← h2, ← h3, show a - 1 + k2 + m = a - 1 + m + k2 by omega]
  · by_cases z : k2 % m = 0
    · exact Nat.dvd_of_mod_eq_zero z
    · exfalso
      refine min (k2 % m) (Nat.pos_of_ne_zero z) (Nat.mod_lt _ hm) fun n hn => ?_
      have e3 := ev.mul (a2 + 1)
      have q1 : a2 ≤ n + m * (a2 + 1) := by
        have : a2 + 1 ≤ m * (a2 + 1) := Nat.le_mul_of_pos_left _ hm
        omega
      have dm : k2 % m + m * (k2 / m) = k2 := Nat.mod_add_div k2 m
      have s1 : t (n + k2 % m + m * (a2 + 1)) = t (n + k2 % m) := e3 _ (by omega)
      have s2 : t (n + m * (a2 + 1)) = t n := e3 _ hn
      have s3 : t (n + m * (a2 + 1) + k2) = t (n + m * (a2 + 1)) := e2 _ q1
      have s4 : t (n + k2 % m + m * (a2 + 1) + m * (k2 / m)) = t (n + k2 % m + m * (a2 + 1)) := ev.mul (k2 / m) _ (by omega)
      rw [← s1, ← s4, ← s2, ← s3]
      congr 1
      omega
theorem nd_le {α : Type} [BEq α] [LawfulBEq α] : ∀ {l L : List α}, l.Nodup → (∀ x ∈ l, x ∈ L) → l.length ≤ L.length
  | [], L, _, _ => Nat.zero_le _
  | a :: l, L, nd, h => by
    obtain ⟨n1, n2⟩ := List.nodup_cons.mp nd
    have ha : a ∈ L := h a List.mem_cons_self
    have ih := nd_le (l := l) (L := L.erase a) n2 fun x hx => by
      have ne : x ≠ a := fun z => n1 (z ▸ hx)
      exact (List.mem_erase_of_ne ne).mpr (h x (List.mem_cons_of_mem _ hx))
    have e := List.length_erase_of_mem ha
    have : 0 < L.length := List.length_pos_of_mem ha
    rw [List.length_cons]
    omega
def seqL {α : Type} (f : α → α) (p : α) (n : Nat) : List α := (List.range n).map fun i => itn f i p
theorem seqL_succ {α : Type} (f : α → α) (p : α) (n : Nat) : seqL f p (n + 1) = seqL f p n ++ [itn f n p] := by
  unfold seqL; rw [List.range_succ, List.map_append]; rfl
theorem seqL_len {α : Type} (f : α → α) (p : α) (n : Nat) : (seqL f p n).length = n := by simp [seqL]
theorem seqL_mem {α : Type} {f : α → α} {p x : α} {n : Nat} : x ∈ seqL f p n ↔ ∃ i, i < n ∧ itn f i p = x := by simp [seqL]
structure Comes (f : Str × Str → Str × Str) (p : Str × Str) (k i : Nat) : Prop where
  lt : i < k
  eq : itn f k p = itn f i p
  nd : (seqL f p k).Nodup
theorem seqL_nd {f : Str × Str → Str × Str} {p : Str × Str} : ∀ {k : Nat}, (∀ j, j < k → ¬ ∃ i, i < j ∧ itn f j p = itn f i p) → (seqL f p k).Nodup
  | 0, _ => List.nodup_nil
  | k + 1, h => by
    rw [seqL_succ, List.nodup_append]
    refine ⟨seqL_nd fun j hj => h j (by omega), by simp, fun a ha b hb z => ?_⟩
    rw [List.mem_singleton] at hb
    subst hb
    obtain ⟨i, hi, e⟩ := seqL_mem.mp ha
    exact h k (by omega) ⟨i, hi, by rw [e, z]⟩
theorem comes {N : List Str} {f : Str × Str → Str × Str} {p : Str × Str} (of : On N f) (hp : p ∈ prsN N) : ∃ k i, k ≤ (prsN N).length ∧ Comes f p k i := by
  rcases least_or (fun k => ∃ i, i < k ∧ itn f k p = itn f i p) (prsN N).length with ⟨k, hk, ⟨i, hi, e⟩, h2⟩ | h
  · exact ⟨k, i, hk, hi, e, seqL_nd h2⟩
  · exfalso
    have nd := seqL_nd (f := f) (p := p) (k := (prsN N).length + 1) fun j hj => h j (by omega)
    have := nd_le (L := prsN N) nd fun x hx => by
      obtain ⟨i, _, rfl⟩ := seqL_mem.mp hx
      exact itn_on of i p hp
    rw [seqL_len] at this
    omega
def tbl2 (l : List ((Str × Str) × D)) : List (D × D) := l.map fun e => (prT e.1, e.2)
theorem getT_tbl2 (p : Str × Str) : ∀ l : List ((Str × Str) × D), getT (tbl2 l) (pK p) = l.lookup p
  | [] => rfl
  | (q, d) :: l => by
    show ((List.find? _ ((prT q, d) :: tbl2 l)).map _) = _
    rw [List.find?_cons, List.lookup_cons]
    by_cases z : p = q
    · subst z; simp [tKey_prT]
    · have z' : decide (tKey (prT q) = some (pK p)) = false := by
        rw [tKey_prT]
        simp only [Option.some.injEq, decide_eq_false_iff_not]
        exact fun w => z (pK_inj w).symm
      have z2 : (p == q) = false := beq_eq_false_iff_ne.mpr z
      rw [z', z2]
      exact getT_tbl2 p l
theorem getD_tbl2 {l : List ((Str × Str) × D)} {p : Str × Str} : getD ((.none, .none) :: tbl2 l) (prT p) = some (l.lookup p) := by
  unfold getD
  rw [if_pos (show isT ((PyData.none, PyData.none) :: tbl2 l) = true from rfl), bare_prT, if_neg (by simp), tKey_prT, Option.map_some]
  show some (getT (tbl2 l) (pK p)) = _
  rw [getT_tbl2]
theorem putT_tbl2 {l : List ((Str × Str) × D)} {p : Str × Str} {d : D} (h : l.lookup p = none) : putT (tbl2 l) (pK p) d = tbl2 (l ++ [(p, d)]) := by
  unfold putT
  rw [getT_tbl2, h]
  simp only [Option.isSome_none, Bool.false_eq_true, if_false]
  unfold tbl2
  rw [List.map_append]; rfl
theorem look_range {key : Nat → Str × Str} {v : Nat → D} : ∀ {n : Nat}, ((List.range n).map key).Nodup → ∀ i, i < n → ((List.range n).map fun j => (key j, v j)).lookup (key i) = some (v i)
  | 0, _, i, h => absurd h (Nat.not_lt_zero _)
  | n + 1, nd, i, h => by
    rw [List.range_succ, List.map_append] at nd ⊢
    rw [List.lookup_append]
    obtain ⟨n1, _, n3⟩ := List.nodup_append.mp nd
    by_cases z : i < n
    · rw [look_range n1 i z]; rfl
    · have : i = n := by omega
      subst this
      have e : ((List.range i).map fun j => (key j, v j)).lookup (key i) = none := by
        rw [List.lookup_eq_none_iff]
        intro q hq
        obtain ⟨j, hj, rfl⟩ := List.mem_map.mp hq
        have := n3 (key j) (List.mem_map.mpr ⟨j, hj, rfl⟩) (key i) (by simp)
        exact bne_iff_ne.mpr fun z => this z.symm
      rw [e]
      simp
theorem look_none {key : Nat → Str × Str} {v : Nat → D} {n : Nat} {q : Str × Str} (h : ∀ i, i < n → key i ≠ q) : ((List.range n).map fun j => (key j, v j)).lookup q = none := by
  rw [List.lookup_eq_none_iff]
  intro e he
  obtain ⟨j, hj, rfl⟩ := List.mem_map.mp he
  exact bne_iff_ne.mpr fun z => h j (List.mem_range.mp hj) z.symm
def metL (f : Str × Str → Str × Str) (p : Str × Str) (n : Nat) : List ((Str × Str) × D) := (List.range n).map fun i => (itn f i p, .int (i : Int))
theorem metL_succ (f : Str × Str → Str × Str) (p : Str × Str) (n : Nat) : metL f p (n + 1) = metL f p n ++ [(itn f n p, .int (n : Int))] := by
  unfold metL; rw [List.range_succ, List.map_append]; rfl
noncomputable def wayBody : SM := (sSeq (sPutT (fA lenW (fCons (fVar 2) (fNil))) (fVar 3) (fVar 1))
    (sSeq (sExpr (fM isL appendW (fVar 2) (fCons (fVar 1) (fNil))))
    (sAsg (f2 idxW (fVar 0) (fVar 1)) (gN 1))))
theorem way_turn {es : List (D × D)} {a b c d : Str} {n : Nat} {m : Int} {ds : List D} {es' : List (D × D)} {T0 : List (D × D)} {g g2 g3 : Hh} (hg : g[n]? = some (some (.lst ds))) (hm : (ds.length : Int) = m) (h1 : g[n + 1]? = some (some (.dit es))) (hl : es.length < sizeLine) (ep : putT es (pK (a, b)) (.int m) = es')
    (hs : g.set (n + 1) (some (.dit es')) = g2) (hg2 : g2[n]? = some (some (.lst ds))) (hl2 : ds.length < sizeLine) (hs2 : g2.set n (some (.lst (ds ++ [.tuple [.str a, .str b]]))) = g3) (hi : getD T0 (.tuple [.str a, .str b]) = some (some (.tuple [.str c, .str d]))) :
    wayBody [some (.dat (.dict T0)), some (.dat (.tuple [.str a, .str b])), some (.ref n), some (.ref (n + 1))] g = some (.nx [some (.dat (.dict T0)), some (.dat (.tuple [.str c, .str d])), some (.ref n), some (.ref (n + 1))], g3) := by
  have f3 : putTW (.ref (n + 1)) (.dat (.tuple [.str a, .str b])) (.dat (.int m)) g = some g2 := by
    unfold putTW ditAt
    have ed : dKeys [PyData.str a, PyData.str b] = some (pK (a, b)) := rfl
    have ec : pairD [PyData.str a, PyData.str b] = false := rfl
    simp only [h1, ed, hl, ec, and_self, if_true, ep, hs]
  unfold wayBody sPutT
  clear h1 hl ep hs
  walk_at "dl"
end DL
set_option maxRecDepth 100000
set_option maxHeartbeats 400000
namespace DL
open PySem L2
variable [HW]
local macro_rules | `(tactic| walk_at "dl") => `(tactic| simp (config := { dsimp := false }) only [↓fnM_e, ↓sSeq_e, seqK_nx, seqK_rt, seqK_bk, seqK_ct, retK_rt, retK_nx, ↓sFrz_e, frK_some, ↓sAsg, ↓sRet, ↓sRetN, ↓sIf, ↓sExpr, ↓sSkip, ↓sNever, ↓sPar, ↓sFor, ↓sSub, ↓fVar, ↓fC, ↓fNil, ↓fCons, ↓fA, ↓f1, ↓f2, ↓fB, ↓fIf, ↓fNeg, ↓fNot, ↓fAnd, ↓fOr, ↓bNot, ↓bAnd, ↓bOr, ↓bYes, ↓obnd_x, ob_some, ↓sbnd_x, sb_some, ↓ite_x, iteK_t, iteK_f, gN, gT, gC, gE, ↓rng1I, ↓rng2I, ↓seqI, ↓enumA, ↓zipI, ↓strI, ↓fLc, ↓fDc, ↓fM, ↓fSl, ↓oNone, ↓oSome, ↓fRev, wipeE, ↓kwM, permM, permL, List.foldr, List.length_cons, List.length_nil, List.map_cons, List.map_nil, List.cons_append, List.nil_append, List.replicate, List.replicate_succ, List.replicate_zero, List.getElem?_cons_zero, List.getElem?_cons_succ, List.set_cons_zero, List.set_cons_succ, if_true, if_false, reduceIte, Nat.reduceAdd, Nat.reduceSub, Nat.reduceEqDiff, Nat.reduceLT, Nat.reduceLeDiff, Int.reduceLT, Int.reduceLE, Int.reduceNeg, Int.reduceMul, Int.reduceAdd, Int.reduceSub, Int.reduceToNat, Int.reducePow, Int.reduceEq, ok, bok, deref, mkL, lstW, tupW, dats, Option.map_some, appendW, insertW, setL, isL, listW, tupleW, lenW, absW, intC, maxW, minW, idxW, addW, subW_e, modW_e, divW_e, powW_e, mulW, intW, lt_e, gt_e, le_e, ge_e, ltW, allW_e, anyW_e, sumW_e, lW, setW, lstAt, cutW, backW, isW, isiW, iLT_none, iLT_bool, iLT_int, iLT_str, iLT_list, iLT_tup, iL_none, iL_bool, iL_int, iL_str, iL_list, iL_tup, iT_none, iT_bool, iT_int, iT_str, iT_list, iT_tup, iS_none, iS_bool, iS_int, iS_str, iS_list, iS_tup, iI_none, iI_bool, iI_int, iI_str, iI_list, iI_tup, iB_none, iB_bool, iB_int, iB_str, iB_list, iB_tup, Bool.false_eq_true, reduceCtorEq, Bool.not_true, Bool.not_false, decide_true, decide_false, List.zip_cons_cons, List.zip_nil_left, List.foldl_cons, List.foldl_nil, and_self, and_true, true_and, Bool.and_true, Bool.true_and, Bool.or_true, Bool.true_or, *])
theorem way_on_ok {N : List Str} {f : Str × Str → Str × Str} {p : Str × Str} {k i : Nat} {h : Hh} (of : On N f) (hp : p ∈ prsN N) (c : Comes f p k i) (hk : k ≤ 10000) :
    m_way_on [.dat (tabD N f), .dat (prT p)] h = some (.dat (.tuple [.list ((seqL f p k).map prT), .int (i : Int)]), h) := by
  have hz : sizeLine = 16777216 := rfl
  have knd : ((List.range k).map fun i => itn f i p).Nodup := c.nd
  have test : ∀ (q : Str × Str) (o : Option D) (es : List ((Str × Str) × D)) (v2 : Option W) (ds : List D), es.lookup q = o → fB (f2 (inW true) (fVar 1) (fVar 3)) [some (.dat (tabD N f)), some (.dat (prT q)), v2, some (.ref (h.length + 1))] (h ++ [some (.lst ds), some (.dit (tbl2 es))]) = some (!o.isSome, h ++ [some (.lst ds), some (.dit (tbl2 es))]) := fun q o es v2 ds e => by
    have hg := (two_get (g := h) (o := some (MO.lst ds)) (o' := some (.dit (tbl2 es))) rfl).2
    have e2 : inW true (.dat (prT q)) (.ref (h.length + 1)) (h ++ [some (.lst ds), some (.dit (tbl2 es))]) = bok (!o.isSome) (h ++ [some (.lst ds), some (.dit (tbl2 es))]) := by
      unfold inW
      simp only [deref, hg, getD_tbl2, e, if_true]
    clear e hg hz knd c
    walk_at "dl"
  obtain ⟨ρ', g', e, rfl, rfl⟩ := whileL_run (t := fB (f2 (inW true) (fVar 1) (fVar 3))) (body := wayBody) (fun j ρ g => ρ = [some (.dat (tabD N f)), some (.dat (prT (itn f j p))), some (.ref h.length), some (.ref (h.length + 1))] ∧ g = h ++ [some (.lst ((seqL f p j).map prT)), some (.dit (tbl2 (metL f p j)))])
    k (n := 0) (fuel := 100000) (ρ := [some (.dat (tabD N f)), some (.dat (prT p)), some (.ref h.length), some (.ref (h.length + 1))]) (h := h ++ [some (.lst []), some (.dit [])]) (by omega) ⟨rfl, rfl⟩ (by
      rintro j ρ g _ hj ⟨rfl, rfl⟩
      have hj' : j < k := by omega
      have ln : (metL f p j).lookup (itn f j p) = none := look_none fun i' hi' z => by
        have hin : itn f i' p ∈ seqL f p j := seqL_mem.mpr ⟨i', hi', rfl⟩
        have nd2 : (seqL f p (j + 1)).Nodup := by
          have := c.nd
          unfold seqL at this ⊢
          have e1 : (List.range k).map (fun i => itn f i p) = (List.range (j + 1)).map (fun i => itn f i p) ++ ((List.range (k - (j + 1))).map (fun x => j + 1 + x)).map fun i => itn f i p := by
            rw [← List.map_append, ← List.range_add, show j + 1 + (k - (j + 1)) = k by omega]
          rw [e1] at this
          exact (List.nodup_append.mp this).1
        rw [seqL_succ, List.nodup_append] at nd2
        exact nd2.2.2 _ hin _ (List.mem_singleton.mpr rfl) z
      refine ⟨_, [some (.dat (tabD N f)), some (.dat (prT (itn f (j + 1) p))), some (.ref h.length), some (.ref (h.length + 1))], h ++ [some (.lst ((seqL f p (j + 1)).map prT)), some (.dit (tbl2 (metL f p (j + 1))))], test (itn f j p) none (metL f p j) (some (.ref h.length)) _ ln, ?_, rfl, rfl⟩
      · rw [itn_succ, seqL_succ, List.map_append]
        have tg := two_get (g := h) (o := some (MO.lst ((seqL f p j).map prT))) (o' := some (.dit (tbl2 (metL f p j)))) rfl
        have ts := two_set (g := h) (o := some (MO.lst ((seqL f p j).map prT))) (o' := some (.dit (tbl2 (metL f p j)))) (z := some (.dit (tbl2 (metL f p (j + 1))))) rfl
        have tg2 := two_get (g := h) (o := some (MO.lst ((seqL f p j).map prT))) (o' := some (.dit (tbl2 (metL f p (j + 1))))) rfl
        have ts2 := two_set (g := h) (o := some (MO.lst ((seqL f p j).map prT))) (o' := some (.dit (tbl2 (metL f p (j + 1))))) (z := some (.lst ((seqL f p j).map prT ++ [prT (itn f j p)]))) rfl
        have sl : ((seqL f p j).map prT).length = j := by rw [List.length_map, seqL_len]
        exact way_turn (c := (f (itn f j p)).1) (d := (f (itn f j p)).2) (m := (j : Int)) tg.1 (by rw [sl]) tg.2 (by unfold tbl2 metL; rw [List.length_map, List.length_map, List.length_range]; omega) (by rw [show ((itn f j p).1, (itn f j p).2) = itn f j p from rfl, putT_tbl2 ln, ← metL_succ]) ts.2 tg2.1 (by rw [sl]; omega) ts2.1 (getD_tab (f := f) (itn_on of j p hp))) (by
      rintro ρ g ⟨rfl, rfl⟩
      rw [Nat.zero_add, c.eq]
      exact test (itn f i p) (some (.int (i : Int))) (metL f p k) (some (.ref h.length)) _ (look_range (key := fun i => itn f i p) knd i c.lt))
  rw [Nat.zero_add] at e
  have li : (metL f p k).lookup (itn f k p) = some (.int (i : Int)) := by
    rw [c.eq]; exact look_range (key := fun i => itn f i p) knd i c.lt
  have tg := two_get (g := h) (o := some (MO.lst ((seqL f p k).map prT))) (o' := some (.dit (tbl2 (metL f p k)))) rfl
  have fz : frz 2 [some (.dat (tabD N f)), some (.dat (prT (itn f k p))), some (.ref h.length), some (.ref (h.length + 1))] (h ++ [some (.lst ((seqL f p k).map prT)), some (.dit (tbl2 (metL f p k)))]) = some ([some (.dat (tabD N f)), some (.dat (prT (itn f k p))), some (.dat (.list ((seqL f p k).map prT))), some (.ref (h.length + 1))], h ++ [none, some (.dit (tbl2 (metL f p k)))]) := by
    unfold frz
    have ne : (h.length + 1 = h.length) = False := by simp
    simp only [List.getElem?_cons_zero, List.getElem?_cons_succ, tg.1, List.set_cons_zero, List.set_cons_succ, List.any_cons, List.any_nil, isR_dat, isR_none, isR_ref, ne, decide_false, Bool.or_false, isTab, Bool.false_eq_true, if_false, moD]
    rw [(two_set (g := h) (o := some (MO.lst ((seqL f p k).map prT))) (o' := some (.dit (tbl2 (metL f p k)))) (z := none) rfl).1]
  have hd : deref (h ++ [none, some (.dit (tbl2 (metL f p k)))]) (.ref (h.length + 1)) = some (.dict ((.none, .none) :: tbl2 (metL f p k))) := by
    have := (two_get (g := h) (o := none) (o' := some (MO.dit (tbl2 (metL f p k)))) rfl).2
    simp only [deref, this]
  have ix : idxW (.ref (h.length + 1)) (.dat (prT (itn f k p))) (h ++ [none, some (.dit (tbl2 (metL f p k)))]) = some (.dat (.int (i : Int)), h ++ [none, some (.dit (tbl2 (metL f p k)))]) := by
    have gd : getD ((PyData.none, PyData.none) :: tbl2 (metL f p k)) (prT (itn f k p)) = some (some (.int (i : Int))) := by rw [getD_tbl2, li]
    simp only [idxW, hd, gd]; rfl
  have xi : f2 idxW (fVar 3) (fVar 1) [some (.dat (tabD N f)), some (.dat (prT (itn f k p))), some (.dat (.list ((seqL f p k).map prT))), some (.ref (h.length + 1))] (h ++ [none, some (.dit (tbl2 (metL f p k)))]) = some (.dat (.int (i : Int)), h ++ [none, some (.dit (tbl2 (metL f p k)))]) := x2 rfl rfl ix
  have lv : leave false h (.dat (.tuple [.list ((seqL f p k).map prT), .int (i : Int)])) (h ++ [none, some (.dit (tbl2 (metL f p k)))]) = some (.dat (.tuple [.list ((seqL f p k).map prT), .int (i : Int)]), h) := by
    have tk : (h ++ [none, some (MO.dit (tbl2 (metL f p k)))]).take h.length = h := List.take_left
    have := leave_dat (h := h) (h' := h ++ [none, some (.dit (tbl2 (metL f p k)))]) (d := .tuple [.list ((seqL f p k).map prT), .int (i : Int)]) (by rw [tk])
    rw [tk] at this
    exact this
  have e0 : (fCons (fA (lstW true) (fNil)) (fCons (fDnT) (fNil))) [some (.dat (tabD N f)), some (.dat (prT p)), none, none] h = some ([.ref h.length, .ref (h.length + 1)], h ++ [some (.lst []), some (.dit [])]) := by
    have c0 : 0 ≤ sizeLine := Nat.zero_le _
    have s1 : fA (lstW true) fNil [some (.dat (tabD N f)), some (.dat (prT p)), none, none] h = some (.ref h.length, h ++ [some (.lst [])]) := by
      clear e fz ix xi lv test
      walk_at "dl"
    refine xC s1 (xC (h1 := h ++ [some (.lst []), some (.dit [])]) ?_ xN)
    unfold fDnT
    simp [List.append_assoc]
  have c2 : 2 ≤ sizeLine := by decide
  unfold m_way_on
  unfold wayBody at e
  have ew : sWhile 100000 (fB (f2 (inW true) (fVar 1) (fVar 3))) (sSeq (sPutT (fA lenW (fCons (fVar 2) (fNil))) (fVar 3) (fVar 1)) (sSeq (sExpr (fM isL appendW (fVar 2) (fCons (fVar 1) (fNil)))) (sAsg (f2 idxW (fVar 0) (fVar 1)) (gN 1)))) [some (.dat (tabD N f)), some (.dat (prT p)), some (.ref h.length), some (.ref (h.length + 1))] (h ++ [some (.lst []), some (.dit [])]) = _ := e
  have er := xA (m := tupW) (r := some (.dat (.tuple [.list ((seqL f p k).map prT), .int (i : Int)]), h ++ [none, some (.dit (tbl2 (metL f p k)))])) (xC (E := fVar 2) rfl (xC xi xN)) (xTp (ds := [.list ((seqL f p k).map prT), .int (i : Int)]) rfl c2)
  have sp : sPar (fCons (fA (lstW true) (fNil)) (fCons (fDnT) (fNil))) [2, 3] [some (.dat (tabD N f)), some (.dat (prT p)), none, none] h = some (.nx [some (.dat (tabD N f)), some (.dat (prT p)), some (.ref h.length), some (.ref (h.length + 1))], h ++ [some (.lst []), some (.dit [])]) := by
    unfold sPar
    simp only [e0, sbnd]
    rfl
  clear hz knd test of hp c hk li tg hd ix xi e0 c2 e
  simp only [↓fnM_e, ↓sSeq_e, sp, seqK_nx, ew, ↓sFrz_e, fz, frK_some, ↓sRet, er, ↓sbnd_x, sb_some, retK_rt, lv, List.map_cons, List.map_nil, List.cons_append, List.nil_append, List.length_cons, List.length_nil, Nat.reduceAdd, Nat.reduceSub, List.replicate, List.replicate_succ, List.replicate_zero]
end DL
set_option maxRecDepth 100000
set_option maxHeartbeats 400000
namespace DL
open PySem L2
variable [HW]
local macro_rules | `(tactic| walk_at "dl") => `(tactic| simp (config := { dsimp := false }) only [↓fnM_e, ↓sSeq_e, seqK_nx, seqK_rt, seqK_bk, seqK_ct, retK_rt, retK_nx, ↓sFrz_e, frK_some, ↓sAsg, ↓sRet, ↓sRetN, ↓sIf, ↓sExpr, ↓sSkip, ↓sNever, ↓sPar, ↓sFor, ↓sSub, ↓fVar, ↓fC, ↓fNil, ↓fCons, ↓fA, ↓f1, ↓f2, ↓fB, ↓fIf, ↓fNeg, ↓fNot, ↓fAnd, ↓fOr, ↓bNot, ↓bAnd, ↓bOr, ↓bYes, ↓obnd_x, ob_some, ↓sbnd_x, sb_some, ↓ite_x, iteK_t, iteK_f, gN, gT, gC, gE, ↓rng1I, ↓rng2I, ↓seqI, ↓enumA, ↓zipI, ↓strI, ↓fLc, ↓fDc, ↓fM, ↓fSl, ↓oNone, ↓oSome, ↓fRev, wipeE, ↓kwM, permM, permL, List.foldr, List.length_cons, List.length_nil, List.map_cons, List.map_nil, List.cons_append, List.nil_append, List.replicate, List.replicate_succ, List.replicate_zero, List.getElem?_cons_zero, List.getElem?_cons_succ, List.set_cons_zero, List.set_cons_succ, if_true, if_false, reduceIte, Nat.reduceAdd, Nat.reduceSub, Nat.reduceEqDiff, Nat.reduceLT, Nat.reduceLeDiff, Int.reduceLT, Int.reduceLE, Int.reduceNeg, Int.reduceMul, Int.reduceAdd, Int.reduceSub, Int.reduceToNat, Int.reducePow, Int.reduceEq, ok, bok, deref, mkL, lstW, tupW, dats, Option.map_some, appendW, insertW, setL, isL, listW, tupleW, lenW, absW, intC, maxW, minW, idxW, addW, subW_e, modW_e, divW_e, powW_e, mulW, intW, lt_e, gt_e, le_e, ge_e, ltW, allW_e, anyW_e, sumW_e, lW, setW, lstAt, cutW, backW, isW, isiW, iLT_none, iLT_bool, iLT_int, iLT_str, iLT_list, iLT_tup, iL_none, iL_bool, iL_int, iL_str, iL_list, iL_tup, iT_none, iT_bool, iT_int, iT_str, iT_list, iT_tup, iS_none, iS_bool, iS_int, iS_str, iS_list, iS_tup, iI_none, iI_bool, iI_int, iI_str, iI_list, iI_tup, iB_none, iB_bool, iB_int, iB_str, iB_list, iB_tup, Bool.false_eq_true, reduceCtorEq, Bool.not_true, Bool.not_false, decide_true, decide_false, List.zip_cons_cons, List.zip_nil_left, List.foldl_cons, List.foldl_nil, and_self, and_true, true_and, Bool.and_true, Bool.true_and, Bool.or_true, Bool.true_or, *])
theorem fnM_run {rm : Bool} {np nl : Nat} {body : SM} {ws : List W} {h : Hh} {ρ : DL.Env} {r : Option (Out × Hh)} (e : ws.length = np) (er : ws.map some ++ List.replicate (nl - np) none = ρ) (hb : body ρ h = r) : fnM rm np nl body ws h = retK rm h r := by
  rw [fnM_e _ _ _ _ _ _ e, er, hb]
theorem eqv_bools : ∀ a b : List Bool, PyData.eqvAll (a.map .bool) (b.map .bool) = decide (a = b)
  | [], [] => by simp [PyData.eqvAll]
  | [], b :: l => by simp [PyData.eqvAll]
  | a :: k, [] => by simp [PyData.eqvAll]
  | a :: k, b :: l => by
    rw [List.map_cons, List.map_cons, PyData.eqvAll, eqv_bools k l]
    by_cases h : a = b
    · subst h; cases a <;> simp [PyData.eqv]
    · have : (PyData.eqv (.bool a) (.bool b)) = false := by cases a <;> cases b <;> first | exact absurd rfl h | rfl
      rw [this]
      simp [h]
theorem shp_bools (l : List Bool) : shp (.list (l.map .bool)) = true := by
  have e1 : PyData.canLayAll0 (l.map .bool) = true := by
    induction l with
    | nil => rfl
    | cons b l ih => rw [List.map_cons, PyData.canLayAll0, ih]; rfl
  have e2 : PyData.depthAll (l.map .bool) = 0 := by
    induction l with
    | nil => rfl
    | cons b l ih =>
      rw [List.map_cons, PyData.depthAll, ih (by
        rw [List.map_cons, PyData.canLayAll0] at e1
        simpa using (Bool.and_eq_true _ _ ▸ e1).2)]
      rfl
  unfold shp
  rw [PyData.canLay0, e1, PyData.depth, e2]
  rfl
theorem eqW_bools {neg : Bool} {a b : List Bool} {h : Hh} : eqW neg (.dat (.list (a.map .bool))) (.dat (.list (b.map .bool))) h = some (.dat (.bool (if neg = true then !decide (a = b) else decide (a = b))), h) := by
  have e : PyData.eqv (.list (a.map .bool)) (.list (b.map .bool)) = decide (a = b) := by rw [PyData.eqv, eqv_bools]
  unfold eqW
  simp only [deref, eqS, shp_bools, e, Bool.and_self, if_true]
  rfl
theorem lr_rng {x : W} {BL : Int} {h : Hh} (h1 : -1000000000 ≤ BL + 1) (h2 : BL + 1 ≤ 1000000000) : rng2I (fCons (fC (.int 1)) (fCons (f2 (addW false) (fVar 1) (fC (.int 1))) (fNil))) [some x, some (.dat (.int BL)), none] h = some (rngD 1 (BL + 1 - 1).toNat, h) := by
  have ea : (fCons (fC (.int 1)) (fCons (f2 (addW false) (fVar 1) (fC (.int 1))) (fNil))) [some x, some (.dat (.int BL)), none] h = some ([.dat (.int 1), .dat (.int (BL + 1))], h) := by
    clear h1 h2
    walk_at "dl"
  unfold rng2I
  rw [ea]
  simp only [obnd]
  rw [if_pos ⟨by decide, by decide, h1, h2⟩]
noncomputable def lrE : EM := fLc false (rng2I (fCons (fC (.int 1)) (fCons (f2 (addW false) (fVar 1) (fC (.int 1))) (fNil)))) (gN 2) (bAnd (fB (f2 (eqW false) (f2 modW (fVar 1) (fVar 2)) (fC (.int 0)))) (fB (f2 (eqW false) (f2 (addW false) (fSl false (fVar 0) (oSome (fVar 2)) (oNone)) (fSl false (fVar 0) (oNone) (oSome (fVar 2)))) (fVar 0)))) (fVar 2) [2]
theorem lr_run {x : D} {BL mi : Int} {L : D} {h : Hh} (s1 : lenW [.dat x] h = some (.dat (.int BL), h)) (fl : lrE [some (.dat x), some (.dat (.int BL)), none] h = some (.dat L, h)) (ix : idxW (.dat L) (.dat (.int 0)) h = some (.dat (.int mi), h)) :
    m_least_round [.dat x] h = some (.dat (.int mi), h) := by
  have e : m_least_round = fnM false 1 3 (sSeq (sAsg (fA lenW (fCons (fVar 0) (fNil))) (gN 1)) (sRet (f2 idxW lrE (fC (.int 0))))) := rfl
  have a1 : fA lenW (fCons (fVar 0) fNil) [some (.dat x), none, none] h = some (.dat (.int BL), h) := xA (xC rfl xN) s1
  have s2 := zA (rest := sRet (f2 idxW lrE (fC (.int 0)))) (ρ1 := [some (.dat x), some (.dat (.int BL)), none]) a1 (k := gN 1) rfl
  have s3 := zR (x2 (B := fC (.int 0)) fl rfl ix)
  rw [e]
  have s4 := fnM_run (rm := false) (np := 1) (nl := 3) (ws := [.dat x]) (h := h) (ρ := [some (.dat x), none, none]) rfl rfl (s2.trans s3)
  rw [s4, retK_rt]
  exact leave_same'
def rotB (bs : List Bool) (m : Nat) : Bool := decide (bs.length % m = 0) && decide (bs.drop m ++ bs.take m = bs)
theorem least_round_ok {bs : List Bool} {m : Nat} {h : Hh} (hl : bs.length ≤ 10000) (m0 : 1 ≤ m) (m1 : m ≤ bs.length) (hm : rotB bs m = true) (lo : ∀ j, 1 ≤ j → j < m → rotB bs j = false) :
    m_least_round [.dat (.list (bs.map .bool))] h = some (.dat (.int (m : Int)), h) := by
  have hz : sizeLine = 16777216 := rfl
  have ln : ((bs.map PyData.bool).length : Int) = (bs.length : Int) := by rw [List.length_map]
  have e := lcL_map (k := gN 2) (t := bAnd (fB (f2 (eqW false) (f2 modW (fVar 1) (fVar 2)) (fC (.int 0)))) (fB (f2 (eqW false) (f2 (addW false) (fSl false (fVar 0) (oSome (fVar 2)) (oNone)) (fSl false (fVar 0) (oNone) (oSome (fVar 2)))) (fVar 0)))) (f := fVar 2) (ρ := [some (.dat (.list (bs.map .bool))), some (.dat (.int (bs.length : Int))), none]) (h := h)
    (fun d => match d with | .int i => rotB bs i.toNat | _ => false) (fun d => d) (ds := rngD 1 bs.length) (by
    intro d hd
    obtain ⟨j, hj⟩ := List.getElem?_of_mem hd
    obtain ⟨hj1, rfl⟩ := rngD_get hj
    refine ⟨[some (.dat (.list (bs.map .bool))), some (.dat (.int (bs.length : Int))), some (.dat (.int (1 + (j : Int))))], rfl, ?_, fun _ => rfl⟩
    have tn : (1 + (j : Int)).toNat = j + 1 := by omega
    show _ = some (rotB bs (1 + (j : Int)).toNat, h)
    rw [tn]
    have eq := eqW_ints (neg := false) (i := (bs.length : Int) % (1 + (j : Int))) (j := 0) (h := h)
    have dm : decide ((bs.length : Int) % (1 + (j : Int)) = 0) = decide (bs.length % (j + 1) = 0) := by
      rw [show (1 + (j : Int)) = ((j + 1 : Nat) : Int) by omega, ← Int.natCast_emod]
      simp only [decide_eq_decide]
      omega
    rw [dm] at eq
    simp only [Bool.false_eq_true, if_false] at eq
    have c1 := cut_drop (bs.map PyData.bool) (k := j + 1)
    have c2 := cut_to (bs.map PyData.bool) (k := j + 1)
    rw [show ((j + 1 : Nat) : Int) = 1 + (j : Int) by omega] at c1 c2
    have eb := eqW_bools (neg := false) (a := bs.drop (j + 1) ++ bs.take (j + 1)) (b := bs) (h := h)
    rw [List.map_append, List.map_drop, List.map_take] at eb
    simp only [Bool.false_eq_true, if_false] at eb
    have l1 : ((bs.map PyData.bool).drop (j + 1)).length + ((bs.map PyData.bool).take (j + 1)).length ≤ sizeLine := by simp; omega
    have p0 : (0 : Int) < 1 + (j : Int) := by omega
    unfold rotB
    by_cases z : bs.length % (j + 1) = 0
    · have z' : decide (bs.length % (j + 1) = 0) = true := decide_eq_true z
      rw [z'] at eq ⊢
      rw [Bool.true_and]
      generalize hS : (1 + (j : Int)) = S at *
      generalize (bs.length : Int) = BL at *
      clear hl m0 m1 hm lo hz hd hj dm z z' ln tn hS hj1
      walk_at "dl"
    · have z' : decide (bs.length % (j + 1) = 0) = false := decide_eq_false z
      rw [z'] at eq ⊢
      rw [Bool.false_and]
      generalize hS : (1 + (j : Int)) = S at *
      generalize (bs.length : Int) = BL at *
      clear hl m0 m1 hm lo hz hd hj dm z z' ln tn hS hj1 eb c1 c2 l1
      walk_at "dl")
  have hd1 : ∃ R, (((rngD 1 bs.length).filter (fun d => match d with | .int i => rotB bs i.toNat | _ => false)).map fun d => d) = .int (m : Int) :: R ∧ R.length ≤ 10000 := by
    have es : rngD 1 bs.length = rngD 1 (m - 1) ++ .int (m : Int) :: (((List.range (bs.length - m)).map fun x => m + x).map fun (i : Nat) => PyData.int (1 + (i : Int))) := by
      unfold rngD
      have e1 : List.range bs.length = List.range (m - 1) ++ ([m - 1] ++ (List.range (bs.length - m)).map fun x => m + x) := by
        have q1 : List.range (m + (bs.length - m)) = List.range m ++ (List.range (bs.length - m)).map fun x => m + x := List.range_add ..
        rw [show m + (bs.length - m) = bs.length by omega] at q1
        have q2 : List.range m = List.range (m - 1) ++ [m - 1] := by
          conv => lhs; rw [show m = (m - 1) + 1 by omega]
          rw [List.range_succ]
        rw [q1, q2, List.append_assoc]
      rw [e1, List.map_append, List.map_append]
      congr 1
      rw [List.map_cons, List.map_nil, show (1 + ((m - 1 : Nat) : Int)) = (m : Int) by omega]
      rfl
    have ef : (rngD 1 (m - 1)).filter (fun d => match d with | .int i => rotB bs i.toNat | _ => false) = [] := by
      rw [List.filter_eq_nil_iff]
      intro d hd
      obtain ⟨j, hj⟩ := List.getElem?_of_mem hd
      obtain ⟨hj1, rfl⟩ := rngD_get hj
      have tn : (1 + (j : Int)).toNat = j + 1 := by omega
      show ¬ rotB bs (1 + (j : Int)).toNat = true
      rw [tn, lo (j + 1) (by omega) (by omega)]
      simp
    rw [es, List.filter_append, ef, List.nil_append, List.filter_cons]
    have hm' : rotB bs ((m : Int)).toNat = true := by rw [Int.toNat_natCast]; exact hm
    simp only [hm', if_true, List.map_id']
    refine ⟨_, rfl, Nat.le_trans (List.length_filter_le _ _) ?_⟩
    simp
    omega
  obtain ⟨R, eR, hR⟩ := hd1
  rw [eR] at e
  have a0 : L2.atI (PyData.int (m : Int) :: R) 0 = some (.int (m : Int)) := at_nat (j := 0) rfl
  have lR : R.length + 1 ≤ sizeLine := by omega
  have rg := lr_rng (x := .dat (.list (bs.map .bool))) (BL := (bs.length : Int)) (h := h) (by omega) (by omega)
  rw [show ((bs.length : Int) + 1 - 1).toNat = bs.length by omega] at rg
  have fl : lrE [some (.dat (.list (bs.map .bool))), some (.dat (.int (bs.length : Int))), none] h = some (.dat (.list (PyData.int (m : Int) :: R)), h) := by
    unfold lrE fLc
    rw [rg]
    simp only [obnd]
    show obnd (lcL _ _ _ [some (.dat (.list (bs.map .bool))), some (.dat (.int (bs.length : Int))), none] _ h) _ = _
    rw [e]
    simp only [obnd]
    rw [if_pos (by rw [List.length_cons]; exact lR)]; rfl
  have ix : idxW (.dat (.list (PyData.int (m : Int) :: R))) (.dat (.int 0)) h = some (.dat (.int (m : Int)), h) := by
    unfold idxW
    simp only [deref, a0]; rfl
  refine lr_run ?_ fl ix
  unfold lenW
  simp only [deref, ln]
  rfl
end DL
set_option maxRecDepth 100000
set_option maxHeartbeats 400000
namespace DL
open PySem L2
variable [HW]
local macro_rules | `(tactic| walk_at "dl") => `(tactic| simp (config := { dsimp := false }) only [↓fnM_e, ↓sSeq_e, seqK_nx, seqK_rt, seqK_bk, seqK_ct, retK_rt, retK_nx, ↓sFrz_e, frK_some, ↓sAsg, ↓sRet, ↓sRetN, ↓sIf, ↓sExpr, ↓sSkip, ↓sNever, ↓sPar, ↓sFor, ↓sSub, ↓fVar, ↓fC, ↓fNil, ↓fCons, ↓fA, ↓f1, ↓f2, ↓fB, ↓fIf, ↓fNeg, ↓fNot, ↓fAnd, ↓fOr, ↓bNot, ↓bAnd, ↓bOr, ↓bYes, ↓obnd_x, ob_some, ↓sbnd_x, sb_some, ↓ite_x, iteK_t, iteK_f, gN, gT, gC, gE, ↓rng1I, ↓rng2I, ↓seqI, ↓enumA, ↓zipI, ↓strI, ↓fLc, ↓fDc, ↓fM, ↓fSl, ↓oNone, ↓oSome, ↓fRev, wipeE, ↓kwM, permM, permL, List.foldr, List.length_cons, List.length_nil, List.map_cons, List.map_nil, List.cons_append, List.nil_append, List.replicate, List.replicate_succ, List.replicate_zero, List.getElem?_cons_zero, List.getElem?_cons_succ, List.set_cons_zero, List.set_cons_succ, if_true, if_false, reduceIte, Nat.reduceAdd, Nat.reduceSub, Nat.reduceEqDiff, Nat.reduceLT, Nat.reduceLeDiff, Int.reduceLT, Int.reduceLE, Int.reduceNeg, Int.reduceMul, Int.reduceAdd, Int.reduceSub, Int.reduceToNat, Int.reducePow, Int.reduceEq, ok, bok, deref, mkL, lstW, tupW, dats, Option.map_some, appendW, insertW, setL, isL, listW, tupleW, lenW, absW, intC, maxW, minW, idxW, addW, subW_e, modW_e, divW_e, powW_e, mulW, intW, lt_e, gt_e, le_e, ge_e, ltW, allW_e, anyW_e, sumW_e, lW, setW, lstAt, cutW, backW, isW, isiW, iLT_none, iLT_bool, iLT_int, iLT_str, iLT_list, iLT_tup, iL_none, iL_bool, iL_int, iL_str, iL_list, iL_tup, iT_none, iT_bool, iT_int, iT_str, iT_list, iT_tup, iS_none, iS_bool, iS_int, iS_str, iS_list, iS_tup, iI_none, iI_bool, iI_int, iI_str, iI_list, iI_tup, iB_none, iB_bool, iB_int, iB_str, iB_list, iB_tup, Bool.false_eq_true, reduceCtorEq, Bool.not_true, Bool.not_false, decide_true, decide_false, List.zip_cons_cons, List.zip_nil_left, List.foldl_cons, List.foldl_nil, and_self, and_true, true_and, Bool.and_true, Bool.true_and, Bool.or_true, Bool.true_or, *])
theorem sIx_m1 (n d : Nat) : HT.sIx n d (some (-1)) = n - 1 := by
  have e : HT.sIx n d (some (-1)) = ((-1 : Int) + (n : Int)).toNat := rfl
  rw [e]
  omega
theorem cut_lastG {α : Type} (xs : List α) : cutG xs (some (-1)) none = xs.drop (xs.length - 1) := by
  unfold cutG
  rw [sIx_m1, HT.sIx_none, ← List.length_drop, List.take_length]
theorem cut_butG {α : Type} (xs : List α) : cutG xs none (some (-1)) = xs.take (xs.length - 1) := by
  unfold cutG
  rw [sIx_m1, HT.sIx_none, List.drop_zero, Nat.sub_zero]
def tl (t : Nat → Bool) (a n : Nat) : List Bool := (List.range n).map fun s => t (a + s)
theorem tl_len (t : Nat → Bool) (a n : Nat) : (tl t a n).length = n := by simp [tl]
theorem tl_add (t : Nat → Bool) (a m n : Nat) : tl t a (m + n) = tl t a m ++ tl t (a + m) n := by
  unfold tl
  rw [List.range_add, List.map_append, List.map_map]
  congr 1
  apply List.map_congr_left
  intro s _
  show t (a + (m + s)) = t (a + m + s)
  rw [Nat.add_assoc]
theorem tl_eq {t : Nat → Bool} {a b n : Nat} : tl t a n = tl t b n ↔ ∀ j, j < n → t (a + j) = t (b + j) := by
  unfold tl
  rw [List.map_inj_left]
  exact ⟨fun h j hj => h j (List.mem_range.mpr hj), fun h j hj => h j (List.mem_range.mp hj)⟩
theorem tl_drop (t : Nat → Bool) (a : Nat) {m n : Nat} (h : m ≤ n) : (tl t a n).drop m = tl t (a + m) (n - m) := by
  have e := tl_add t a m (n - m)
  rw [show m + (n - m) = n by omega] at e
  rw [e, List.drop_append_of_le_length (by rw [tl_len]; exact Nat.le_refl _), List.drop_eq_nil_of_le (by rw [tl_len]; exact Nat.le_refl _), List.nil_append]
theorem tl_take (t : Nat → Bool) (a : Nat) {m n : Nat} (h : m ≤ n) : (tl t a n).take m = tl t a m := by
  have e := tl_add t a m (n - m)
  rw [show m + (n - m) = n by omega] at e
  rw [e, List.take_append_of_le_length (by rw [tl_len]; exact Nat.le_refl _), List.take_of_length_le (by rw [tl_len]; exact Nat.le_refl _)]
theorem rot_iff {t : Nat → Bool} {i c m : Nat} (hc : EvP t i c) (c0 : 0 < c) (h1 : m ≤ c) (h2 : c % m = 0) : rotB (tl t i c) m = true ↔ EvP t i m := by
  have e1 : tl t i m = tl t (i + m + (c - m)) m := tl_eq.mpr fun j hj => by
    rw [show i + m + (c - m) + j = i + j + c by omega, hc (i + j) (by omega)]
  have e2 : (tl t i c).drop m ++ (tl t i c).take m = tl t (i + m) c := by
    rw [tl_drop t i h1, tl_take t i h1, e1, ← tl_add, show c - m + m = c by omega]
  unfold rotB
  rw [tl_len, e2, decide_eq_true h2, Bool.true_and, decide_eq_true_iff, tl_eq]
  constructor
  · intro h n hn
    have q := Nat.mod_add_div (n - i) c
    have l := Nat.mod_lt (n - i) c0
    have p1 : t (i + (n - i) % c + c * ((n - i) / c)) = t (i + (n - i) % c) := hc.mul _ _ (by omega)
    have p2 : t (i + m + (n - i) % c + c * ((n - i) / c)) = t (i + m + (n - i) % c) := hc.mul _ _ (by omega)
    rw [show n + m = i + m + (n - i) % c + c * ((n - i) / c) by omega, p2, h _ l, ← p1]
    congr 1
    omega
  · intro h j hj
    rw [show i + m + j = i + j + m by omega]
    exact h (i + j) (by omega)
theorem least_per {t : Nat → Bool} {i c : Nat} (hc : EvP t i c) (c0 : 0 < c) : ∃ m, 0 < m ∧ m ≤ c ∧ c % m = 0 ∧ EvP t i m ∧ ∀ d, 0 < d → d < m → ¬ EvP t i d := by
  rcases least_or (fun k => 0 < k ∧ EvP t i k) c with ⟨m, hm, ⟨m0, em⟩, lo⟩ | h
  · refine ⟨m, m0, hm, ?_, em, fun d d0 dm e => lo d dm ⟨d0, e⟩⟩
    by_cases z : c % m = 0
    · exact z
    · exfalso
      refine lo (c % m) (Nat.mod_lt _ m0) ⟨Nat.pos_of_ne_zero z, fun n hn => ?_⟩
      have dm : c % m + m * (c / m) = c := Nat.mod_add_div c m
      have s1 : t (n + c % m + m * (c / m)) = t (n + c % m) := em.mul _ _ (by omega)
      rw [← s1, show n + c % m + m * (c / m) = n + c by omega, hc n hn]
  · exact absurd ⟨c0, hc⟩ (h c (Nat.le_refl _))
theorem idxW_list {x : List D} {i : Int} {d : D} {h : Hh} (a : L2.atI x i = some d) : idxW (.dat (.list x)) (.dat (.int i)) h = some (.dat d, h) := by
  unfold idxW
  simp only [deref, a]; rfl
theorem sl_runG {A E : EM} {ρ : DL.Env} {h : Hh} {x y : List D} {i : Int} (ha : A ρ h = some (.dat (.list x), h)) (he : E ρ h = some (.dat (.int i), h)) (hc : cutG x none (some i) = y) : fSl false A (oNone) (oSome E) ρ h = some (.dat (.list y), h) := by
  unfold fSl oNone oSome
  simp only [ha, obnd, he, cutW, deref, hc]
  rfl
theorem sl_runF {A E : EM} {ρ : DL.Env} {h : Hh} {x y : List D} {i : Int} (ha : A ρ h = some (.dat (.list x), h)) (he : E ρ h = some (.dat (.int i), h)) (hc : cutG x (some i) none = y) : fSl false A (oSome E) (oNone) ρ h = some (.dat (.list y), h) := by
  unfold fSl oNone oSome
  simp only [ha, obnd, he, cutW, deref, hc]
  rfl
theorem neg1 {ρ : DL.Env} {h : Hh} : fNeg (fC (.int 1)) ρ h = some (.dat (.int (-1)), h) := rfl
noncomputable def tuB : SM := (sSeq (sAsg (f2 (addW false) (fSl false (fVar 4) (oSome (fNeg (fC (.int 1)))) (oNone)) (fSl false (fVar 4) (oNone) (oSome (fNeg (fC (.int 1)))))) (gN 4))
    (sAsg (fSl false (fVar 7) (oNone) (oSome (fNeg (fC (.int 1))))) (gN 7)))
noncomputable def tuT : BM := (bAnd (fB (f2 gt_W (fA lenW (fCons (fVar 7) (fNil))) (fC (.int 0)))) (fB (f2 (eqW false) (f2 idxW (fVar 7) (fNeg (fC (.int 1)))) (f2 idxW (fVar 4) (fNeg (fC (.int 1)))))))
theorem tuB_run {v0 v1 v2 v3 v5 v6 v8 : Option W} {TU AH A1 A2 TU' AH' : List D} {h : Hh} (c1 : cutG TU (some (-1)) none = A1) (c2 : cutG TU none (some (-1)) = A2) (hl : A1.length + A2.length ≤ sizeLine) (c3 : A1 ++ A2 = TU') (c4 : cutG AH none (some (-1)) = AH') :
    tuB [v0, v1, v2, v3, some (.dat (.list TU)), v5, v6, some (.dat (.list AH)), v8] h = some (.nx [v0, v1, v2, v3, some (.dat (.list TU')), v5, v6, some (.dat (.list AH')), v8], h) := by
  have s1 := sl_runF (A := fVar 4) (ρ := [v0, v1, v2, v3, some (.dat (.list TU)), v5, v6, some (.dat (.list AH)), v8]) (h := h) rfl neg1 c1
  have s2 := sl_runG (A := fVar 4) (ρ := [v0, v1, v2, v3, some (.dat (.list TU)), v5, v6, some (.dat (.list AH)), v8]) (h := h) rfl neg1 c2
  have s3 := x2 s1 s2 (xAdd hl)
  rw [c3] at s3
  have s4 := sl_runG (A := fVar 7) (ρ := [v0, v1, v2, v3, some (.dat (.list TU')), v5, v6, some (.dat (.list AH)), v8]) (h := h) rfl neg1 c4
  have s5 := zA (rest := sAsg (fSl false (fVar 7) (oNone) (oSome (fNeg (fC (.int 1))))) (gN 7)) (k := gN 4) (ρ1 := [v0, v1, v2, v3, some (.dat (.list TU')), v5, v6, some (.dat (.list AH)), v8]) s3 rfl
  unfold tuB
  rw [s5]
  unfold sAsg
  simp only [s4, sbnd]
  rfl
theorem tuT_no {v0 v1 v2 v3 v4 v5 v6 v8 : Option W} {h : Hh} : tuT [v0, v1, v2, v3, v4, v5, v6, some (.dat (.list [])), v8] h = some (false, h) := by
  have d0 : decide ((0 : Int) < ((0 : Nat) : Int)) = false := rfl
  unfold tuT
  walk_at "dl"
theorem tuT_yes {v0 v1 v2 v3 v5 v6 v8 : Option W} {TU AH : List D} {b1 b2 : Bool} {n : Int} {h : Hh} (hn : (AH.length : Int) = n) (h0 : decide (0 < n) = true) (a1 : L2.atI AH (-1) = some (.bool b1)) (a2 : L2.atI TU (-1) = some (.bool b2)) :
    tuT [v0, v1, v2, v3, some (.dat (.list TU)), v5, v6, some (.dat (.list AH)), v8] h = some (decide (b1 = b2), h) := by
  have eq : eqW false (.dat (.bool b1)) (.dat (.bool b2)) h = bok (decide (b1 = b2)) h := by
    unfold eqW
    simp only [deref, eqS, Bool.false_eq_true, if_false]
  unfold tuT
  walk_at "dl"
theorem tr_run {to pl pr : D} {A T8 AH TU LT AH2 TU2 : List D} {i m : Int} {h : Hh} (e1 : m_way_on [.dat to, .dat pr] h = some (.dat (.tuple [.list A, .int i]), h)) (e2 : lcL (gN 8) (bYes) (fA (m_is_less) (fCons (fVar 1) (fCons (fVar 8) (fNil)))) [some (.dat to), some (.dat pl), some (.dat pr), none, none, some (.dat (.list A)), some (.dat (.int i)), none, none] A h = some (T8, h)) (l1 : T8.length ≤ sizeLine)
    (c1 : cutG T8 none (some i) = AH) (c2 : cutG T8 (some i) none = LT) (e3 : m_least_round [.dat (.list LT)] h = some (.dat (.int m), h)) (c3 : cutG LT none (some m) = TU)
    (e4 : whileL tuT tuB 100000 [some (.dat to), some (.dat pl), some (.dat pr), some (.dat (.list T8)), some (.dat (.list TU)), some (.dat (.list A)), some (.dat (.int i)), some (.dat (.list AH)), none] h = some (.nx [some (.dat to), some (.dat pl), some (.dat pr), some (.dat (.list T8)), some (.dat (.list TU2)), some (.dat (.list A)), some (.dat (.int i)), some (.dat (.list AH2)), none], h)) :
    m_truths_of [.dat to, .dat pl, .dat pr] h = some (.dat (.tuple [.list AH2, .list TU2]), h) := by
  have q : m_truths_of = fnM false 3 9 (sSeq (sAsg (fA (m_way_on) (fCons (fVar 0) (fCons (fVar 2) (fNil)))) (gT 2 (gC (gN 5) (gC (gN 6) (gE)))))
    (sSeq (sAsg (fLc false (seqI (fVar 5)) (gN 8) (bYes) (fA (m_is_less) (fCons (fVar 1) (fCons (fVar 8) (fNil)))) [8]) (gN 3))
    (sSeq (sPar (fCons (fSl false (fVar 3) (oNone) (oSome (fVar 6))) (fCons (fSl false (fVar 3) (oSome (fVar 6)) (oNone)) (fNil))) [7, 4])
    (sSeq (sAsg (fSl false (fVar 4) (oNone) (oSome (fA (m_least_round) (fCons (fVar 4) (fNil))))) (gN 4))
    (sSeq (sWhile 100000 tuT tuB)
    (sRet (fA tupW (fCons (fVar 7) (fCons (fVar 4) (fNil)))))))))) := rfl
  have t1 := zA (ρ := [some (.dat to), some (.dat pl), some (.dat pr), none, none, none, none, none, none]) (k := gT 2 (gC (gN 5) (gC (gN 6) (gE)))) (ρ1 := [some (.dat to), some (.dat pl), some (.dat pr), none, none, some (.dat (.list A)), some (.dat (.int i)), none, none]) (xA (g := (fCons (fVar 0) (fCons (fVar 2) (fNil)))) (xC rfl (xC rfl xN)) e1) rfl
    (rest := (sSeq (sAsg (fLc false (seqI (fVar 5)) (gN 8) (bYes) (fA (m_is_less) (fCons (fVar 1) (fCons (fVar 8) (fNil)))) [8]) (gN 3))
    (sSeq (sPar (fCons (fSl false (fVar 3) (oNone) (oSome (fVar 6))) (fCons (fSl false (fVar 3) (oSome (fVar 6)) (oNone)) (fNil))) [7, 4])
    (sSeq (sAsg (fSl false (fVar 4) (oNone) (oSome (fA (m_least_round) (fCons (fVar 4) (fNil))))) (gN 4))
    (sSeq (sWhile 100000 tuT tuB)
    (sRet (fA tupW (fCons (fVar 7) (fCons (fVar 4) (fNil))))))))))
  have c2' : 2 ≤ sizeLine := by decide
  have t2 := zA (ρ := [some (.dat to), some (.dat pl), some (.dat pr), none, none, some (.dat (.list A)), some (.dat (.int i)), none, none]) (k := gN 3) (ρ1 := [some (.dat to), some (.dat pl), some (.dat pr), some (.dat (.list T8)), none, some (.dat (.list A)), some (.dat (.int i)), none, none]) (xL (IT := seqI (fVar 5)) (vs := [8]) (xS (x := .list A) rfl (.inl rfl)) e2 l1) rfl
    (rest := (sSeq (sPar (fCons (fSl false (fVar 3) (oNone) (oSome (fVar 6))) (fCons (fSl false (fVar 3) (oSome (fVar 6)) (oNone)) (fNil))) [7, 4])
    (sSeq (sAsg (fSl false (fVar 4) (oNone) (oSome (fA (m_least_round) (fCons (fVar 4) (fNil))))) (gN 4))
    (sSeq (sWhile 100000 tuT tuB)
    (sRet (fA tupW (fCons (fVar 7) (fCons (fVar 4) (fNil)))))))))
  have t3 := zP (ρ := [some (.dat to), some (.dat pl), some (.dat pr), some (.dat (.list T8)), none, some (.dat (.list A)), some (.dat (.int i)), none, none]) (is := [7, 4]) (ρ1 := [some (.dat to), some (.dat pl), some (.dat pr), some (.dat (.list T8)), some (.dat (.list LT)), some (.dat (.list A)), some (.dat (.int i)), some (.dat (.list AH)), none]) (xC (sl_runG (A := fVar 3) (E := fVar 6) (h := h) rfl rfl c1) (xC (sl_runF (A := fVar 3) (E := fVar 6) rfl rfl c2) xN)) rfl rfl
    (rest := (sSeq (sAsg (fSl false (fVar 4) (oNone) (oSome (fA (m_least_round) (fCons (fVar 4) (fNil))))) (gN 4))
    (sSeq (sWhile 100000 tuT tuB)
    (sRet (fA tupW (fCons (fVar 7) (fCons (fVar 4) (fNil))))))))
  have t4 := zA (ρ := [some (.dat to), some (.dat pl), some (.dat pr), some (.dat (.list T8)), some (.dat (.list LT)), some (.dat (.list A)), some (.dat (.int i)), some (.dat (.list AH)), none]) (k := gN 4) (ρ1 := [some (.dat to), some (.dat pl), some (.dat pr), some (.dat (.list T8)), some (.dat (.list TU)), some (.dat (.list A)), some (.dat (.int i)), some (.dat (.list AH)), none]) (sl_runG (A := fVar 4) (E := fA (m_least_round) (fCons (fVar 4) (fNil))) rfl (xA (xC rfl xN) e3) c3) rfl
    (rest := (sSeq (sWhile 100000 tuT tuB)
    (sRet (fA tupW (fCons (fVar 7) (fCons (fVar 4) (fNil)))))))
  have t5 : sSeq (sWhile 100000 tuT tuB) (sRet (fA tupW (fCons (fVar 7) (fCons (fVar 4) (fNil))))) [some (.dat to), some (.dat pl), some (.dat pr), some (.dat (.list T8)), some (.dat (.list TU)), some (.dat (.list A)), some (.dat (.int i)), some (.dat (.list AH)), none] h = sRet (fA tupW (fCons (fVar 7) (fCons (fVar 4) (fNil)))) [some (.dat to), some (.dat pl), some (.dat pr), some (.dat (.list T8)), some (.dat (.list TU2)), some (.dat (.list A)), some (.dat (.int i)), some (.dat (.list AH2)), none] h := by
    unfold sSeq sWhile
    rw [e4]
  have t6 := zR (ρ := [some (.dat to), some (.dat pl), some (.dat pr), some (.dat (.list T8)), some (.dat (.list TU2)), some (.dat (.list A)), some (.dat (.int i)), some (.dat (.list AH2)), none]) (h := h) (xA (xC (E := fVar 7) rfl (xC (E := fVar 4) rfl xN)) (xTp (ds := [.list AH2, .list TU2]) rfl c2'))
  rw [q]
  have s4 := fnM_run (rm := false) (np := 3) (nl := 9) (ws := [.dat to, .dat pl, .dat pr]) (h := h) (ρ := [some (.dat to), some (.dat pl), some (.dat pr), none, none, none, none, none, none]) rfl rfl (t1.trans (t2.trans (t3.trans (t4.trans (t5.trans t6)))))
  rw [s4, retK_rt]
  exact leave_same'
end DL
set_option maxRecDepth 100000
set_option maxHeartbeats 400000
namespace DL
open PySem L2
variable [HW]
def trB (r : List Str) (f : Str × Str → Str × Str) (p : Str × Str) (n : Nat) : Bool := decide (r.idxOf (itn f n p).1 < r.idxOf (itn f n p).2)
abbrev bD (l : List Bool) : D := .list (l.map .bool)
theorem tl_snocD (t : Nat → Bool) (a n : Nat) : (tl t a (n + 1)).map PyData.bool = (tl t a n).map .bool ++ [.bool (t (a + n))] := by
  unfold tl; rw [List.range_succ, List.map_append, List.map_append]; rfl
theorem tl_cons (t : Nat → Bool) (a n : Nat) : tl t a (n + 1) = t a :: tl t (a + 1) n := by
  rw [Nat.add_comm n 1, tl_add]; rfl
theorem truths_ok {N r : List Str} {f : Str × Str → Str × Str} {p : Str × Str} {h : Hh} (hN : N.length ≤ 100) (of : On N f) (pr : r.Perm N) (hp : p ∈ prsN N) :
    ∃ a m, Least (trB r f p) a m ∧ a ≤ (prsN N).length ∧ m ≤ (prsN N).length ∧ m_truths_of [.dat (tabD N f), .dat (.dict (sdic (plc 0 r))), .dat (prT p)] h = some (.dat (.tuple [bD (tl (trB r f p) 0 a), bD (tl (trB r f p) a m)]), h) := by
  have hz : sizeLine = 16777216 := rfl
  obtain ⟨k, i, hk, c⟩ := comes of hp
  have hs := prsN_small hN
  have e1 := way_on_ok (h := h) of hp c (by omega)
  have hik := c.lt
  obtain ⟨d, rfl⟩ : ∃ d, k = i + d := ⟨k - i, by omega⟩
  have d0 : 0 < d := by omega
  have ev : EvP (trB r f p) i d := fun n hn => by
    unfold trB
    have : itn f (n + d) p = itn f n p := by
      rw [show n + d = (n - i) + (i + d) by omega, itn_add, c.eq, ← itn_add, show n - i + i = n by omega]
    rw [this]
  obtain ⟨m, m0, m1, m2, em, lo⟩ := least_per ev d0
  have e2 := lcL_list (k := gN 8) (f := fA (m_is_less) (fCons (fVar 1) (fCons (fVar 8) (fNil)))) (ρ := [some (.dat (tabD N f)), some (.dat (.dict (sdic (plc 0 r)))), some (.dat (prT p)), none, none, some (.dat (.list ((seqL f p (i + d)).map prT))), some (.dat (.int (i : Int))), none, none]) (h := h) prT (fun q => PyData.bool (decide (r.idxOf q.1 < r.idxOf q.2))) (xs := seqL f p (i + d)) (fun q hq => by
    obtain ⟨j, _, rfl⟩ := seqL_mem.mp hq
    obtain ⟨q1, q2, _⟩ := prsN_mem.mp (itn_on of j p hp)
    have i2 := is_less_ok (r := r) (h := h) (pr.mem_iff.mpr q1) (pr.mem_iff.mpr q2)
    exact ⟨[some (.dat (tabD N f)), some (.dat (.dict (sdic (plc 0 r)))), some (.dat (prT p)), none, none, some (.dat (.list ((seqL f p (i + d)).map prT))), some (.dat (.int (i : Int))), none, some (.dat (prT (itn f j p)))], rfl, xA (xC rfl (xC rfl xN)) i2⟩)
  have eT : (seqL f p (i + d)).map (fun q => PyData.bool (decide (r.idxOf q.1 < r.idxOf q.2))) = (tl (trB r f p) 0 (i + d)).map .bool := by
    unfold seqL tl
    rw [List.map_map, List.map_map]
    apply List.map_congr_left
    intro j _
    show PyData.bool _ = PyData.bool (trB r f p (0 + j))
    rw [Nat.zero_add]; rfl
  rw [eT] at e2
  have c1 : cutG ((tl (trB r f p) 0 (i + d)).map PyData.bool) none (some (i : Int)) = (tl (trB r f p) 0 i).map .bool := by
    rw [cut_to, ← List.map_take, tl_take _ _ (by omega)]
  have c2 : cutG ((tl (trB r f p) 0 (i + d)).map PyData.bool) (some (i : Int)) none = (tl (trB r f p) i d).map .bool := by
    rw [cut_drop, ← List.map_drop, tl_drop _ _ (by omega), Nat.zero_add, show i + d - i = d by omega]
  have e3 := least_round_ok (bs := tl (trB r f p) i d) (m := m) (h := h) (by rw [tl_len]; omega) m0 (by rw [tl_len]; exact m1) ((rot_iff ev d0 m1 m2).mpr em) (fun j j0 jm => by
    by_cases z : d % j = 0
    · by_cases q : rotB (tl (trB r f p) i d) j = true
      · exact absurd ((rot_iff ev d0 (by omega) z).mp q) (lo j j0 jm)
      · simpa using q
    · unfold rotB
      rw [tl_len, decide_eq_false z, Bool.false_and])
  have c3 : cutG ((tl (trB r f p) i d).map PyData.bool) none (some (m : Int)) = (tl (trB r f p) i m).map .bool := by
    rw [cut_to, ← List.map_take, tl_take _ _ m1]
  -- back from i, as long as it goes
  obtain ⟨J, hJ, hstop, hgo⟩ : ∃ J, J ≤ i ∧ (J = i ∨ trB r f p (i - J - 1) ≠ trB r f p (i - J - 1 + m)) ∧ ∀ j, j < J → ¬ (j = i ∨ trB r f p (i - j - 1) ≠ trB r f p (i - j - 1 + m)) := by
    rcases least_or (fun j => j = i ∨ trB r f p (i - j - 1) ≠ trB r f p (i - j - 1 + m)) i with ⟨J, h1, h2, h3⟩ | h
    · exact ⟨J, h1, h2, h3⟩
    · exact absurd (.inl rfl) (h i (Nat.le_refl _))
  have evJ : ∀ j, j ≤ J → EvP (trB r f p) (i - j) m := fun j => by
    induction j with
    | zero => intro _; exact em
    | succ j ih =>
      intro hj
      have ih := ih (by omega)
      have q := hgo j (by omega)
      rw [not_or] at q
      obtain ⟨q1, q2⟩ := q
      have q2 : trB r f p (i - j - 1) = trB r f p (i - j - 1 + m) := by
        by_cases z : trB r f p (i - j - 1) = trB r f p (i - j - 1 + m)
        · exact z
        · exact absurd z q2
      intro n hn
      by_cases z : n = i - j - 1
      · rw [z]; exact q2.symm
      · exact ih n (by omega)
  obtain ⟨M, rfl⟩ : ∃ M, m = M + 1 := ⟨m - 1, by omega⟩
  have test : ∀ (j : Nat), j < i → tuT [some (.dat (tabD N f)), some (.dat (.dict (sdic (plc 0 r)))), some (.dat (prT p)), some (.dat (.list ((tl (trB r f p) 0 (i + d)).map .bool))), some (.dat (bD (tl (trB r f p) (i - j) (M + 1)))), some (.dat (.list ((seqL f p (i + d)).map prT))), some (.dat (.int (i : Int))), some (.dat (bD (tl (trB r f p) 0 (i - j)))), none] h = some (decide (trB r f p (i - j - 1) = trB r f p (i - j + M)), h) := fun j hj => by
    obtain ⟨s, hs'⟩ : ∃ s, i - j = s + 1 := ⟨i - j - 1, by omega⟩
    rw [hs', show s + 1 - 1 = s by omega]
    refine tuT_yes (n := ((s + 1 : Nat) : Int)) (by rw [List.length_map, tl_len]) (decide_eq_true (by omega)) ?_ ?_
    · rw [tl_snocD, Nat.zero_add]; exact atI_neg1 _ _
    · rw [tl_snocD]; exact atI_neg1 _ _
  obtain ⟨ρ', h', e4, rfl, rfl⟩ := whileL_run (t := tuT) (body := tuB) (fun j ρ g => ρ = [some (.dat (tabD N f)), some (.dat (.dict (sdic (plc 0 r)))), some (.dat (prT p)), some (.dat (.list ((tl (trB r f p) 0 (i + d)).map .bool))), some (.dat (bD (tl (trB r f p) (i - j) (M + 1)))), some (.dat (.list ((seqL f p (i + d)).map prT))), some (.dat (.int (i : Int))), some (.dat (bD (tl (trB r f p) 0 (i - j)))), none] ∧ g = h)
    J (n := 0) (fuel := 100000) (ρ := [some (.dat (tabD N f)), some (.dat (.dict (sdic (plc 0 r)))), some (.dat (prT p)), some (.dat (.list ((tl (trB r f p) 0 (i + d)).map .bool))), some (.dat (bD (tl (trB r f p) i (M + 1)))), some (.dat (.list ((seqL f p (i + d)).map prT))), some (.dat (.int (i : Int))), some (.dat (bD (tl (trB r f p) 0 i))), none]) (h := h) (by omega) ⟨rfl, rfl⟩ (by
      rintro j ρ g _ hj ⟨rfl, rfl⟩
      have hj' : j < J := by omega
      have q := hgo j hj'
      rw [not_or] at q
      obtain ⟨q1, q2⟩ := q
      have q3 : trB r f p (i - j - 1) = trB r f p (i - j - 1 + (M + 1)) := by
        by_cases z : trB r f p (i - j - 1) = trB r f p (i - j - 1 + (M + 1))
        · exact z
        · exact absurd z q2
      have ji : j < i := by omega
      obtain ⟨s, hs'⟩ : ∃ s, i - j = s + 1 := ⟨i - j - 1, by omega⟩
      have tt := test j ji
      rw [show i - j + M = i - j - 1 + (M + 1) by omega, decide_eq_true q3] at tt
      refine ⟨_, _, _, tt, ?_, rfl, rfl⟩
      rw [hs', show s + 1 - 1 = s by omega] at q3
      rw [hs', show i - (j + 1) = s by omega]
      refine tuB_run (A1 := [.bool (trB r f p (s + 1 + M))]) (A2 := (tl (trB r f p) (s + 1) M).map .bool) ?_ ?_ (by simp [tl_len]; omega) ?_ ?_
      · rw [cut_lastG, List.length_map, tl_len, tl_snocD, show M + 1 - 1 = M by omega, List.drop_append_of_le_length (by rw [List.length_map, tl_len]; exact Nat.le_refl _), List.drop_eq_nil_of_le (by rw [List.length_map, tl_len]; exact Nat.le_refl _)]; rfl
      · rw [cut_butG, List.length_map, tl_len, tl_snocD, show M + 1 - 1 = M by omega, List.take_append_of_le_length (by rw [List.length_map, tl_len]; exact Nat.le_refl _), List.take_of_length_le (by rw [List.length_map, tl_len]; exact Nat.le_refl _)]
      · rw [tl_cons, List.map_cons, q3, show s + (M + 1) = s + 1 + M by omega]; rfl
      · rw [cut_butG, List.length_map, tl_len, tl_snocD, show s + 1 - 1 = s by omega, List.take_append_of_le_length (by rw [List.length_map, tl_len]; exact Nat.le_refl _), List.take_of_length_le (by rw [List.length_map, tl_len]; exact Nat.le_refl _)]) (by
      rintro ρ g ⟨rfl, rfl⟩
      rw [Nat.zero_add]
      rcases hstop with rfl | hne
      · rw [Nat.sub_self]; exact tuT_no
      · by_cases z : J = i
        · subst z; rw [Nat.sub_self]; exact tuT_no
        · have tt := test J (by omega)
          rw [show i - J + M = i - J - 1 + (M + 1) by omega, decide_eq_false hne] at tt
          exact tt)
  rw [Nat.zero_add] at e4
  have run := tr_run e1 e2 (by rw [List.length_map, tl_len]; omega) c1 c2 e3 c3 e4
  have hM : M + 1 ≤ (prsN N).length := by omega
  refine ⟨i - J, M + 1, least_mk m0 (evJ J (Nat.le_refl _)) (fun d' d0' dm e => lo d' d0' dm (e.mono (by omega))) (fun ha => ?_), by omega, hM, run⟩
  rcases hstop with rfl | hne
  · omega
  · exact hne
end DL
set_option maxRecDepth 100000
set_option maxHeartbeats 400000
namespace DL
open PySem L2
variable [HW]
local macro_rules | `(tactic| walk_at "dl") => `(tactic| simp (config := { dsimp := false }) only [↓fnM_e, ↓sSeq_e, seqK_nx, seqK_rt, seqK_bk, seqK_ct, retK_rt, retK_nx, ↓sFrz_e, frK_some, ↓sAsg, ↓sRet, ↓sRetN, ↓sIf, ↓sExpr, ↓sSkip, ↓sNever, ↓sPar, ↓sFor, ↓sSub, ↓fVar, ↓fC, ↓fNil, ↓fCons, ↓fA, ↓f1, ↓f2, ↓fB, ↓fIf, ↓fNeg, ↓fNot, ↓fAnd, ↓fOr, ↓bNot, ↓bAnd, ↓bOr, ↓bYes, ↓obnd_x, ob_some, ↓sbnd_x, sb_some, ↓ite_x, iteK_t, iteK_f, gN, gT, gC, gE, ↓rng1I, ↓rng2I, ↓seqI, ↓enumA, ↓zipI, ↓strI, ↓fLc, ↓fDc, ↓fM, ↓fSl, ↓oNone, ↓oSome, ↓fRev, wipeE, ↓kwM, permM, permL, List.foldr, List.length_cons, List.length_nil, List.map_cons, List.map_nil, List.cons_append, List.nil_append, List.replicate, List.replicate_succ, List.replicate_zero, List.getElem?_cons_zero, List.getElem?_cons_succ, List.set_cons_zero, List.set_cons_succ, if_true, if_false, reduceIte, Nat.reduceAdd, Nat.reduceSub, Nat.reduceEqDiff, Nat.reduceLT, Nat.reduceLeDiff, Int.reduceLT, Int.reduceLE, Int.reduceNeg, Int.reduceMul, Int.reduceAdd, Int.reduceSub, Int.reduceToNat, Int.reducePow, Int.reduceEq, ok, bok, deref, mkL, lstW, tupW, dats, Option.map_some, appendW, insertW, setL, isL, listW, tupleW, lenW, absW, intC, maxW, minW, idxW, addW, subW_e, modW_e, divW_e, powW_e, mulW, intW, lt_e, gt_e, le_e, ge_e, ltW, allW_e, anyW_e, sumW_e, lW, setW, lstAt, cutW, backW, isW, isiW, iLT_none, iLT_bool, iLT_int, iLT_str, iLT_list, iLT_tup, iL_none, iL_bool, iL_int, iL_str, iL_list, iL_tup, iT_none, iT_bool, iT_int, iT_str, iT_list, iT_tup, iS_none, iS_bool, iS_int, iS_str, iS_list, iS_tup, iI_none, iI_bool, iI_int, iI_str, iI_list, iI_tup, iB_none, iB_bool, iB_int, iB_str, iB_list, iB_tup, Bool.false_eq_true, reduceCtorEq, Bool.not_true, Bool.not_false, decide_true, decide_false, List.zip_cons_cons, List.zip_nil_left, List.foldl_cons, List.foldl_nil, and_self, and_true, true_and, Bool.and_true, Bool.true_and, Bool.or_true, Bool.true_or, *])
local macro_rules | `(tactic| walk_at "tb") => `(tactic| simp (config := { dsimp := false }) only [↓fFld_e, ↓fMeth_e, ↓fMk_e, fld_n, fld_p, met_leads, met_then, met_times, met_made, met_tells, met_names, ↓fnM_e, ↓sSeq_e, seqK_nx, seqK_rt, seqK_bk, seqK_ct, retK_rt, retK_nx, ↓sFrz_e, frK_some, ↓sAsg, ↓sRet, ↓sRetN, ↓sIf, ↓sExpr, ↓sSkip, ↓sNever, ↓sPar, ↓sFor, ↓sSub, ↓fVar, ↓fC, ↓fNil, ↓fCons, ↓fA, ↓f1, ↓f2, ↓fB, ↓fIf, ↓fNeg, ↓fNot, ↓fAnd, ↓fOr, ↓bNot, ↓bAnd, ↓bOr, ↓bYes, ↓obnd_x, ob_some, ↓sbnd_x, sb_some, ↓ite_x, iteK_t, iteK_f, gN, gT, gC, gE, ↓rng1I, ↓rng2I, ↓seqI, ↓enumA, ↓zipI, ↓strI, ↓fLc, ↓fDc, ↓fM, ↓fSl, ↓oNone, ↓oSome, ↓fRev, wipeE, ↓kwM, permM, permL, List.foldr, List.length_cons, List.length_nil, List.map_cons, List.map_nil, List.cons_append, List.nil_append, List.replicate, List.replicate_succ, List.replicate_zero, List.getElem?_cons_zero, List.getElem?_cons_succ, List.set_cons_zero, List.set_cons_succ, if_true, if_false, reduceIte, Nat.reduceAdd, Nat.reduceSub, Nat.reduceEqDiff, Nat.reduceLT, Nat.reduceLeDiff, Int.reduceLT, Int.reduceLE, Int.reduceNeg, Int.reduceMul, Int.reduceAdd, Int.reduceSub, Int.reduceToNat, Int.reducePow, Int.reduceEq, ok, bok, deref, mkL, lstW, tupW, dats, Option.map_some, appendW, insertW, setL, isL, listW, tupleW, lenW, absW, intC, maxW, minW, idxW, addW, subW_e, modW_e, divW_e, powW_e, mulW, intW, lt_e, gt_e, le_e, ge_e, ltW, allW_e, anyW_e, sumW_e, lW, setW, lstAt, cutW, backW, isW, isiW, iLT_none, iLT_bool, iLT_int, iLT_str, iLT_list, iLT_tup, iL_none, iL_bool, iL_int, iL_str, iL_list, iL_tup, iT_none, iT_bool, iT_int, iT_str, iT_list, iT_tup, iS_none, iS_bool, iS_int, iS_str, iS_list, iS_tup, iI_none, iI_bool, iI_int, iI_str, iI_list, iI_tup, iB_none, iB_bool, iB_int, iB_str, iB_list, iB_tup, Bool.false_eq_true, reduceCtorEq, Bool.not_true, Bool.not_false, decide_true, decide_false, List.zip_cons_cons, List.zip_nil_left, List.foldl_cons, List.foldl_nil, and_self, and_true, true_and, Bool.and_true, Bool.true_and, Bool.or_true, Bool.true_or, *])
theorem div_zero {n : Nat} {a : Int} {h : Hh} : m_divisor (n + 1) [.dat (.int a), .dat (.int 0)] h = some (.dat (.int a), h) := by
  have eq := eqW_ints (neg := false) (i := 0) (j := 0) (h := h)
  rw [show decide ((0 : Int) = 0) = true from rfl] at eq
  have lv := fun d : D => leave_same' (h := h) (d := d)
  rw [m_divisor]
  walk_at "dl"
theorem div_step {n : Nat} {a b c : Int} {d : D} {h : Hh} (h0 : 0 < b) (hc : a % b = c) (e : m_divisor n [.dat (.int b), .dat (.int c)] h = some (.dat d, h)) : m_divisor (n + 1) [.dat (.int a), .dat (.int b)] h = some (.dat d, h) := by
  have eq := eqW_ints (neg := false) (i := b) (j := 0) (h := h)
  rw [show decide (b = 0) = false from decide_eq_false (by omega)] at eq
  have lv := fun d : D => leave_same' (h := h) (d := d)
  rw [m_divisor]
  walk_at "dl"
theorem divisor_ok {h : Hh} : ∀ (k : Nat) {a b fu : Nat}, b < 2 ^ k → 2 * k + 1 ≤ fu → m_divisor fu [.dat (.int (a : Int)), .dat (.int (b : Int))] h = some (.dat (.int (Nat.gcd a b : Int)), h)
  | 0, a, b, fu, hb, hf => by
    have : b = 0 := by simpa using hb
    subst this
    obtain ⟨n, rfl⟩ : ∃ n, fu = n + 1 := ⟨fu - 1, by omega⟩
    rw [Nat.gcd_zero_right]
    exact div_zero
  | k + 1, a, b, fu, hb, hf => by
    obtain ⟨n, rfl⟩ : ∃ n, fu = n + 2 := ⟨fu - 2, by omega⟩
    by_cases b0 : b = 0
    · subst b0
      rw [Nat.gcd_zero_right]
      exact div_zero
    · have g1 : Nat.gcd a b = Nat.gcd b (a % b) := by rw [Nat.gcd_comm, Nat.gcd_rec, Nat.gcd_comm]
      refine div_step (n := n + 1) (c := ((a % b : Nat) : Int)) (by omega) (by omega) ?_
      rw [g1]
      by_cases r0 : a % b = 0
      · rw [r0, Nat.gcd_zero_right]
        exact div_zero
      · have g2 : Nat.gcd b (a % b) = Nat.gcd (a % b) (b % (a % b)) := by rw [Nat.gcd_comm, Nat.gcd_rec, Nat.gcd_comm]
        rw [g2]
        have rl : a % b < b := Nat.mod_lt _ (by omega)
        have sl : b % (a % b) < a % b := Nat.mod_lt _ (by omega)
        have dm := Nat.mod_add_div b (a % b)
        have q1 : 1 ≤ b / (a % b) := (Nat.one_le_div_iff (by omega)).mpr (by omega)
        have q2 : a % b ≤ a % b * (b / (a % b)) := Nat.le_mul_of_pos_right _ q1
        refine div_step (n := n) (c := ((b % (a % b) : Nat) : Int)) (by omega) (by omega) ?_
        exact divisor_ok k (by rw [Nat.pow_succ] at hb; omega) (by omega)
noncomputable def crB : SM := (sSeq (sAsg (fA (m_truths_of) (fCons (fVar 3) (fCons (fVar 4) (fCons (fVar 2) (fNil))))) (gT 2 (gC (gN 7) (gC (gN 8) (gE)))))
    (sSeq (sAsg (fA maxW (fCons (fVar 5) (fCons (fA lenW (fCons (fVar 7) (fNil))) (fNil)))) (gN 5))
    (sAsg (f2 divW (f2 (mulW false) (fVar 6) (fA lenW (fCons (fVar 8) (fNil)))) (fA (m_divisor 21) (fCons (fVar 6) (fCons (fA lenW (fCons (fVar 8) (fNil))) (fNil))))) (gN 6))))
theorem crB_run {x y to pl pr : D} {b0 t0 la lb g b1 t1 : Int} {AH TU : List D} {v7 v8 : Option W} {h : Hh} (e1 : m_truths_of [.dat to, .dat pl, .dat pr] h = some (.dat (.tuple [.list AH, .list TU]), h)) (h1 : (AH.length : Int) = la) (h2 : (TU.length : Int) = lb) (k1 : -18446744073709551616 < lb) (k2 : lb < 18446744073709551616)
    (e2 : m_divisor 21 [.dat (.int t0), .dat (.int lb)] h = some (.dat (.int g), h)) (g0 : 0 < g) (g1 : g < 1073741824) (eb : (if la > b0 then la else b0) = b1) (et : t0 * lb / g = t1) :
    crB [some (.dat x), some (.dat y), some (.dat pr), some (.dat to), some (.dat pl), some (.dat (.int b0)), some (.dat (.int t0)), v7, v8] h = some (.nx [some (.dat x), some (.dat y), some (.dat pr), some (.dat to), some (.dat pl), some (.dat (.int b1)), some (.dat (.int t1)), some (.dat (.list AH)), some (.dat (.list TU))], h) := by
  unfold crB
  walk_at "dl"
def capN : Nat := 1024 ^ 900
structure RoundAt (r : List Str) (ws : List (List (Str × Str))) (b t : Nat) : Prop where
  pos : 0 < t
  bnd : b ≤ 900
  fit : t ≤ capN
  iff : ∀ a k, 0 < k → (ledAll r (oft ws (a + k)) = ledAll r (oft ws a) ↔ b ≤ a ∧ t ∣ k)
theorem ledAll_app (r : List Str) (us vs : List (List (Str × Str))) : ledAll r (us ++ vs) = ledAll (ledAll r us) vs := List.foldl_append
theorem led_oft (r : List Str) (ws : List (List (Str × Str))) (m n : Nat) : ledAll r (oft ws (m + n)) = ledAll (ledAll r (oft ws m)) (oft ws n) := by
  rw [oft_add, ledAll_app]
theorem trB_led {r : List Str} {ws : List (List (Str × Str))} (c : Words r ws) {p : Str × Str} (hp : p ∈ prsN r) (n : Nat) : trB r (lastW ws.reverse) p n = decide ((ledAll r (oft ws n)).idxOf p.1 < (ledAll r (oft ws n)).idxOf p.2) := by
  obtain ⟨h1, h2, h3⟩ := prsN_mem.mp hp
  have e := words_ahF (oft_words c n) h1 h2 h3
  rw [← e]
  unfold trB ahF
  rw [lastW_oft]
theorem led_again {r : List Str} {ws : List (List (Str × Str))} (nd : r.Nodup) (c : Words r ws) {a k : Nat} : ledAll r (oft ws (a + k)) = ledAll r (oft ws a) ↔ ∀ p ∈ prsN r, EvP (trB r (lastW ws.reverse) p) a k := by
  constructor
  · intro H p hp n hn
    rw [trB_led c hp, trB_led c hp]
    rw [show n + k = (a + k) + (n - a) by omega, led_oft, H, ← led_oft, show a + (n - a) = n by omega]
  · intro H
    have p1 := ledAll_perm (oft ws (a + k)) r
    have p2 := ledAll_perm (oft ws a) r
    refine row_eq (p2.nodup_iff.mpr nd) (p1.trans p2.symm) fun x y hx hy ne => ?_
    have hp : (x, y) ∈ prsN r := prsN_mem.mpr ⟨p2.mem_iff.mp hx, p2.mem_iff.mp hy, ne⟩
    have e := H (x, y) hp a (Nat.le_refl _)
    rw [trB_led c hp, trB_led c hp, decide_eq_decide] at e
    exact e
theorem cr_loop {N r : List Str} {ws : List (List (Str × Str))} {x y : D} {h : Hh} (hN : N.length ≤ 30) (pr : r.Perm N) (c : Words r ws) :
    ∃ (b t : Nat) (v7 v8 v2 : Option W), forL (gN 2) crB ((prsN r).map prT) [some (.dat x), some (.dat y), none, some (.dat (tabD N (lastW ws.reverse))), some (.dat (.dict (sdic (plc 0 r)))), some (.dat (.int 0)), some (.dat (.int 1)), none, none] h = some (.nx [some (.dat x), some (.dat y), v2, some (.dat (tabD N (lastW ws.reverse))), some (.dat (.dict (sdic (plc 0 r)))), some (.dat (.int (b : Int))), some (.dat (.int (t : Int))), v7, v8], h) ∧
      0 < t ∧ b ≤ 900 ∧ t ≤ capN ∧ ∀ a k, 0 < k → ((∀ p ∈ prsN r, EvP (trB r (lastW ws.reverse) p) a k) ↔ b ≤ a ∧ t ∣ k) := by
  have rl := pr.length_eq
  have L9 : (prsN N).length ≤ 900 := Nat.le_trans (prsN_len N) (Nat.mul_le_mul hN hN)
  have L9r : (prsN r).length ≤ 900 := Nat.le_trans (prsN_len r) (by rw [rl]; exact Nat.mul_le_mul hN hN)
  have cN : Words N ws := c.perm pr
  obtain ⟨ρ', h', e, rfl, b, t, v7, v8, v2, rfl, t0, b9, t9, H⟩ := forL_end (k := gN 2) (body := crB) (fun n ρ g => g = h ∧ ∃ (b t : Nat) (v7 v8 v2 : Option W), ρ = [some (.dat x), some (.dat y), v2, some (.dat (tabD N (lastW ws.reverse))), some (.dat (.dict (sdic (plc 0 r)))), some (.dat (.int (b : Int))), some (.dat (.int (t : Int))), v7, v8] ∧ 0 < t ∧ b ≤ 900 ∧ t ≤ 1024 ^ n ∧ ∀ a k, 0 < k → ((∀ p ∈ (prsN r).take n, EvP (trB r (lastW ws.reverse) p) a k) ↔ b ≤ a ∧ t ∣ k))
    (ds := (prsN r).map prT) (ρ := [some (.dat x), some (.dat y), none, some (.dat (tabD N (lastW ws.reverse))), some (.dat (.dict (sdic (plc 0 r)))), some (.dat (.int 0)), some (.dat (.int 1)), none, none]) (h := h)
    ⟨rfl, 0, 1, none, none, none, rfl, by omega, by omega, by simp, fun a k _ => by simp⟩ (by
      rintro j d ej ρ g ⟨rfl, b, t, v7, v8, v2, rfl, t0, b9, t9, H⟩
      rw [List.getElem?_map] at ej
      obtain ⟨p, ep, rfl⟩ := Option.map_eq_some_iff.mp ej
      have hp : p ∈ prsN r := List.mem_of_getElem? ep
      have hpN : p ∈ prsN N := (prsN_perm pr).mp hp
      obtain ⟨a, m, Le, al, ml, e1⟩ := truths_ok (h := g) (by omega) (on_last cN.rev) pr hpN
      have m0 := Le.pos
      have dv := divisor_ok (h := g) 10 (a := t) (b := m) (fu := 21) (by omega) (by omega)
      have gp : 0 < Nat.gcd t m := Nat.gcd_pos_of_pos_left _ t0
      have gl : Nat.gcd t m ≤ m := Nat.gcd_le_right _ m0
      refine ⟨_, _, _, rfl, crB_run (la := (a : Int)) (lb := (m : Int)) (b1 := ((max b a : Nat) : Int)) (t1 := ((Nat.lcm t m : Nat) : Int)) e1 (by rw [List.length_map, tl_len]) (by rw [List.length_map, tl_len]) (by omega) (by omega) dv (by omega) (by omega) (by split <;> omega) (by rw [← Int.natCast_mul, ← Int.natCast_ediv]; rfl), rfl, max b a, Nat.lcm t m, _, _, _, rfl, Nat.lcm_pos t0 m0, by omega, ?_, fun a2 k hk => ?_⟩
      · have q1 : Nat.lcm t m ≤ t * m := Nat.le_of_dvd (Nat.mul_pos t0 m0) (Nat.lcm_dvd_mul t m)
        refine Nat.le_trans q1 ?_
        rw [Nat.pow_succ]
        exact Nat.mul_le_mul t9 (by omega)
      · rw [take_snoc ep]
        have i1 := H a2 k hk
        have i2 := Le.iff (a2 := a2) hk
        constructor
        · intro q
          obtain ⟨x1, x2⟩ := i1.mp fun p' hp' => q p' (List.mem_append.mpr (.inl hp'))
          obtain ⟨y1, y2⟩ := i2.mp (q p (by simp))
          exact ⟨by omega, Nat.lcm_dvd x2 y2⟩
        · rintro ⟨q1, q2⟩ p' hp'
          rcases List.mem_append.mp hp' with hp' | hp'
          · exact i1.mpr ⟨by omega, Nat.dvd_trans (Nat.dvd_lcm_left t m) q2⟩ p' hp'
          · rw [List.mem_singleton] at hp'
            subst hp'
            exact i2.mpr ⟨by omega, Nat.dvd_trans (Nat.dvd_lcm_right t m) q2⟩)
  rw [List.length_map, List.take_length] at H
  rw [List.length_map] at t9
  refine ⟨b, t, v7, v8, v2, e, t0, b9, Nat.le_trans t9 (Nat.pow_le_pow_right (by omega) L9r), H⟩
theorem comes_ok {T : Nat → Addr} {x y : D} {lb : Bool} {r : List Str} {ws : List (List (Str × Str))} {h : Hh} (hx : IsSeq x (r.map .str)) (hy : IsSeq y (ws.map (cD lb))) (c : Words r ws) (nd : r.Nodup) (hl : r.length ≤ 30) (ht : Txts r) (hw : ws.length ≤ 1000) :
    ∃ b t : Nat, RoundAt r ws b t ∧ m_comes_round T [.dat x, .dat y] h = some (.dat (.tuple [.int (b : Int), .int (t : Int)]), h) := by
  have pS := sortS_perm r
  obtain ⟨b, t, v7, v8, v2, e, t0, b9, t9, H⟩ := cr_loop (x := x) (y := y) (h := h ++ [none]) (N := sortS r) (by rw [pS.length_eq]; exact hl) pS.symm c
  refine ⟨b, t, ⟨t0, b9, t9, fun a k hk => (led_again nd c).trans (H a k hk)⟩, ?_⟩
  have e1 := mk_ok (T := T) (h := h) hx hy c nd (by omega) ht hw
  have e2 := places_ok (h := h ++ [none]) hx nd (by omega)
  have e3 := all_pairs_ok (h := h ++ [none]) hx (by omega)
  have lv : leave false h (.dat (.tuple [.int (b : Int), .int (t : Int)])) (h ++ [none]) = some (.dat (.tuple [.int (b : Int), .int (t : Int)]), h) := by
    have := leave_dat (h := h) (h' := h ++ [none]) (d := .tuple [.int (b : Int), .int (t : Int)]) (by rw [app_take rfl])
    rw [app_take rfl] at this
    exact this
  have c2 : 2 ≤ sizeLine := by decide
  unfold m_comes_round
  unfold crB at e
  clear hx hy c nd hl ht hw pS H t0 b9 t9
  generalize ((b : Nat) : Int) = B at *
  generalize ((t : Nat) : Int) = U at *
  walk_at "tb"
end DL
set_option maxRecDepth 100000
set_option maxHeartbeats 400000
namespace DL
open PySem L2
variable [HW]
local macro_rules | `(tactic| walk_at "tb") => `(tactic| simp (config := { dsimp := false }) only [↓fFld_e, ↓fMeth_e, ↓fMk_e, fld_n, fld_p, met_leads, met_then, met_times, met_made, met_tells, met_names, ↓fnM_e, ↓sSeq_e, seqK_nx, seqK_rt, seqK_bk, seqK_ct, retK_rt, retK_nx, ↓sFrz_e, frK_some, ↓sAsg, ↓sRet, ↓sRetN, ↓sIf, ↓sExpr, ↓sSkip, ↓sNever, ↓sPar, ↓sFor, ↓sSub, ↓fVar, ↓fC, ↓fNil, ↓fCons, ↓fA, ↓f1, ↓f2, ↓fB, ↓fIf, ↓fNeg, ↓fNot, ↓fAnd, ↓fOr, ↓bNot, ↓bAnd, ↓bOr, ↓bYes, ↓obnd_x, ob_some, ↓sbnd_x, sb_some, ↓ite_x, iteK_t, iteK_f, gN, gT, gC, gE, ↓rng1I, ↓rng2I, ↓seqI, ↓enumA, ↓zipI, ↓strI, ↓fLc, ↓fDc, ↓fM, ↓fSl, ↓oNone, ↓oSome, ↓fRev, wipeE, ↓kwM, permM, permL, List.foldr, List.length_cons, List.length_nil, List.map_cons, List.map_nil, List.cons_append, List.nil_append, List.replicate, List.replicate_succ, List.replicate_zero, List.getElem?_cons_zero, List.getElem?_cons_succ, List.set_cons_zero, List.set_cons_succ, if_true, if_false, reduceIte, Nat.reduceAdd, Nat.reduceSub, Nat.reduceEqDiff, Nat.reduceLT, Nat.reduceLeDiff, Int.reduceLT, Int.reduceLE, Int.reduceNeg, Int.reduceMul, Int.reduceAdd, Int.reduceSub, Int.reduceToNat, Int.reducePow, Int.reduceEq, ok, bok, deref, mkL, lstW, tupW, dats, Option.map_some, appendW, insertW, setL, isL, listW, tupleW, lenW, absW, intC, maxW, minW, idxW, addW, subW_e, modW_e, divW_e, powW_e, mulW, intW, lt_e, gt_e, le_e, ge_e, ltW, allW_e, anyW_e, sumW_e, lW, setW, lstAt, cutW, backW, isW, isiW, iLT_none, iLT_bool, iLT_int, iLT_str, iLT_list, iLT_tup, iL_none, iL_bool, iL_int, iL_str, iL_list, iL_tup, iT_none, iT_bool, iT_int, iT_str, iT_list, iT_tup, iS_none, iS_bool, iS_int, iS_str, iS_list, iS_tup, iI_none, iI_bool, iI_int, iI_str, iI_list, iI_tup, iB_none, iB_bool, iB_int, iB_str, iB_list, iB_tup, Bool.false_eq_true, reduceCtorEq, Bool.not_true, Bool.not_false, decide_true, decide_false, List.zip_cons_cons, List.zip_nil_left, List.foldl_cons, List.foldl_nil, and_self, and_true, true_and, Bool.and_true, Bool.true_and, Bool.or_true, Bool.true_or, *])
end DL
set_option maxRecDepth 100000
set_option maxHeartbeats 400000
namespace DL
open PySem L2
variable [HW]
local macro_rules | `(tactic| walk_at "dl") => `(tactic| simp (config := { dsimp := false }) only [↓fnM_e, ↓sSeq_e, seqK_nx, seqK_rt, seqK_bk, seqK_ct, retK_rt, retK_nx, ↓sFrz_e, frK_some, ↓sAsg, ↓sRet, ↓sRetN, ↓sIf, ↓sExpr, ↓sSkip, ↓sNever, ↓sPar, ↓sFor, ↓sSub, ↓fVar, ↓fC, ↓fNil, ↓fCons, ↓fA, ↓f1, ↓f2, ↓fB, ↓fIf, ↓fNeg, ↓fNot, ↓fAnd, ↓fOr, ↓bNot, ↓bAnd, ↓bOr, ↓bYes, ↓obnd_x, ob_some, ↓sbnd_x, sb_some, ↓ite_x, iteK_t, iteK_f, gN, gT, gC, gE, ↓rng1I, ↓rng2I, ↓seqI, ↓enumA, ↓zipI, ↓strI, ↓fLc, ↓fDc, ↓fM, ↓fSl, ↓oNone, ↓oSome, ↓fRev, wipeE, ↓kwM, permM, permL, List.foldr, List.length_cons, List.length_nil, List.map_cons, List.map_nil, List.cons_append, List.nil_append, List.replicate, List.replicate_succ, List.replicate_zero, List.getElem?_cons_zero, List.getElem?_cons_succ, List.set_cons_zero, List.set_cons_succ, if_true, if_false, reduceIte, Nat.reduceAdd, Nat.reduceSub, Nat.reduceEqDiff, Nat.reduceLT, Nat.reduceLeDiff, Int.reduceLT, Int.reduceLE, Int.reduceNeg, Int.reduceMul, Int.reduceAdd, Int.reduceSub, Int.reduceToNat, Int.reducePow, Int.reduceEq, ok, bok, deref, mkL, lstW, tupW, dats, Option.map_some, appendW, insertW, setL, isL, listW, tupleW, lenW, absW, intC, maxW, minW, idxW, addW, subW_e, modW_e, divW_e, powW_e, mulW, intW, lt_e, gt_e, le_e, ge_e, ltW, allW_e, anyW_e, sumW_e, lW, setW, lstAt, cutW, backW, isW, isiW, iLT_none, iLT_bool, iLT_int, iLT_str, iLT_list, iLT_tup, iL_none, iL_bool, iL_int, iL_str, iL_list, iL_tup, iT_none, iT_bool, iT_int, iT_str, iT_list, iT_tup, iS_none, iS_bool, iS_int, iS_str, iS_list, iS_tup, iI_none, iI_bool, iI_int, iI_str, iI_list, iI_tup, iB_none, iB_bool, iB_int, iB_str, iB_list, iB_tup, Bool.false_eq_true, reduceCtorEq, Bool.not_true, Bool.not_false, decide_true, decide_false, List.zip_cons_cons, List.zip_nil_left, List.foldl_cons, List.foldl_nil, and_self, and_true, true_and, Bool.and_true, Bool.true_and, Bool.or_true, Bool.true_or, *])
theorem ledW_ok {x y : D} {r : List Str} {ws : List (List (Str × Str))} {h : Hh} (hx : IsSeq x (r.map .str)) (hy : IsSeq y (ws.map cT)) (c : Words r ws) (nd : r.Nodup) (hp : 0 < r.length) (hr : r.length ≤ 1000) (he : ws = [] → x = rowT r) : m__law_ledW [.dat x, .dat y] h = some (.dat (rowT (ledAll r ws)), h) := by
  have hz : sizeLine = 16777216 := rfl
  have key := forL_end (k := gN 2) (body := sAsg (fA (m__law_called) (fCons (fVar 0) (fCons (fVar 2) (fNil)))) (gN 0))
    (fun n ρ g => g = h ∧ ∃ (v : Option W) (z : D), ρ = [some (.dat z), some (.dat y), v] ∧ IsSeq z ((ledAll r (ws.take n)).map .str) ∧ (0 < n → z = rowT (ledAll r (ws.take n))) ∧ (n = 0 → z = x)) (ds := ws.map cT) (ρ := [some (.dat x), some (.dat y), none]) (h := h) ⟨rfl, none, x, rfl, hx, fun z => absurd z (Nat.lt_irrefl _), fun _ => rfl⟩ (by
      rintro j d ej ρ g ⟨rfl, v, z, rfl, hz', _, _⟩
      rw [List.getElem?_map] at ej
      obtain ⟨ps, ep, rfl⟩ := Option.map_eq_some_iff.mp ej
      have pm := ledAll_perm (ws.take j) r
      have hc : CallOf (ledAll r (ws.take j)) ps := (c ps (List.mem_of_getElem? ep)).of_perm pm.symm
      have e1 := own_called_ok (h := g) hz' hc (pm.nodup_iff.mpr nd) (by rw [pm.length_eq]; exact hp) (by rw [pm.length_eq]; exact hr)
      have e2 : ledAll r (ws.take (j + 1)) = led (ledAll r (ws.take j)) ps := by
        unfold ledAll
        rw [take_snoc ep, List.foldl_append]; rfl
      refine ⟨_, [some (.dat (rowT (led (ledAll r (ws.take j)) ps))), some (.dat y), some (.dat (cT ps))], g, rfl, ?_, rfl, some (.dat (cT ps)), rowT (led (ledAll r (ws.take j)) ps), rfl, by rw [e2]; exact .inr rfl, fun _ => by rw [e2], fun q => absurd q (Nat.succ_ne_zero _)⟩
      clear hx hy c nd hp hr hz ej ep hz' hc pm e2 he
      walk_at "dl")
  obtain ⟨ρ', h', e, rfl, v, z, rfl, hz', q1, q2⟩ := key
  rw [List.length_map] at q1 q2 hz'
  rw [List.take_length] at hz' q1
  have zr : z = rowT (ledAll r ws) := by
    by_cases w : 0 < ws.length
    · exact q1 w
    · have w0 : ws = [] := List.length_eq_zero_iff.mp (by omega)
      rw [q2 (by omega), he w0, w0]; rfl
  subst zr
  have lv := leave_same' (h := h') (d := rowT (ledAll r ws))
  unfold m__law_ledW
  clear hx c nd hp hr hz q1 q2 hz' he
  rcases hy with rfl | rfl <;> walk_at "dl"
theorem fnM_rt {rm : Bool} {np nl : Nat} {body : SM} {ws : List W} {h h' : Hh} {w : W} {r : Option (W × Hh)} (hb : body (ws.map some ++ List.replicate (nl - np) none) h = some (.rt w, h')) (e : ws.length = np) (lv : leave rm h w h' = r) : fnM rm np nl body ws h = r := by
  rw [fnM_e _ _ _ _ _ _ e, hb, retK_rt, lv]
section
variable {h : Hh}
theorem mod_i {i j : Int} (h0 : 0 < j) : modW (.dat (.int i)) (.dat (.int j)) h = some (.dat (.int (i % j)), h) := by
  unfold modW intW
  simp only [deref, decide_eq_true h0, if_true]
  rfl
theorem div_i {i j : Int} (h0 : 0 < j) (h1 : j < 1073741824) : divW (.dat (.int i)) (.dat (.int j)) h = some (.dat (.int (i / j)), h) := by
  have c : decide (0 < j ∧ j < 1073741824) = true := decide_eq_true ⟨h0, h1⟩
  unfold divW intW
  simp only [deref, c, if_true]
  rfl
theorem add_i {i j : Int} : addW false (.dat (.int i)) (.dat (.int j)) h = some (.dat (.int (i + j)), h) := rfl
theorem sub_i {i j : Int} : subW (.dat (.int i)) (.dat (.int j)) h = some (.dat (.int (i - j)), h) := by
  unfold subW intW
  simp only [deref, if_true]
  rfl
theorem xB {E : EM} {ρ : DL.Env} {b : Bool} (e : E ρ h = some (.dat (.bool b), h)) : fB E ρ h = some (b, h) := by
  unfold fB
  simp only [e, obnd]
theorem eq_i {i j : Int} {b : Bool} (hb : decide (i = j) = b) : eqW false (.dat (.int i)) (.dat (.int j)) h = some (.dat (.bool b), h) := by
  rw [eqW_ints, if_neg (by simp), hb]; rfl
end
abbrev zz : Str := "zz"
theorem zz_ok : NameOk zz := ⟨by decide, by decide, by decide⟩
theorem zz_out {i : Nat} {s : Str} (hi : i < 24) (h : NameAt i s) : s ≠ zz := fun z => by
  subst z
  have := h.2.1
  have e : zz.cps.toList.getLast? = some 122 := rfl
  rw [e] at this
  have := Option.some.inj this
  omega
theorem zz_more {n : Nat} {l : List Str} (fk : Folk n l) (hz : ∀ s ∈ l, ∃ i, i < 24 ∧ NameAt i s) : Folk (n + 1) (sortS (l ++ [zz])) ∧ 2 ≤ (sortS (l ++ [zz])).length ∧ zz ∉ l := by
  have nz : zz ∉ l := fun h => by
    obtain ⟨i, hi, na⟩ := hz zz h
    exact zz_out hi na rfl
  have f : Folk (n + 1) (l ++ [zz]) := ⟨by
    rw [List.nodup_append]
    refine ⟨fk.nd, by simp, fun a ha b hb e => ?_⟩
    rw [List.mem_singleton] at hb
    subst hb; subst e
    exact nz ha, by simp, by have := fk.le; simp; omega, fun s hs => by
    rcases List.mem_append.mp hs with hs | hs
    · exact fk.nam s hs
    · rw [List.mem_singleton] at hs; subst hs; exact zz_ok⟩
  have p := sortS_perm (l ++ [zz])
  have := fk.pos
  exact ⟨f.perm p, by rw [p.length_eq]; simp; omega, nz⟩
theorem calls_lcG {l : List Str} {ρ : DL.Env} {i b c n : Nat} {x : D} {h : Hh} (hx : IsSeq x (l.map .str)) (hρ : ∀ (d : D) (g : Hh), ∃ ρ1, gN i (.dat d) ρ g = some ρ1 ∧ (fCons (fVar 0) (fCons (fVar 1) (fNil))) ρ1 g = some ([.ref b, .dat x], g)) (hn : n ≤ 60) (hb : BoxAt h b c) (hc : c < 100000) (h0 : 0 < l.length) (h1 : l.length ≤ 30) :
    ∃ (ws : List (List (Str × Str))) (h' : Hh), lcL (gN i) bYes (fA (m__law_callG) (fCons (fVar 0) (fCons (fVar 1) (fNil)))) ρ (rngD 0 n) h = some (ws.map cT, h') ∧ Words l ws ∧ ws.length = n ∧ BoxAt h' b (c + n * 94) ∧ Only b h h' := by
  obtain ⟨cs, g2, e2, hl, hr, b2, o2⟩ := lcL_inv (k := gN i) (f := fA (m__law_callG) (fCons (fVar 0) (fCons (fVar 1) (fNil)))) (ρ := ρ)
    (fun k g => BoxAt g b (c + k * 94) ∧ Only b h g) (fun _ d => ∃ ps, d = cT ps ∧ CallOf l ps) (ds := rngD 0 n) (n := 0) (h := h) ⟨by rw [Nat.zero_mul]; exact hb, Only.refl b h⟩ (by
      intro j d ej g hi
      obtain ⟨bx, on⟩ := hi
      rw [Nat.zero_add] at bx ⊢
      have hj := (rng_get ej).1
      obtain ⟨ps, g', e3, pf, pt, b3, o3⟩ := call2_okG hx bx (by omega) h0 (by omega)
      obtain ⟨ρ1, q1, q2⟩ := hρ d g
      exact ⟨ρ1, cT ps, g', q1, xA q2 e3, ⟨ps, rfl, by rw [pf], pt⟩, b3.mono (by omega), on.trans o3⟩)
  rw [rng_len] at hl
  rw [rng_len, Nat.zero_add] at b2
  obtain ⟨ws, rfl, cw⟩ := words_all (l := l) (cs := cs) fun d hd => by
    obtain ⟨j, hj⟩ := List.getElem?_of_mem hd
    obtain ⟨ps, e, c5⟩ := hr j d hj
    exact ⟨ps, e, c5⟩
  rw [List.length_map] at hl
  exact ⟨ws, g2, e2, cw, hl, b2, o2⟩
end DL
set_option maxRecDepth 100000
set_option maxHeartbeats 400000
namespace DL
open PySem L2
variable [HW]
structure Grow (b : Nat) (h h' : Hh) : Prop where
  le : h.length ≤ h'.length
  off : ∀ i : Nat, i < h.length → i ≠ b → h'[i]? = h[i]?
theorem Grow.only {b : Nat} {h h' : Hh} (o : Only b h h') : Grow b h h' := ⟨by rw [o.len]; exact Nat.le_refl _, fun i _ n => o.off i n⟩
theorem Grow.app {b : Nat} {h l : Hh} : Grow b h (h ++ l) := ⟨by rw [List.length_append]; omega, fun i hi _ => List.getElem?_append_left hi⟩
theorem Grow.trans {b : Nat} {h h1 h2 : Hh} (x : Grow b h h1) (y : Grow b h1 h2) : Grow b h h2 := ⟨Nat.le_trans x.le y.le, fun i hi n => (y.off i (Nat.lt_of_lt_of_le hi x.le) n).trans (x.off i hi n)⟩
theorem Grow.fin {b c c' : Nat} {h h' : Hh} (x : Grow b h h') (hb : BoxAt h b c) (y : BoxAt h' b c') : (∀ d : D, leave false h (.dat d) h' = some (.dat d, h'.take h.length)) ∧ BoxAt (h'.take h.length) b c' ∧ Only b h (h'.take h.length) := by
  have hl : (h'.take h.length).length = h.length := by rw [List.length_take]; have := x.le; omega
  have o : Only b h (h'.take h.length) := ⟨hl, fun i n => by
    by_cases q : i < h.length
    · rw [List.getElem?_take_of_lt q]; exact x.off i q n
    · rw [List.getElem?_eq_none (by omega), List.getElem?_eq_none (by omega)]⟩
  have bx := box_take y hb.lt
  exact ⟨fun d => leave_dat (live_only hb bx o), bx, o⟩
theorem Pre.grow {h0 h h' : Hh} {b : Nat} (p : Pre h0 h) (hb : h0.length ≤ b) (hl : h0.length ≤ h.length) (x : Grow b h h') : Pre h0 h' := fun i hi => (x.off i (by omega) (by omega)).trans (p i hi)
theorem oft_one (ws : List (List (Str × Str))) : oft ws 1 = ws := List.append_nil ws
theorem sq_cT (us : List (List (Str × Str))) : IsSeq (PyData.list (us.map cT)) (us.map (cD false)) := .inl (by rw [cD_false])
end DL
set_option maxRecDepth 100000
set_option maxHeartbeats 400000
namespace DL
open PySem L2
variable [HW]
local macro_rules | `(tactic| walk_at "dl") => `(tactic| simp (config := { dsimp := false }) only [↓fnM_e, ↓sSeq_e, seqK_nx, seqK_rt, seqK_bk, seqK_ct, retK_rt, retK_nx, ↓sFrz_e, frK_some, ↓sAsg, ↓sRet, ↓sRetN, ↓sIf, ↓sExpr, ↓sSkip, ↓sNever, ↓sPar, ↓sFor, ↓sSub, ↓fVar, ↓fC, ↓fNil, ↓fCons, ↓fA, ↓f1, ↓f2, ↓fB, ↓fIf, ↓fNeg, ↓fNot, ↓fAnd, ↓fOr, ↓bNot, ↓bAnd, ↓bOr, ↓bYes, ↓obnd_x, ob_some, ↓sbnd_x, sb_some, ↓ite_x, iteK_t, iteK_f, gN, gT, gC, gE, ↓rng1I, ↓rng2I, ↓seqI, ↓enumA, ↓zipI, ↓strI, ↓fLc, ↓fDc, ↓fM, ↓fSl, ↓oNone, ↓oSome, ↓fRev, wipeE, ↓kwM, permM, permL, List.foldr, List.length_cons, List.length_nil, List.map_cons, List.map_nil, List.cons_append, List.nil_append, List.replicate, List.replicate_succ, List.replicate_zero, List.getElem?_cons_zero, List.getElem?_cons_succ, List.set_cons_zero, List.set_cons_succ, if_true, if_false, reduceIte, Nat.reduceAdd, Nat.reduceSub, Nat.reduceEqDiff, Nat.reduceLT, Nat.reduceLeDiff, Int.reduceLT, Int.reduceLE, Int.reduceNeg, Int.reduceMul, Int.reduceAdd, Int.reduceSub, Int.reduceToNat, Int.reducePow, Int.reduceEq, ok, bok, deref, mkL, lstW, tupW, dats, Option.map_some, appendW, insertW, setL, isL, listW, tupleW, lenW, absW, intC, maxW, minW, idxW, addW, subW_e, modW_e, divW_e, powW_e, mulW, intW, lt_e, gt_e, le_e, ge_e, ltW, allW_e, anyW_e, sumW_e, lW, setW, lstAt, cutW, backW, isW, isiW, iLT_none, iLT_bool, iLT_int, iLT_str, iLT_list, iLT_tup, iL_none, iL_bool, iL_int, iL_str, iL_list, iL_tup, iT_none, iT_bool, iT_int, iT_str, iT_list, iT_tup, iS_none, iS_bool, iS_int, iS_str, iS_list, iS_tup, iI_none, iI_bool, iI_int, iI_str, iI_list, iI_tup, iB_none, iB_bool, iB_int, iB_str, iB_list, iB_tup, Bool.false_eq_true, reduceCtorEq, Bool.not_true, Bool.not_false, decide_true, decide_false, List.zip_cons_cons, List.zip_nil_left, List.foldl_cons, List.foldl_nil, and_self, and_true, true_and, Bool.and_true, Bool.true_and, Bool.or_true, Bool.true_or, *])
local macro_rules | `(tactic| walk_at "tb") => `(tactic| simp (config := { dsimp := false }) only [↓fFld_e, ↓fMeth_e, ↓fMk_e, fld_n, fld_p, met_leads, met_then, met_times, met_made, met_tells, met_names, ↓fnM_e, ↓sSeq_e, seqK_nx, seqK_rt, seqK_bk, seqK_ct, retK_rt, retK_nx, ↓sFrz_e, frK_some, ↓sAsg, ↓sRet, ↓sRetN, ↓sIf, ↓sExpr, ↓sSkip, ↓sNever, ↓sPar, ↓sFor, ↓sSub, ↓fVar, ↓fC, ↓fNil, ↓fCons, ↓fA, ↓f1, ↓f2, ↓fB, ↓fIf, ↓fNeg, ↓fNot, ↓fAnd, ↓fOr, ↓bNot, ↓bAnd, ↓bOr, ↓bYes, ↓obnd_x, ob_some, ↓sbnd_x, sb_some, ↓ite_x, iteK_t, iteK_f, gN, gT, gC, gE, ↓rng1I, ↓rng2I, ↓seqI, ↓enumA, ↓zipI, ↓strI, ↓fLc, ↓fDc, ↓fM, ↓fSl, ↓oNone, ↓oSome, ↓fRev, wipeE, ↓kwM, permM, permL, List.foldr, List.length_cons, List.length_nil, List.map_cons, List.map_nil, List.cons_append, List.nil_append, List.replicate, List.replicate_succ, List.replicate_zero, List.getElem?_cons_zero, List.getElem?_cons_succ, List.set_cons_zero, List.set_cons_succ, if_true, if_false, reduceIte, Nat.reduceAdd, Nat.reduceSub, Nat.reduceEqDiff, Nat.reduceLT, Nat.reduceLeDiff, Int.reduceLT, Int.reduceLE, Int.reduceNeg, Int.reduceMul, Int.reduceAdd, Int.reduceSub, Int.reduceToNat, Int.reducePow, Int.reduceEq, ok, bok, deref, mkL, lstW, tupW, dats, Option.map_some, appendW, insertW, setL, isL, listW, tupleW, lenW, absW, intC, maxW, minW, idxW, addW, subW_e, modW_e, divW_e, powW_e, mulW, intW, lt_e, gt_e, le_e, ge_e, ltW, allW_e, anyW_e, sumW_e, lW, setW, lstAt, cutW, backW, isW, isiW, iLT_none, iLT_bool, iLT_int, iLT_str, iLT_list, iLT_tup, iL_none, iL_bool, iL_int, iL_str, iL_list, iL_tup, iT_none, iT_bool, iT_int, iT_str, iT_list, iT_tup, iS_none, iS_bool, iS_int, iS_str, iS_list, iS_tup, iI_none, iI_bool, iI_int, iI_str, iI_list, iI_tup, iB_none, iB_bool, iB_int, iB_str, iB_list, iB_tup, Bool.false_eq_true, reduceCtorEq, Bool.not_true, Bool.not_false, decide_true, decide_false, List.zip_cons_cons, List.zip_nil_left, List.foldl_cons, List.foldl_nil, and_self, and_true, true_and, Bool.and_true, Bool.true_and, Bool.or_true, Bool.true_or, *])
def chg (t : Nat → Bool) (a : Nat) : Nat → Nat
  | 0 => 0
  | n + 1 => chg t a n + if t (a + n) = t (a + n + 1) then 0 else 1
theorem chg_add (t : Nat → Bool) (a m : Nat) : ∀ n, chg t a (m + n) = chg t a m + chg t (a + m) n
  | 0 => rfl
  | n + 1 => by
    show chg t a (m + n) + (if t (a + (m + n)) = t (a + (m + n) + 1) then 0 else 1) = chg t a m + (chg t (a + m) n + if t (a + m + n) = t (a + m + n + 1) then 0 else 1)
    rw [chg_add t a m n, ← Nat.add_assoc a m n, Nat.add_assoc]
theorem chg_shift {t u : Nat → Bool} {a b : Nat} : ∀ {n : Nat}, (∀ j, j ≤ n → t (a + j) = u (b + j)) → chg t a n = chg u b n
  | 0, _ => rfl
  | n + 1, h => by
    show chg t a n + _ = chg u b n + _
    rw [chg_shift fun j hj => h j (by omega), h n (by omega), show a + n + 1 = a + (n + 1) by omega, show b + n + 1 = b + (n + 1) by omega, h (n + 1) (Nat.le_refl _)]
theorem chg_rounds {t : Nat → Bool} {a m : Nat} (ev : EvP t a m) : ∀ k : Nat, chg t a (m * k) = k * chg t a m
  | 0 => by simp [chg]
  | k + 1 => by
    rw [Nat.mul_succ, chg_add, chg_rounds ev k, Nat.succ_mul]
    congr 1
    exact chg_shift fun j _ => by
      rw [show a + m * k + j = a + j + m * k by omega]
      exact ev.mul k (a + j) (by omega)
theorem chg_all {t : Nat → Bool} {a m n : Nat} (ev : EvP t a m) (m0 : 0 < m) (h : a ≤ n) : chg t 0 n = chg t 0 a + (n - a) / m * chg t a m + chg t a ((n - a) % m) := by
  have dm := Nat.div_add_mod (n - a) m
  have e1 : n = a + (m * ((n - a) / m) + (n - a) % m) := by omega
  have e2 : chg t (a + m * ((n - a) / m)) ((n - a) % m) = chg t a ((n - a) % m) := chg_shift fun j _ => by
    rw [show a + m * ((n - a) / m) + j = a + j + m * ((n - a) / m) by omega]
    exact ev.mul _ (a + j) (by omega)
  conv => lhs; rw [e1]
  rw [chg_add, Nat.zero_add, chg_add, chg_rounds ev, e2]
  omega
theorem chg_le (t : Nat → Bool) (a : Nat) : ∀ n, chg t a n ≤ n
  | 0 => Nat.le_refl _
  | n + 1 => by
    have := chg_le t a n
    show chg t a n + _ ≤ n + 1
    split <;> omega
theorem chg_filter (t : Nat → Bool) (a : Nat) : ∀ n, ((List.range n).filter fun i => !decide (t (a + i) = t (a + i + 1))).length = chg t a n
  | 0 => rfl
  | n + 1 => by
    rw [List.range_succ, List.filter_append, List.length_append, chg_filter t a n]
    show _ = chg t a n + _
    congr 1
    by_cases h : t (a + n) = t (a + n + 1)
    · simp [h]
    · simp [h]
theorem zipD_one {α : Type} (f g : α → D) : ∀ l : List α, zipD (l.map f) (l.map g) = l.map fun a => PyData.tuple [f a, g a]
  | [] => rfl
  | a :: l => by rw [List.map_cons, List.map_cons, List.map_cons, zipD, zipD_one f g l]
theorem zip_tl (t : Nat → Bool) (a n : Nat) : zipD ((tl t a n).map PyData.bool) ((tl t (a + 1) n).map PyData.bool) = (List.range n).map fun i => PyData.tuple [.bool (t (a + i)), .bool (t (a + i + 1))] := by
  unfold tl
  rw [List.map_map, List.map_map, zipD_one]
  apply List.map_congr_left
  intro i _
  show PyData.tuple [.bool (t (a + i)), .bool (t (a + 1 + i))] = _
  rw [show a + 1 + i = a + i + 1 by omega]
theorem zipOk_bools (l : List Bool) (ys : List D) : zipOk (l.map .bool) ys = true := zipOk_fst _ _ (fun d hd a b e => by
  obtain ⟨x, _, rfl⟩ := List.mem_map.mp hd
  cases e) fun d hd a e => by
  obtain ⟨x, _, rfl⟩ := List.mem_map.mp hd
  cases e
theorem chI_run {BS A C Z R : List D} {n k : Int} {h : Hh} (c1 : cutG BS none (some n) = A) (c2 : cutG BS (some 1) (some (n + 1)) = C) (zo : zipOk A C = true) (ez : zipD A C = Z) (e : lcL (gT 2 (gC (gN 2) (gC (gN 3) (gE)))) (fB (f2 (eqW true) (fVar 2) (fVar 3))) (fVar 2) [some (.dat (.list BS)), some (.dat (.int n)), none, none] Z h = some (R, h)) (l1 : R.length ≤ sizeLine) (hk : (R.length : Int) = k) :
    m_changed_in [.dat (.list BS), .dat (.int n)] h = some (.dat (.int k), h) := by
  have lv := leave_same' (h := h) (d := .int k)
  unfold m_changed_in
  walk_at "dl"
def chP : D → Bool
  | .tuple [.bool x, .bool y] => !decide (x = y)
  | _ => false
def chF : D → D
  | .tuple [x, _] => x
  | _ => .none
theorem changed_ok {t : Nat → Bool} {a n L : Nat} {h : Hh} (hn : n + 1 ≤ L) (hL : L ≤ 100000) : m_changed_in [.dat (bD (tl t a L)), .dat (.int (n : Int))] h = some (.dat (.int (chg t a n : Nat)), h) := by
  have hz : sizeLine = 16777216 := rfl
  have c1 : cutG ((tl t a L).map PyData.bool) none (some (n : Int)) = (tl t a n).map .bool := by rw [cut_to, ← List.map_take, tl_take _ _ (by omega)]
  have c2 : cutG ((tl t a L).map PyData.bool) (some 1) (some ((n : Int) + 1)) = (tl t (a + 1) n).map .bool := by
    have := cut_ab ((tl t a L).map PyData.bool) (a := 1) (b := n + 1) (by omega)
    rw [show ((n + 1 : Nat) : Int) = (n : Int) + 1 by omega] at this
    rw [show ((1 : Nat) : Int) = 1 from rfl] at this
    rw [this, ← List.map_drop, ← List.map_take, tl_drop _ _ (by omega), tl_take _ _ (by omega), show n + 1 - 1 = n by omega]
  have e := lcL_map (k := gT 2 (gC (gN 2) (gC (gN 3) (gE)))) (t := fB (f2 (eqW true) (fVar 2) (fVar 3))) (f := fVar 2) (ρ := [some (.dat (bD (tl t a L))), some (.dat (.int (n : Int))), none, none]) (h := h) chP chF (ds := (List.range n).map fun i => PyData.tuple [.bool (t (a + i)), .bool (t (a + i + 1))]) (by
    intro d hd
    obtain ⟨i, _, rfl⟩ := List.mem_map.mp hd
    refine ⟨[some (.dat (bD (tl t a L))), some (.dat (.int (n : Int))), some (.dat (.bool (t (a + i)))), some (.dat (.bool (t (a + i + 1))))], rfl, ?_, fun _ => rfl⟩
    refine xB (x2 rfl rfl ?_)
    unfold eqW
    simp only [deref, eqS, if_true]
    rfl)
  have el : ((((List.range n).map fun i => PyData.tuple [.bool (t (a + i)), .bool (t (a + i + 1))]).filter chP).map chF).length = chg t a n := by
    rw [List.length_map, List.filter_map, List.length_map, ← chg_filter t a n]
    rfl
  have cl := chg_le t a n
  exact chI_run c1 c2 (zipOk_bools _ _) (zip_tl t a n) e (by rw [el]; omega) (by rw [el])
theorem chs_run {T : Nat → Addr} {x y : D} {NM PT PL : D} {a e : Str} {many la lb d rm k0 k1 k2 k3 : Int} {AH TU B1 B2 T1 : List D} {h h1 : Hh} {z : Bool}
    (mk : mkT (T 7) (m_Table___init__ T) [.dat x, .dat y] h = some (.ins (T 7) [("own_names", NM), ("own_pairs", PT)], h1)) (pl : m_places_of [.dat x] h1 = some (.dat PL, h1)) (tr : m_truths_of [.dat PT, .dat PL, .dat (.tuple [.str a, .str e])] h1 = some (.dat (.tuple [.list AH, .list TU]), h1)) (ha : (AH.length : Int) = la) (hb : (TU.length : Int) = lb) (hz : decide (many ≤ la) = z)
    (ct : cutG TU none (some 1) = T1) (l1 : AH.length + T1.length ≤ sizeLine) (x1 : AH ++ T1 = B1) (l2 : TU.length + T1.length ≤ sizeLine) (xb2 : TU ++ T1 = B2) (hk : z = true → m_changed_in [.dat (.list B1), .dat (.int many)] h1 = some (.dat (.int k0), h1))
    (hl : z = false → 0 < lb ∧ lb < 1073741824 ∧ (many - la) / lb = d ∧ (many - la) % lb = rm ∧ m_changed_in [.dat (.list B1), .dat (.int la)] h1 = some (.dat (.int k1), h1) ∧ m_changed_in [.dat (.list B2), .dat (.int lb)] h1 = some (.dat (.int k2), h1) ∧ m_changed_in [.dat (.list B2), .dat (.int rm)] h1 = some (.dat (.int k3), h1) ∧ -18446744073709551616 < k2 ∧ k2 < 18446744073709551616 ∧ k1 + d * k2 + k3 = k0) :
    m_changes T [.dat x, .dat y, .dat (.str a), .dat (.str e), .dat (.int many)] h = leave false h (.dat (.int k0)) h1 := by
  have c2 : 2 ≤ sizeLine := by decide
  cases z with
  | true =>
    have hk := hk rfl
    clear hl
    unfold m_changes
    walk_at "tb"
  | false =>
    obtain ⟨p1, p2, p3, p4, p5, p6, p7, p8, p9, p10⟩ := hl rfl
    have dm : dmW [.dat (.int (many - la)), .dat (.int lb)] h1 = some (.dat (.tuple [.int d, .int rm]), h1) := by
      unfold dmW
      simp only [p1, p2, and_self, if_true, p3, p4]
    clear hk hl p3 p4 p1 p2
    unfold m_changes
    walk_at "tb"
theorem changes_ok {T : Nat → Addr} {x y : D} {lb : Bool} {r : List Str} {ws : List (List (Str × Str))} {a e : Str} {many : Nat} {h : Hh} (hx : IsSeq x (r.map .str)) (hy : IsSeq y (ws.map (cD lb))) (c : Words r ws) (nd : r.Nodup) (hl : r.length ≤ 100) (ht : Txts r) (hw : ws.length ≤ 1000) (ha : a ∈ r) (he : e ∈ r) (ne : a ≠ e) :
    m_changes T [.dat x, .dat y, .dat (.str a), .dat (.str e), .dat (.int (many : Int))] h = some (.dat (.int (chg (trB r (lastW ws.reverse) (a, e)) 0 many : Nat)), h) := by
  have hz : sizeLine = 16777216 := rfl
  have pS := sortS_perm r
  have lN : (sortS r).length ≤ 100 := by rw [pS.length_eq]; exact hl
  have cN : Words (sortS r) ws := c.perm pS.symm
  have mk := mk_ok (T := T) (h := h) hx hy c nd hl ht hw
  have pl := places_ok (h := h ++ [none]) hx nd (by omega)
  obtain ⟨A, m, Le, al, ml, tr⟩ := truths_ok (h := h ++ [none]) lN (on_last cN.rev) pS.symm (p := (a, e)) (prsN_mem.mpr ⟨pS.mem_iff.mpr ha, pS.mem_iff.mpr he, ne⟩)
  have sm := prsN_small lN
  have m0 := Le.pos
  have ct : cutG ((tl (trB r (lastW ws.reverse) (a, e)) A m).map PyData.bool) none (some 1) = (tl (trB r (lastW ws.reverse) (a, e)) A 1).map .bool := by
    have := cut_to ((tl (trB r (lastW ws.reverse) (a, e)) A m).map PyData.bool) (k := 1)
    rw [show ((1 : Nat) : Int) = 1 from rfl] at this
    rw [this, ← List.map_take, tl_take _ _ m0]
  have x1 : (tl (trB r (lastW ws.reverse) (a, e)) 0 A).map PyData.bool ++ (tl (trB r (lastW ws.reverse) (a, e)) A 1).map .bool = (tl (trB r (lastW ws.reverse) (a, e)) 0 (A + 1)).map .bool := by
    rw [← List.map_append, tl_add, Nat.zero_add]
  have xb : (tl (trB r (lastW ws.reverse) (a, e)) A m).map PyData.bool ++ (tl (trB r (lastW ws.reverse) (a, e)) A 1).map .bool = (tl (trB r (lastW ws.reverse) (a, e)) A (m + 1)).map .bool := by
    rw [← List.map_append, tl_add]
    congr 2
    exact tl_eq.mpr fun j hj => by
      rw [show A + m + j = A + j + m by omega]
      exact (Le.ev (A + j) (by omega)).symm
  have lv : leave false h (.dat (.int (chg (trB r (lastW ws.reverse) (a, e)) 0 many : Nat))) (h ++ [none]) = some (.dat (.int (chg (trB r (lastW ws.reverse) (a, e)) 0 many : Nat)), h) := by
    have := leave_dat (h := h) (h' := h ++ [none]) (d := .int (chg (trB r (lastW ws.reverse) (a, e)) 0 many : Nat)) (by rw [app_take rfl])
    rw [app_take rfl] at this
    exact this
  have run := chs_run (T := T) (many := (many : Int)) (la := (A : Int)) (lb := (m : Int)) (z := decide ((many : Int) ≤ (A : Int))) (d := (((many - A) / m : Nat) : Int)) (rm := (((many - A) % m : Nat) : Int)) (k0 := ((chg (trB r (lastW ws.reverse) (a, e)) 0 many : Nat) : Int)) (k1 := ((chg (trB r (lastW ws.reverse) (a, e)) 0 A : Nat) : Int)) (k2 := ((chg (trB r (lastW ws.reverse) (a, e)) A m : Nat) : Int)) (k3 := ((chg (trB r (lastW ws.reverse) (a, e)) A ((many - A) % m) : Nat) : Int))
    mk pl tr (by rw [List.length_map, tl_len]) (by rw [List.length_map, tl_len]) rfl ct (by rw [List.length_map, List.length_map, tl_len, tl_len]; omega) x1 (by rw [List.length_map, List.length_map, tl_len, tl_len]; omega) xb
    (fun hz => by
      have hz := of_decide_eq_true hz
      exact changed_ok (by omega) (by omega))
    (fun hz => by
      have hz := of_decide_eq_false hz
      have hm : A ≤ many := by omega
      have n1 : (0 : Int) < (m : Int) := by omega
      have sb : (many : Int) - (A : Int) = ((many - A : Nat) : Int) := by omega
      have rl := Nat.mod_lt (many - A) m0
      have cl := chg_le (trB r (lastW ws.reverse) (a, e)) A m
      refine ⟨n1, by omega, by rw [sb, ← Int.natCast_ediv], by rw [sb, ← Int.natCast_emod], changed_ok (by omega) (by omega), changed_ok (by omega) (by omega), changed_ok (by omega) (by omega), by omega, by omega, ?_⟩
      rw [chg_all Le.ev m0 hm, Int.natCast_add, Int.natCast_add, Int.natCast_mul])
  rw [run]
  exact lv
end DL
set_option maxHeartbeats 400000
namespace LW
open PySem L2 DL
variable [HW]
local macro_rules | `(tactic| walk_at "dl") => `(tactic| simp (config := { dsimp := false }) only [↓fnM_e, ↓sSeq_e, seqK_nx, seqK_rt, seqK_bk, seqK_ct, retK_rt, retK_nx, ↓sFrz_e, frK_some, ↓sAsg, ↓sRet, ↓sRetN, ↓sIf, ↓sExpr, ↓sSkip, ↓sNever, ↓sPar, ↓sFor, ↓sSub, ↓fVar, ↓fC, ↓fNil, ↓fCons, ↓fA, ↓f1, ↓f2, ↓fB, ↓fIf, ↓fNeg, ↓fNot, ↓fAnd, ↓fOr, ↓bNot, ↓bAnd, ↓bOr, ↓bYes, ↓obnd_x, ob_some, ↓sbnd_x, sb_some, ↓ite_x, iteK_t, iteK_f, gN, gT, gC, gE, ↓rng1I, ↓rng2I, ↓seqI, ↓enumA, ↓zipI, ↓strI, ↓fLc, ↓fDc, ↓fM, ↓fSl, ↓oNone, ↓oSome, ↓fRev, wipeE, ↓kwM, permM, permL, List.foldr, List.length_cons, List.length_nil, List.map_cons, List.map_nil, List.cons_append, List.nil_append, List.replicate, List.replicate_succ, List.replicate_zero, List.getElem?_cons_zero, List.getElem?_cons_succ, List.set_cons_zero, List.set_cons_succ, if_true, if_false, reduceIte, Nat.reduceAdd, Nat.reduceSub, Nat.reduceEqDiff, Nat.reduceLT, Nat.reduceLeDiff, Int.reduceLT, Int.reduceLE, Int.reduceNeg, Int.reduceMul, Int.reduceAdd, Int.reduceSub, Int.reduceToNat, Int.reducePow, Int.reduceEq, ok, bok, deref, mkL, lstW, tupW, dats, Option.map_some, appendW, insertW, setL, isL, listW, tupleW, lenW, absW, intC, maxW, minW, idxW, addW, subW_e, modW_e, divW_e, powW_e, mulW, intW, lt_e, gt_e, le_e, ge_e, ltW, allW_e, anyW_e, sumW_e, lW, setW, lstAt, cutW, backW, isW, isiW, iLT_none, iLT_bool, iLT_int, iLT_str, iLT_list, iLT_tup, iL_none, iL_bool, iL_int, iL_str, iL_list, iL_tup, iT_none, iT_bool, iT_int, iT_str, iT_list, iT_tup, iS_none, iS_bool, iS_int, iS_str, iS_list, iS_tup, iI_none, iI_bool, iI_int, iI_str, iI_list, iI_tup, iB_none, iB_bool, iB_int, iB_str, iB_list, iB_tup, Bool.false_eq_true, reduceCtorEq, Bool.not_true, Bool.not_false, decide_true, decide_false, List.zip_cons_cons, List.zip_nil_left, List.foldl_cons, List.foldl_nil, and_self, and_true, true_and, Bool.and_true, Bool.true_and, Bool.or_true, Bool.true_or, *])
local macro_rules | `(tactic| walk_at "tg") => `(tactic| simp (config := { dsimp := false }) only [divBW_e, ↓fFld_e, ↓fMeth_e, ↓fMk_e, fld_n, fld_p, met_leads, met_then, met_times, met_made, met_tells, met_names, ↓fnM_e, ↓sSeq_e, seqK_nx, seqK_rt, seqK_bk, seqK_ct, retK_rt, retK_nx, ↓sFrz_e, frK_some, ↓sAsg, ↓sRet, ↓sRetN, ↓sIf, ↓sExpr, ↓sSkip, ↓sNever, ↓sPar, ↓sFor, ↓sSub, ↓fVar, ↓fC, ↓fNil, ↓fCons, ↓fA, ↓f1, ↓f2, ↓fB, ↓fIf, ↓fNeg, ↓fNot, ↓fAnd, ↓fOr, ↓bNot, ↓bAnd, ↓bOr, ↓bYes, ↓obnd_x, ob_some, ↓sbnd_x, sb_some, ↓ite_x, iteK_t, iteK_f, gN, gT, gC, gE, ↓rng1I, ↓rng2I, ↓seqI, ↓enumA, ↓zipI, ↓strI, ↓fLc, ↓fDc, ↓fM, ↓fSl, ↓oNone, ↓oSome, ↓fRev, wipeE, ↓kwM, permM, permL, List.foldr, List.length_cons, List.length_nil, List.map_cons, List.map_nil, List.cons_append, List.nil_append, List.replicate, List.replicate_succ, List.replicate_zero, List.getElem?_cons_zero, List.getElem?_cons_succ, List.set_cons_zero, List.set_cons_succ, if_true, if_false, reduceIte, Nat.reduceAdd, Nat.reduceSub, Nat.reduceEqDiff, Nat.reduceLT, Nat.reduceLeDiff, Int.reduceLT, Int.reduceLE, Int.reduceNeg, Int.reduceMul, Int.reduceAdd, Int.reduceSub, Int.reduceToNat, Int.reducePow, Int.reduceEq, ok, bok, deref, mkL, lstW, tupW, dats, Option.map_some, appendW, insertW, setL, isL, listW, tupleW, lenW, absW, intC, maxW, minW, idxW, addW, subW_e, modW_e, divW_e, powW_e, mulW, intW, lt_e, gt_e, le_e, ge_e, ltW, allW_e, anyW_e, sumW_e, lW, setW, lstAt, cutW, backW, isW, isiW, iLT_none, iLT_bool, iLT_int, iLT_str, iLT_list, iLT_tup, iL_none, iL_bool, iL_int, iL_str, iL_list, iL_tup, iT_none, iT_bool, iT_int, iT_str, iT_list, iT_tup, iS_none, iS_bool, iS_int, iS_str, iS_list, iS_tup, iI_none, iI_bool, iI_int, iI_str, iI_list, iI_tup, iB_none, iB_bool, iB_int, iB_str, iB_list, iB_tup, Bool.false_eq_true, reduceCtorEq, Bool.not_true, Bool.not_false, decide_true, decide_false, List.zip_cons_cons, List.zip_nil_left, List.foldl_cons, List.foldl_nil, and_self, and_true, true_and, Bool.and_true, Bool.true_and, Bool.or_true, Bool.true_or, *])
noncomputable def m__law_due : FM := fnM false 5 13 (sSeq (sAsg (fLc false (seqI (fVar 0)) (gN 10) (bYes) (f2 lt_W (fM isTp indexT (fVar 10) (fCons (fVar 2) (fNil))) (fM isTp indexT (fVar 10) (fCons (fVar 3) (fNil)))) [10]) (gN 5))
    (sSeq (sAsg (fLc false (zipI (fCons (fVar 5) (fCons (fSl false (fVar 5) (oSome (fC (.int 1))) (oNone)) (fNil)))) (gT 2 (gC (gN 11) (gC (gN 12) (gE)))) (bYes) (fA intC (fCons (f2 (eqW true) (fVar 11) (fVar 12)) (fNil))) [11, 12]) (gN 6))
    (sSeq (sIf (fB (f2 le_W (fVar 4) (fA lenW (fCons (fVar 6) (fNil))))) (sRet (fA sumW (fCons (fSl false (fVar 6) (oNone) (oSome (fVar 4))) (fNil)))) (sSkip))
    (sSeq (sAsg (fSl false (fVar 6) (oSome (fVar 1)) (oNone)) (gN 7))
    (sSeq (sPar (fCons (f2 divW (f2 subW (fVar 4) (fVar 1)) (fA lenW (fCons (fVar 7) (fNil)))) (fCons (f2 modW (f2 subW (fVar 4) (fVar 1)) (fA lenW (fCons (fVar 7) (fNil)))) (fNil))) [8, 9])
    (sRet (f2 (addW false) (f2 (addW false) (fA sumW (fCons (fSl false (fVar 6) (oNone) (oSome (fVar 1))) (fNil))) (f2 (mulW false) (fVar 8) (fA sumW (fCons (fVar 7) (fNil))))) (fA sumW (fCons (fSl false (fVar 7) (oNone) (oSome (fVar 9))) (fNil))))))))))
noncomputable def m__law_orbit : FM := fnM false 2 4 (sSeq (sPar (fCons (fA (lstW true) (fCons (fVar 0) (fNil))) (fCons (fDnT) (fNil))) [2, 3])
    (sSeq (sWhile 100000 (fB (f2 (inW true) (f2 idxW (fVar 2) (fNeg (fC (.int 1)))) (fVar 3)))
    (sSeq (sPutT (f2 subW (fA lenW (fCons (fVar 2) (fNil))) (fC (.int 1))) (fVar 3) (f2 idxW (fVar 2) (fNeg (fC (.int 1)))))
    (sExpr (fM isL appendW (fVar 2) (fCons (fA (m__law_ledW) (fCons (f2 idxW (fVar 2) (fNeg (fC (.int 1)))) (fCons (fVar 1) (fNil)))) (fNil))))))
    (sFrz 2 (sRet (fA tupW (fCons (fVar 2) (fCons (f2 idxW (fVar 3) (f2 idxW (fVar 2) (fNeg (fC (.int 1))))) (fNil))))))))
noncomputable def m__law_rounds : FM := fnM false 2 8 (sSeq (sPar (fCons (fA (m__law_rowG) (fCons (fVar 0) (fCons (fVar 1) (fNil)))) (fCons (fA (lstW true) (fNil)) (fNil))) [4, 5])
    (sSeq (sAsg (f2 (addW false) (fC (.int 1)) (fA (m__law_takeG 12) (fCons (fVar 0) (fCons (fA lenW (fCons (fVar 4) (fNil))) (fNil))))) (gN 2))
    (sSeq (sFor (seqI (fA tupW (fCons (fSl false (fVar 4) (oNone) (oSome (fVar 2))) (fCons (fSl false (fVar 4) (oSome (fVar 2)) (oNone)) (fNil))))) (gN 3)
    (sExpr (fM isL extendW (fVar 5) (fCons (fLc false (enumA (fCons (fVar 3) (fNil))) (gT 2 (gC (gN 6) (gC (gN 7) (gE)))) (bYes) (fA tupW (fCons (fVar 7) (fCons (f2 idxW (fVar 3) (f2 modW (f2 (addW false) (fVar 6) (fC (.int 1))) (fA lenW (fCons (fVar 3) (fNil))))) (fNil)))) [6, 7]) (fNil)))))
    (sFrz 5 (sRet (fA tupleW (fCons (fA (sortW false) (fCons (fVar 5) (fNil))) (fNil))))))))
noncomputable def m__law_right (T : Nat → Addr) : FM := fnM false 1 16 (sSeq (sAsg (fA (sortW false) (fCons (f2 (addW false) (fA (m__law_namesG) (fCons (fVar 0) (fCons (fC (.int 6)) (fNil)))) (fA (lstW false) (fCons (fC (.str "zz")) (fNil)))) (fNil))) (gN 1))
    (sSeq (sPar (fCons (fA (m__law_rowG) (fCons (fVar 0) (fCons (fVar 1) (fNil)))) (fCons (fA (m__law_wordG) (fCons (fVar 0) (fCons (fVar 1) (fCons (fC (.int 3)) (fNil))))) (fNil))) [4, 5])
    (sSeq (sIf (fB (f2 (eqW false) (fA (m__law_takeG 12) (fCons (fVar 0) (fCons (fC (.int 2)) (fNil)))) (fC (.int 0)))) (sAsg (f2 (addW false) (fSl false (fVar 5) (oNone) (oSome (fC (.int 1)))) (fA (lstW false) (fCons (fA (m__law_rounds) (fCons (fVar 0) (fCons (fVar 1) (fNil)))) (fNil)))) (gN 5)) (sSkip))
    (sSeq (sAsg (fA (m__law_orbit) (fCons (fVar 4) (fCons (fVar 5) (fNil)))) (gT 2 (gC (gN 6) (gC (gN 7) (gE)))))
    (sSeq (sAsg (fLc false (seqI (fVar 5)) (gN 13) (bYes) (fLc false (seqI (fVar 13)) (gN 14) (bYes) (fA (listW false) (fCons (fVar 14) (fNil))) [14]) [13]) (gN 2))
    (sSeq (sFor (rng1I (fCons (fC (.int 6)) (fNil))) (gN 3)
    (sSeq (sAsg (fA (m__law_pickG) (fCons (fVar 0) (fCons (fVar 1) (fNil)))) (gN 8))
    (sSeq (sAsg (fA (m__law_pickG) (fCons (fVar 0) (fCons (fLc false (seqI (fVar 1)) (gN 15) (fB (f2 (eqW true) (fVar 15) (fVar 8))) (fVar 15) [15]) (fNil)))) (gN 9))
    (sSeq (sAsg (fA (m__law_takeG 12) (fCons (fVar 0) (fCons (fA (m__law_pickG) (fCons (fVar 0) (fCons (fA (lstW false) (fCons (fC (.int 4)) (fCons (fC (.int 61)) (fCons (f2 powW (fC (.int 10)) (fC (.int 12))) (fNil))))) (fNil)))) (fNil)))) (gN 10))
    (sSeq (sAsg (fA (m__law_due) (fCons (fVar 6) (fCons (fVar 7) (fCons (fVar 8) (fCons (fVar 9) (fCons (fVar 10) (fNil))))))) (gN 11))
    (sSeq (sAsg (fA (lstW true) (fCons (fA (m_changes T) (fCons (fVar 4) (fCons (fVar 5) (fCons (fVar 8) (fCons (fVar 9) (fCons (fVar 10) (fNil))))))) (fNil))) (gN 12))
    (sSeq (sExpr (fM isL appendW (fVar 12) (fCons (fA (m_changes T) (fCons (fA (listW false) (fCons (fVar 4) (fNil))) (fCons (fA tupleW (fCons (fVar 2) (fNil))) (fCons (fVar 9) (fCons (fVar 8) (fCons (fVar 10) (fNil))))))) (fNil))))
    (sSeq (sExpr (fM isL appendW (fVar 12) (fCons (fA (kwM 5 [4, 3, 2, 1, 0] (m_changes T)) (fCons (fVar 10) (fCons (fVar 9) (fCons (fVar 8) (fCons (fVar 5) (fCons (fVar 4) (fNil))))))) (fNil))))
    (sFrz 12 (sIf (bNot (fB (fA (m__law_same 12) (fCons (fVar 12) (fCons (f2 (mulW false) (fA (lstW false) (fCons (fVar 11) (fNil))) (fC (.int 3))) (fNil)))))) (sRet (fC (.bool false))) (sSkip)))))))))))
    (sRet (fC (.bool true)))))))))
noncomputable def m_law (T : Nat → Addr) : FM := fnM false 1 5 (sSeq (sAsg (fA (m__law_folded) (fCons (fVar 0) (fCons (fC (.int 3)) (fNil)))) (gN 1))
    (sSeq (sFor (rng1I (fCons (fA lenW (fCons (fVar 1) (fNil))) (fNil))) (gN 2)
    (sSeq (sAsg (fA (m__law_box) (fCons (fVar 1) (fCons (fVar 2) (fNil)))) (gN 3))
    (sIf (bNot (fB (fA allW (fCons (fLc false (rng1I (fCons (fC (.int 2)) (fNil))) (gN 4) (bYes) (fA (m__law_right T) (fCons (fVar 3) (fNil))) [4]) (fNil))))) (sRet (fC (.bool false))) (sSkip))))
    (sRet (fC (.bool true)))))
abbrev rK (r : List Str) : List Key := r.map Sum.inr
theorem dKeys_row : ∀ r : List Str, dKeys (r.map PyData.str) = some (rK r)
  | [] => rfl
  | s :: r => by simp only [List.map_cons, dKeys, dKey_str, dKeys_row r]
theorem tKey_row (r : List Str) : tKey (rowT r) = some (rK r) := dKeys_row r
theorem rK_inj {r q : List Str} (e : rK r = rK q) : r = q := by
  induction r generalizing q with
  | nil => cases q with
    | nil => rfl
    | cons b q => cases e
  | cons a r ih => cases q with
    | nil => cases e
    | cons b q =>
      have e1 : (Sum.inr a : Key) = .inr b := (List.cons.inj e).1
      cases e1
      rw [ih (List.cons.inj e).2]
theorem pairD_row (r : List Str) : pairD (r.map PyData.str) = false := by cases r <;> rfl
def tblR (l : List (List Str × D)) : List (D × D) := l.map fun e => (rowT e.1, e.2)
theorem getT_tblR (p : List Str) : ∀ l : List (List Str × D), getT (tblR l) (rK p) = l.lookup p
  | [] => rfl
  | (q, d) :: l => by
    show ((List.find? _ ((rowT q, d) :: tblR l)).map _) = _
    rw [List.find?_cons, List.lookup_cons]
    by_cases z : p = q
    · subst z; simp [tKey_row]
    · have z' : decide (tKey (rowT q) = some (rK p)) = false := by
        rw [tKey_row]
        simp only [Option.some.injEq, decide_eq_false_iff_not]
        exact fun w => z (rK_inj w).symm
      have z2 : (p == q) = false := beq_eq_false_iff_ne.mpr z
      rw [z', z2]
      exact getT_tblR p l
theorem getD_tblR {l : List (List Str × D)} {p : List Str} : getD ((.none, .none) :: tblR l) (rowT p) = some (l.lookup p) := by
  have hb : bareK (rowT p) = false := pairD_row p
  unfold getD
  rw [if_pos (show isT ((PyData.none, PyData.none) :: tblR l) = true from rfl), hb, if_neg (by simp), tKey_row, Option.map_some]
  show some (getT (tblR l) (rK p)) = _
  rw [getT_tblR]
theorem putT_tblR {l : List (List Str × D)} {p : List Str} {d : D} (h : l.lookup p = none) : putT (tblR l) (rK p) d = tblR (l ++ [(p, d)]) := by
  have e : (PyData.tuple ((rK p).map kP)) = rowT p := by
    unfold rK rowT
    rw [List.map_map]; rfl
  unfold putT
  rw [getT_tblR, h]
  simp only [Option.isSome_none, Bool.false_eq_true, if_false]
  unfold tblR
  rw [List.map_append, e]; rfl
theorem lookR {key : Nat → List Str} {v : Nat → D} : ∀ {n : Nat}, ((List.range n).map key).Nodup → ∀ i, i < n → ((List.range n).map fun j => (key j, v j)).lookup (key i) = some (v i)
  | 0, _, i, h => absurd h (Nat.not_lt_zero _)
  | n + 1, nd, i, h => by
    rw [List.range_succ, List.map_append] at nd ⊢
    rw [List.lookup_append]
    obtain ⟨n1, _, n3⟩ := List.nodup_append.mp nd
    by_cases z : i < n
    · rw [lookR n1 i z]; rfl
    · have : i = n := by omega
      subst this
      have e : ((List.range i).map fun j => (key j, v j)).lookup (key i) = none := by
        rw [List.lookup_eq_none_iff]
        intro q hq
        obtain ⟨j, hj, rfl⟩ := List.mem_map.mp hq
        have := n3 (key j) (List.mem_map.mpr ⟨j, hj, rfl⟩) (key i) (by simp)
        exact bne_iff_ne.mpr fun z => this z.symm
      rw [e]
      simp
theorem noneR {key : Nat → List Str} {v : Nat → D} {n : Nat} {q : List Str} (h : ∀ i, i < n → key i ≠ q) : ((List.range n).map fun j => (key j, v j)).lookup q = none := by
  rw [List.lookup_eq_none_iff]
  intro e he
  obtain ⟨j, hj, rfl⟩ := List.mem_map.mp he
  exact bne_iff_ne.mpr fun z => h j (List.mem_range.mp hj) z.symm
def lev (cr : List Str) : Nat → List (List Str)
  | 0 => [[]]
  | j + 1 => (lev cr j).flatMap (moreR cr)
theorem lev_mem {cr : List Str} : ∀ {j : Nat} {r : List Str}, r ∈ lev cr j ↔ Part cr j r
  | 0, r => by
    unfold lev
    rw [List.mem_singleton]
    constructor
    · rintro rfl; exact ⟨.nil, rfl, fun s hs => by cases hs⟩
    · rintro ⟨_, hl, _⟩; exact List.length_eq_zero_iff.mp hl
  | j + 1, r => by
    constructor
    · exact fun hr => flat_part (fun q hq => lev_mem.mp hq) r hr
    · intro hr
      obtain ⟨r0, p0, m0⟩ := part_more hr
      exact List.mem_flatMap.mpr ⟨r0, lev_mem.mpr p0, m0⟩
def dfac (n : Nat) : Nat → Nat
  | 0 => 1
  | j + 1 => dfac n j * (n - j)
theorem more_few {cr r : List Str} {j : Nat} (h : Part cr j r) : (moreR cr r).length ≤ cr.length - j := by
  obtain ⟨nd, hl, hm⟩ := h
  unfold moreR
  rw [List.length_map]
  have e : (cr.filter fun s => decide (s ∈ r)).length + (cr.filter fun s => decide (s ∉ r)).length = cr.length := by
    clear hm hl nd
    induction cr with
    | nil => rfl
    | cons a cr ih =>
      simp only [List.filter_cons]
      by_cases z : a ∈ r
      · simp only [z, decide_true, if_true, not_true_eq_false, decide_false, Bool.false_eq_true, if_false, List.length_cons]; omega
      · simp only [z, decide_false, Bool.false_eq_true, if_false, not_false_eq_true, decide_true, if_true, List.length_cons]; omega
  have l : r.length ≤ (cr.filter fun s => decide (s ∈ r)).length := nd_le nd fun s hs => List.mem_filter.mpr ⟨hm s hs, by simpa using hs⟩
  omega
theorem lev_len (cr : List Str) : ∀ j : Nat, (lev cr j).length ≤ dfac cr.length j
  | 0 => Nat.le_refl _
  | j + 1 => by
    have h1 := flat_le (moreR cr) (k := cr.length - j) (l := lev cr j) fun r hr => more_few (lev_mem.mp hr)
    exact Nat.le_trans h1 (Nat.mul_le_mul_right _ (lev_len cr j))
theorem fac_seven : ∀ n, n ≤ 7 → dfac n n ≤ 5040 := by decide
noncomputable def oB : SM := (sSeq (sPutT (f2 subW (fA lenW (fCons (fVar 2) (fNil))) (fC (.int 1))) (fVar 3) (f2 idxW (fVar 2) (fNeg (fC (.int 1)))))
    (sExpr (fM isL appendW (fVar 2) (fCons (fA (m__law_ledW) (fCons (f2 idxW (fVar 2) (fNeg (fC (.int 1)))) (fCons (fVar 1) (fNil)))) (fNil)))))
noncomputable def oT : BM := (fB (f2 (inW true) (f2 idxW (fVar 2) (fNeg (fC (.int 1)))) (fVar 3)))
theorem oB_run {x y : W} {n : Nat} {ds : List D} {T0 T1 : List (D × D)} {K : List D} {ks : List Key} {m : Int} {q : D} {g g2 g3 : Hh} (hg : g[n]? = some (some (.lst ds))) (hm : (ds.length : Int) = m) (h1 : g[n + 1]? = some (some (.dit T0))) (al : L2.atI ds (-1) = some (.tuple K)) (ek : dKeys K = some ks) (ec : pairD K = false) (hl : T0.length < sizeLine) (ep : putT T0 ks (.int (m - 1)) = T1)
    (hs : g.set (n + 1) (some (.dit T1)) = g2) (hg2 : g2[n]? = some (some (.lst ds))) (e1 : m__law_ledW [.dat (.tuple K), y] g2 = some (.dat q, g2)) (hl2 : ds.length < sizeLine) (hs2 : g2.set n (some (.lst (ds ++ [q]))) = g3) :
    oB [some x, some y, some (.ref n), some (.ref (n + 1))] g = some (.nx [some x, some y, some (.ref n), some (.ref (n + 1))], g3) := by
  have f3 : putTW (.ref (n + 1)) (.dat (.tuple K)) (.dat (.int (m - 1))) g = some g2 := by
    unfold putTW ditAt
    simp only [h1, ek, hl, ec, and_self, if_true, ep, hs]
  unfold oB sPutT
  clear h1 hl ep hs ek ec
  walk_at "dl"
theorem oT_run {x y : W} {n : Nat} {ds : List D} {T0 : List (D × D)} {q : D} {o : Option D} {g : Hh} (hg : g[n]? = some (some (.lst ds))) (h1 : g[n + 1]? = some (some (.dit T0))) (al : L2.atI ds (-1) = some q) (eg : getD ((.none, .none) :: T0) q = some o) :
    oT [some x, some y, some (.ref n), some (.ref (n + 1))] g = some (!o.isSome, g) := by
  have e2 : inW true (.dat q) (.ref (n + 1)) g = bok (!o.isSome) g := by
    unfold inW
    simp only [deref, h1, eg, if_true]
  have e1 : f2 idxW (fVar 2) (fNeg (fC (.int 1))) [some x, some y, some (.ref n), some (.ref (n + 1))] g = some (.dat q, g) := by
    refine x2 (x := .ref n) rfl neg1 ?_
    unfold idxW
    simp only [deref, hg, al]; rfl
  unfold oT
  exact xB (x2 e1 rfl e2)
abbrev Rn (r : List Str) (ws : List (List (Str × Str))) (n : Nat) : List Str := ledAll r (oft ws n)
def rowsN (r : List Str) (ws : List (List (Str × Str))) (n : Nat) : List D := (List.range n).map fun i => rowT (Rn r ws i)
def seenN (r : List Str) (ws : List (List (Str × Str))) (n : Nat) : List (List Str × D) := (List.range n).map fun i => (Rn r ws i, .int (i : Int))
theorem rowsN_succ (r : List Str) (ws : List (List (Str × Str))) (n : Nat) : rowsN r ws (n + 1) = rowsN r ws n ++ [rowT (Rn r ws n)] := by
  unfold rowsN; rw [List.range_succ, List.map_append]; rfl
theorem seenN_succ (r : List Str) (ws : List (List (Str × Str))) (n : Nat) : seenN r ws (n + 1) = seenN r ws n ++ [(Rn r ws n, .int (n : Int))] := by
  unfold seenN; rw [List.range_succ, List.map_append]; rfl
theorem orbit_ok {r : List Str} {ws : List (List (Str × Str))} {B U : Nat} {h : Hh} (c : Words r ws) (nd : r.Nodup) (hp : 0 < r.length) (hr : r.length ≤ 7) (R : RoundAt r ws B U) :
    m__law_orbit [.dat (rowT r), .dat (.list (ws.map cT))] h = some (.dat (.tuple [.list (rowsN r ws (B + U + 1)), .int (B : Int)]), h) := by
  have hz : sizeLine = 16777216 := rfl
  have U0 := R.pos
  -- the first row that comes again is the one behind B + U
  have new : ∀ j, j < B + U → ∀ i, i < j → Rn r ws i ≠ Rn r ws j := fun j hj i hi e => by
    have e' : ledAll r (oft ws (i + (j - i))) = ledAll r (oft ws i) := by rw [show i + (j - i) = j by omega]; exact e.symm
    obtain ⟨b1, d1⟩ := (R.iff i (j - i) (by omega)).mp e'
    have := Nat.le_of_dvd (by omega) d1
    omega
  have ndU : ((List.range (B + U)).map (Rn r ws)).Nodup := by
    rw [List.nodup_iff_pairwise_ne, List.pairwise_map]
    refine (List.pairwise_iff_getElem.mpr fun i j hi hj hij => ?_)
    rw [List.length_range] at hi hj
    rw [List.getElem_range, List.getElem_range]
    exact new j hj i hij
  have few : B + U ≤ 5040 := by
    have pr : ∀ n, (Rn r ws n).Perm r := fun n => ledAll_perm _ _
    have l1 := nd_le (L := lev r r.length) ndU fun x hx => by
      obtain ⟨i, _, rfl⟩ := List.mem_map.mp hx
      exact lev_mem.mpr ⟨(pr i).nodup_iff.mpr nd, (pr i).length_eq, fun s hs => (pr i).mem_iff.mp hs⟩
    rw [List.length_map, List.length_range] at l1
    exact Nat.le_trans l1 (Nat.le_trans (lev_len r r.length) (fac_seven _ hr))
  have back : Rn r ws (B + U) = Rn r ws B := (R.iff B U U0).mpr ⟨Nat.le_refl _, Nat.dvd_refl _⟩
  have al : ∀ j, L2.atI (rowsN r ws (j + 1)) (-1) = some (rowT (Rn r ws j)) := fun j => by rw [rowsN_succ]; exact atI_neg1 _ _
  have ln : ∀ j, (rowsN r ws j).length = j := fun j => by simp [rowsN]
  have sn : ∀ j, (tblR (seenN r ws j)).length = j := fun j => by simp [tblR, seenN]
  obtain ⟨ρ', g', e, rfl, rfl⟩ := whileL_run (t := oT) (body := oB) (fun j ρ g => ρ = [some (.dat (rowT r)), some (.dat (.list (ws.map cT))), some (.ref h.length), some (.ref (h.length + 1))] ∧ g = h ++ [some (.lst (rowsN r ws (j + 1))), some (.dit (tblR (seenN r ws j)))])
    (B + U) (n := 0) (fuel := 100000) (ρ := [some (.dat (rowT r)), some (.dat (.list (ws.map cT))), some (.ref h.length), some (.ref (h.length + 1))]) (h := h ++ [some (.lst [rowT r]), some (.dit [])]) (by omega) ⟨rfl, rfl⟩ (by
      rintro j ρ g _ hj ⟨rfl, rfl⟩
      have hj' : j < B + U := by omega
      have tg := two_get (g := h) (o := some (MO.lst (rowsN r ws (j + 1)))) (o' := some (.dit (tblR (seenN r ws j)))) rfl
      have no : (seenN r ws j).lookup (Rn r ws j) = none := noneR fun i hi => new j hj' i hi
      have tt := oT_run (x := .dat (rowT r)) (y := .dat (.list (ws.map cT))) tg.1 tg.2 (al j) getD_tblR
      rw [no] at tt
      refine ⟨_, [some (.dat (rowT r)), some (.dat (.list (ws.map cT))), some (.ref h.length), some (.ref (h.length + 1))], h ++ [some (.lst (rowsN r ws (j + 2))), some (.dit (tblR (seenN r ws (j + 1))))], tt, ?_, rfl, rfl⟩
      have ts := two_set (g := h) (o := some (MO.lst (rowsN r ws (j + 1)))) (o' := some (.dit (tblR (seenN r ws j)))) (z := some (.dit (tblR (seenN r ws (j + 1))))) rfl
      have tg2 := two_get (g := h) (o := some (MO.lst (rowsN r ws (j + 1)))) (o' := some (.dit (tblR (seenN r ws (j + 1))))) rfl
      have ts2 := two_set (g := h) (o := some (MO.lst (rowsN r ws (j + 1)))) (o' := some (.dit (tblR (seenN r ws (j + 1))))) (z := some (.lst (rowsN r ws (j + 2)))) rfl
      have pj : (Rn r ws j).Perm r := ledAll_perm _ _
      have e1 := ledW_ok (x := rowT (Rn r ws j)) (y := .list (ws.map cT)) (h := h ++ [some (.lst (rowsN r ws (j + 1))), some (.dit (tblR (seenN r ws (j + 1))))]) (.inr rfl) (.inl rfl) (c.perm pj.symm) (pj.nodup_iff.mpr nd) (by rw [pj.length_eq]; exact hp) (by rw [pj.length_eq]; omega) fun _ => rfl
      have e2 : ledAll (Rn r ws j) ws = Rn r ws (j + 1) := by
        show _ = ledAll r (oft ws (j + 1))
        rw [led_oft, oft_one]
      rw [e2] at e1
      refine oB_run (m := ((j + 1 : Nat) : Int)) (K := (Rn r ws j).map .str) (ks := rK (Rn r ws j)) tg.1 (by rw [ln]) tg.2 (al j) (dKeys_row _) (pairD_row _) (by rw [sn]; omega) ?_ ts.2 tg2.1 e1 (by rw [ln]; omega) ?_
      · rw [show ((j + 1 : Nat) : Int) - 1 = (j : Int) by omega, putT_tblR no, ← seenN_succ]
      · rw [← rowsN_succ]; exact ts2.1) (by
      rintro ρ g ⟨rfl, rfl⟩
      rw [Nat.zero_add]
      have tg := two_get (g := h) (o := some (MO.lst (rowsN r ws (B + U + 1)))) (o' := some (.dit (tblR (seenN r ws (B + U))))) rfl
      have tt := oT_run (x := .dat (rowT r)) (y := .dat (.list (ws.map cT))) tg.1 tg.2 (al (B + U)) getD_tblR
      have yes : (seenN r ws (B + U)).lookup (Rn r ws (B + U)) = some (.int (B : Int)) := by
        rw [back]; exact lookR (key := Rn r ws) ndU B (by omega)
      rw [yes] at tt
      exact tt)
  rw [Nat.zero_add] at e
  have yes : (seenN r ws (B + U)).lookup (Rn r ws (B + U)) = some (.int (B : Int)) := by
    rw [back]; exact lookR (key := Rn r ws) ndU B (by omega)
  have tg := two_get (g := h) (o := some (MO.lst (rowsN r ws (B + U + 1)))) (o' := some (.dit (tblR (seenN r ws (B + U))))) rfl
  have fz : frz 2 [some (.dat (rowT r)), some (.dat (.list (ws.map cT))), some (.ref h.length), some (.ref (h.length + 1))] (h ++ [some (.lst (rowsN r ws (B + U + 1))), some (.dit (tblR (seenN r ws (B + U))))]) = some ([some (.dat (rowT r)), some (.dat (.list (ws.map cT))), some (.dat (.list (rowsN r ws (B + U + 1)))), some (.ref (h.length + 1))], h ++ [none, some (.dit (tblR (seenN r ws (B + U))))]) := by
    unfold frz
    have ne : (h.length + 1 = h.length) = False := by simp
    simp only [List.getElem?_cons_zero, List.getElem?_cons_succ, tg.1, List.set_cons_zero, List.set_cons_succ, List.any_cons, List.any_nil, isR_dat, isR_none, isR_ref, ne, decide_false, Bool.or_false, isTab, Bool.false_eq_true, if_false, moD]
    rw [(two_set (g := h) (o := some (MO.lst (rowsN r ws (B + U + 1)))) (o' := some (.dit (tblR (seenN r ws (B + U))))) (z := none) rfl).1]
  have hd : deref (h ++ [none, some (.dit (tblR (seenN r ws (B + U))))]) (.ref (h.length + 1)) = some (.dict ((.none, .none) :: tblR (seenN r ws (B + U)))) := by
    have := (two_get (g := h) (o := none) (o' := some (MO.dit (tblR (seenN r ws (B + U))))) rfl).2
    simp only [deref, this]
  have ix : idxW (.ref (h.length + 1)) (.dat (rowT (Rn r ws (B + U)))) (h ++ [none, some (.dit (tblR (seenN r ws (B + U))))]) = some (.dat (.int (B : Int)), h ++ [none, some (.dit (tblR (seenN r ws (B + U))))]) := by
    have gd : getD ((PyData.none, PyData.none) :: tblR (seenN r ws (B + U))) (rowT (Rn r ws (B + U))) = some (some (.int (B : Int))) := by rw [getD_tblR, yes]
    simp only [idxW, hd, gd]; rfl
  have xi := x2 (A := fVar 3) (B := f2 idxW (fVar 2) (fNeg (fC (.int 1)))) (ρ := [some (.dat (rowT r)), some (.dat (.list (ws.map cT))), some (.dat (.list (rowsN r ws (B + U + 1)))), some (.ref (h.length + 1))]) rfl (x2 (A := fVar 2) rfl neg1 (idxW_list (al (B + U)))) ix
  have lv : leave false h (.dat (.tuple [.list (rowsN r ws (B + U + 1)), .int (B : Int)])) (h ++ [none, some (.dit (tblR (seenN r ws (B + U))))]) = some (.dat (.tuple [.list (rowsN r ws (B + U + 1)), .int (B : Int)]), h) := by
    have tk : (h ++ [none, some (MO.dit (tblR (seenN r ws (B + U))))]).take h.length = h := List.take_left
    have := leave_dat (h := h) (h' := h ++ [none, some (.dit (tblR (seenN r ws (B + U))))]) (d := .tuple [.list (rowsN r ws (B + U + 1)), .int (B : Int)]) (by rw [tk])
    rw [tk] at this
    exact this
  have c1 : 1 ≤ sizeLine := by decide
  have c2 : 2 ≤ sizeLine := by decide
  have s1 : fA (lstW true) (fCons (fVar 0) fNil) [some (.dat (rowT r)), some (.dat (.list (ws.map cT))), none, none] h = some (.ref h.length, h ++ [some (.lst [rowT r])]) := by
    clear e fz ix xi lv new ndU
    walk_at "dl"
  have e0 : (fCons (fA (lstW true) (fCons (fVar 0) (fNil))) (fCons (fDnT) (fNil))) [some (.dat (rowT r)), some (.dat (.list (ws.map cT))), none, none] h = some ([.ref h.length, .ref (h.length + 1)], h ++ [some (.lst [rowT r]), some (.dit [])]) := by
    refine xC s1 (xC (h1 := h ++ [some (.lst [rowT r]), some (.dit [])]) ?_ xN)
    unfold fDnT
    simp [List.append_assoc]
  have er := xA (m := tupW) (r := some (.dat (.tuple [.list (rowsN r ws (B + U + 1)), .int (B : Int)]), h ++ [none, some (.dit (tblR (seenN r ws (B + U))))])) (xC (E := fVar 2) rfl (xC xi xN)) (xTp (ds := [.list (rowsN r ws (B + U + 1)), .int (B : Int)]) rfl c2)
  have q : m__law_orbit = fnM false 2 4 (sSeq (sPar (fCons (fA (lstW true) (fCons (fVar 0) (fNil))) (fCons (fDnT) (fNil))) [2, 3]) (sSeq (sWhile 100000 oT oB) (sFrz 2 (sRet (fA tupW (fCons (fVar 2) (fCons (f2 idxW (fVar 3) (f2 idxW (fVar 2) (fNeg (fC (.int 1))))) (fNil)))))))) := rfl
  rw [q]
  refine fnM_rt (h' := h ++ [none, some (.dit (tblR (seenN r ws (B + U))))]) (w := .dat (.tuple [.list (rowsN r ws (B + U + 1)), .int (B : Int)])) ?_ rfl lv
  show sSeq _ _ [some (.dat (rowT r)), some (.dat (.list (ws.map cT))), none, none] h = _
  refine (zP (is := [2, 3]) (ρ1 := [some (.dat (rowT r)), some (.dat (.list (ws.map cT))), some (.ref h.length), some (.ref (h.length + 1))]) e0 rfl rfl).trans ?_
  unfold sSeq sWhile
  rw [e]
  show sFrz 2 _ _ _ = _
  unfold sFrz
  rw [fz]
  exact zR er
def nextL (l : List Str) : List (Str × Str) := (List.range l.length).map fun i => (l.getD i "", l.getD ((i + 1) % l.length) "")
theorem next_mem {l : List Str} {p : Str × Str} (h : p ∈ nextL l) : p.1 ∈ l ∧ p.2 ∈ l := by
  obtain ⟨i, hi, rfl⟩ := List.mem_map.mp h
  have hi' := List.mem_range.mp hi
  exact ⟨getD_in hi', getD_in (Nat.mod_lt _ (by omega))⟩
theorem next_fst (l : List Str) : (nextL l).map (·.1) = l := by
  apply List.ext_getElem?
  intro i
  unfold nextL
  rw [List.map_map, List.getElem?_map]
  by_cases h : i < l.length
  · rw [List.getElem?_range h, List.getElem?_eq_getElem h]
    show some (l.getD i "") = some l[i]
    rw [List.getD_eq_getElem?_getD, List.getElem?_eq_getElem h]; rfl
  · rw [List.getElem?_eq_none (by rw [List.length_range]; omega), List.getElem?_eq_none (by omega)]; rfl
theorem next_lc {l : List Str} {ρ : DL.Env} {h : Hh} {v : Nat → Nat → Option W} (hk : ∀ (i : Nat) (s : Str), ∃ ρ1, gT 2 (gC (gN 6) (gC (gN 7) (gE))) (.dat (.tuple [.int (i : Int), .str s])) ρ h = some ρ1 ∧ fVar 7 ρ1 h = some (.dat (.str s), h) ∧ fVar 6 ρ1 h = some (.dat (.int (i : Int)), h) ∧ fVar 3 ρ1 h = some (.dat (rowT l), h)) :
    lcL (gT 2 (gC (gN 6) (gC (gN 7) (gE)))) (bYes) (fA tupW (fCons (fVar 7) (fCons (f2 idxW (fVar 3) (f2 modW (f2 (addW false) (fVar 6) (fC (.int 1))) (fA lenW (fCons (fVar 3) (fNil))))) (fNil)))) ρ (enumD 0 (l.map .str)) h = some ((nextL l).map prT, h) := by
  have en : enumD 0 (l.map PyData.str) = (List.range l.length).map fun (i : Nat) => PyData.tuple [.int (i : Int), .str (l.getD i "")] := by
    apply List.ext_getElem?
    intro i
    rw [List.getElem?_map]
    by_cases hi : i < l.length
    · rw [List.getElem?_range hi]
      have hl : i < (enumD 0 (l.map PyData.str)).length := by rw [enum_len, List.length_map]; exact hi
      obtain ⟨hj, e⟩ := enum_get (List.getElem?_eq_getElem hl)
      rw [List.getElem?_eq_getElem hl, e]
      simp [List.getD_eq_getElem?_getD, List.getElem?_eq_getElem hi]
    · rw [List.getElem?_eq_none (by rw [enum_len, List.length_map]; omega), List.getElem?_eq_none (by rw [List.length_range]; omega)]; rfl
  rw [en]
  unfold nextL
  rw [List.map_map]
  refine lcL_list (fun i : Nat => PyData.tuple [.int (i : Int), .str (l.getD i "")]) _ fun i hi => ?_
  have hi' := List.mem_range.mp hi
  obtain ⟨ρ1, k0, k1, k2, k3⟩ := hk i (l.getD i "")
  refine ⟨ρ1, k0, ?_⟩
  have s1 : f2 (addW false) (fVar 6) (fC (.int 1)) ρ1 h = some (.dat (.int ((i + 1 : Nat) : Int)), h) := by
    refine x2 k2 (B := fC (.int 1)) rfl ?_
    rw [Int.natCast_add]; exact add_i
  have s2 : fA lenW (fCons (fVar 3) fNil) ρ1 h = some (.dat (.int (l.length : Int)), h) := by
    refine xA (xC k3 xN) ?_
    have ln : ((l.map PyData.str).length : Int) = (l.length : Int) := by rw [List.length_map]
    unfold lenW
    simp only [deref, ln]; rfl
  have n0 : (0 : Int) < (l.length : Int) := by omega
  have s3 : f2 modW (f2 (addW false) (fVar 6) (fC (.int 1))) (fA lenW (fCons (fVar 3) fNil)) ρ1 h = some (.dat (.int (((i + 1) % l.length : Nat) : Int)), h) := by
    refine x2 (f := modW) s1 s2 ?_
    rw [Int.natCast_emod]; exact mod_i n0
  have hm : (i + 1) % l.length < l.length := Nat.mod_lt _ (by omega)
  have a1 : L2.atI (l.map PyData.str) (((i + 1) % l.length : Nat) : Int) = some (.str (l.getD ((i + 1) % l.length) "")) := by
    rw [atI_strs hm, List.getD_eq_getElem?_getD, List.getElem?_eq_getElem hm]; rfl
  have s4 : f2 idxW (fVar 3) (f2 modW (f2 (addW false) (fVar 6) (fC (.int 1))) (fA lenW (fCons (fVar 3) fNil))) ρ1 h = some (.dat (.str (l.getD ((i + 1) % l.length) "")), h) := by
    refine x2 k3 s3 ?_
    unfold idxW
    simp only [deref, a1]; rfl
  exact xA (xC k1 (xC s4 xN)) (xTp (ds := [.str (l.getD i ""), .str (l.getD ((i + 1) % l.length) "")]) rfl (by show 2 ≤ sizeLine; decide))
noncomputable def rdB : SM := (sExpr (fM isL extendW (fVar 5) (fCons (fLc false (enumA (fCons (fVar 3) (fNil))) (gT 2 (gC (gN 6) (gC (gN 7) (gE)))) (bYes) (fA tupW (fCons (fVar 7) (fCons (f2 idxW (fVar 3) (f2 modW (f2 (addW false) (fVar 6) (fC (.int 1))) (fA lenW (fCons (fVar 3) (fNil))))) (fNil)))) [6, 7]) (fNil))))
theorem rdB_run {v0 v1 v2 v4 : Option W} {n : Nat} {P F PS : List D} {g : Hh} (hg : g[n]? = some (some (.lst F))) (el : lcL (gT 2 (gC (gN 6) (gC (gN 7) (gE)))) (bYes) (fA tupW (fCons (fVar 7) (fCons (f2 idxW (fVar 3) (f2 modW (f2 (addW false) (fVar 6) (fC (.int 1))) (fA lenW (fCons (fVar 3) (fNil))))) (fNil)))) [v0, v1, v2, some (.dat (.tuple P)), v4, some (.ref n), none, none] (enumD 0 P) g = some (PS, g)) (l1 : PS.length ≤ sizeLine) (l2 : F.length + PS.length ≤ sizeLine) :
    rdB [v0, v1, v2, some (.dat (.tuple P)), v4, some (.ref n), none, none] g = some (.nx [v0, v1, v2, some (.dat (.tuple P)), v4, some (.ref n), none, none], g.set n (some (.lst (F ++ PS)))) := by
  have la : lstAt g n = some F := by unfold lstAt; simp only [hg]
  have ex : extendW (.ref n) [.dat (.list PS)] g = some (.dat .none, g.set n (some (.lst (F ++ PS)))) := by
    unfold extendW
    simp only [la, l2, if_true]
    unfold setL
    rfl
  unfold rdB
  clear l2
  walk_at "dl"
theorem rounds_run {x : D} {b : Nat} {h g1 g2 g3 : Hh} {QL A B S : List D} {n r k : Int} {PS : List D} {v3 : Option W} (e1 : m__law_rowG [.ref b, .dat x] h = some (.dat (.tuple QL), g1)) (hn : (QL.length : Int) = n) (e2 : m__law_takeG 12 [.ref b, .dat (.int n)] (g1 ++ [some (.lst [])]) = some (.dat (.int r), g2)) (hk : 1 + r = k) (cA : cutG QL none (some k) = A) (cB : cutG QL (some k) none = B)
    (e3 : forL (gN 3) rdB [.tuple A, .tuple B] [some (.ref b), some (.dat x), some (.dat (.int k)), none, some (.dat (.tuple QL)), some (.ref g1.length), none, none] g2 = some (.nx [some (.ref b), some (.dat x), some (.dat (.int k)), v3, some (.dat (.tuple QL)), some (.ref g1.length), none, none], g3)) (hg : g3[g1.length]? = some (some (.lst PS))) (n3 : ∀ n, isR n v3 = false) (hb : (b = g1.length) = False)
    (e4 : sortW false [.dat (.list PS)] (g3.set g1.length none) = some (.dat (.list S), g3.set g1.length none)) :
    m__law_rounds [.ref b, .dat x] h = leave false h (.dat (.tuple S)) (g3.set g1.length none) := by
  have hf : frz 5 [some (.ref b), some (.dat x), some (.dat (.int k)), v3, some (.dat (.tuple QL)), some (.ref g1.length), none, none] g3 = some ([some (.ref b), some (.dat x), some (.dat (.int k)), v3, some (.dat (.tuple QL)), some (.dat (.list PS)), none, none], g3.set g1.length none) := by
    unfold frz
    simp only [List.getElem?_cons_zero, List.getElem?_cons_succ, hg, List.set_cons_zero, List.set_cons_succ, List.any_cons, List.any_nil, isR_dat, isR_none, isR_ref, hb, n3, decide_false, Bool.or_false, isTab, Bool.false_eq_true, if_false, moD]
  have c0 : 0 ≤ sizeLine := by decide
  have c2 : 2 ≤ sizeLine := by decide
  unfold m__law_rounds
  unfold rdB at e3
  clear hg n3 hb
  walk_at "dl"
theorem rounds_ok {x : D} {l : List Str} {h : Hh} {b c : Nat} (hx : IsSeq x (l.map .str)) (ht : Txts l) (nd : l.Nodup) (hb : BoxAt h b c) (hc : c < 100000) (h0 : 0 < l.length) (h1 : l.length ≤ 30) :
    ∃ (ps : List (Str × Str)) (h' : Hh), m__law_rounds [.ref b, .dat x] h = some (.dat (cT ps), h') ∧ CallOf l ps ∧ BoxAt h' b (c + l.length + 1) ∧ Only b h h' := by
  have hz : sizeLine = 16777216 := rfl
  obtain ⟨q, g1, e1, pq, b1, o1⟩ := row_okG hx ht hb (by omega) (by omega)
  have ql := pq.length_eq
  obtain ⟨r, g2, e2, r0, r1, b2, o2⟩ := take_okG (n := ((q.map PyData.str).length : Int)) (box_app (l := [some (.lst [])]) b1) (by omega) (by rw [List.length_map]; omega) (by rw [List.length_map]; omega)
  rw [List.length_map] at r1
  obtain ⟨k, hk⟩ : ∃ k : Nat, 1 + r = k := ⟨(1 + r).toNat, by omega⟩
  obtain ⟨g, rfl, gl⟩ : ∃ g : Hh, g2 = g ++ [some (.lst [])] ∧ g.length = g1.length := (only_app b1.lt o2).2
  have og : Only b g1 g := by
    have := (only_app b1.lt o2).1
    rwa [← gl, List.take_left] at this
  have cA := cut_to (q.map PyData.str) (k := k)
  have cB := cut_drop (q.map PyData.str) (k := k)
  rw [← List.map_take] at cA
  rw [← List.map_drop] at cB
  rw [← hk] at cA cB
  have lA : (nextL (q.take k)).length ≤ 30 := by unfold nextL; simp; omega
  have lB : (nextL (q.drop k)).length ≤ 30 := by unfold nextL; simp; omega
  have s1 := rdB_run (v0 := some (.ref b)) (v1 := some (.dat x)) (v2 := some (.dat (.int (1 + r)))) (v4 := some (.dat (.tuple (q.map .str)))) (n := g1.length) (P := (q.take k).map .str) (F := []) (g := g ++ [some (.lst [])]) (app_get gl) (next_lc (l := q.take k) (v := fun _ _ => none) fun i s => ⟨_, rfl, rfl, rfl, rfl⟩) (by rw [List.length_map]; omega) (by rw [List.length_map, List.length_nil]; omega)
  rw [app_set gl, List.nil_append] at s1
  have s2 := rdB_run (v0 := some (.ref b)) (v1 := some (.dat x)) (v2 := some (.dat (.int (1 + r)))) (v4 := some (.dat (.tuple (q.map .str)))) (n := g1.length) (P := (q.drop k).map .str) (F := (nextL (q.take k)).map prT) (g := g ++ [some (.lst ((nextL (q.take k)).map prT))]) (app_get gl) (next_lc (l := q.drop k) (v := fun _ _ => none) fun i s => ⟨_, rfl, rfl, rfl, rfl⟩) (by rw [List.length_map]; omega) (by rw [List.length_map, List.length_map]; omega)
  rw [app_set gl, ← List.map_append] at s2
  have e3 : forL (gN 3) rdB [.tuple ((q.take k).map .str), .tuple ((q.drop k).map .str)] [some (.ref b), some (.dat x), some (.dat (.int (1 + r))), none, some (.dat (.tuple (q.map .str))), some (.ref g1.length), none, none] (g ++ [some (.lst [])]) = some (.nx [some (.ref b), some (.dat x), some (.dat (.int (1 + r))), some (.dat (.tuple ((q.drop k).map .str))), some (.dat (.tuple (q.map .str))), some (.ref g1.length), none, none], g ++ [some (.lst ((nextL (q.take k) ++ nextL (q.drop k)).map prT))]) := by
    have k1 : gN 3 (.dat (.tuple ((q.take k).map .str))) [some (.ref b), some (.dat x), some (.dat (.int (1 + r))), none, some (.dat (.tuple (q.map .str))), some (.ref g1.length), none, none] (g ++ [some (.lst [])]) = some [some (.ref b), some (.dat x), some (.dat (.int (1 + r))), some (.dat (.tuple ((q.take k).map .str))), some (.dat (.tuple (q.map .str))), some (.ref g1.length), none, none] := rfl
    have k2 : gN 3 (.dat (.tuple ((q.drop k).map .str))) [some (.ref b), some (.dat x), some (.dat (.int (1 + r))), some (.dat (.tuple ((q.take k).map .str))), some (.dat (.tuple (q.map .str))), some (.ref g1.length), none, none] (g ++ [some (.lst ((nextL (q.take k)).map prT))]) = some [some (.ref b), some (.dat x), some (.dat (.int (1 + r))), some (.dat (.tuple ((q.drop k).map .str))), some (.dat (.tuple (q.map .str))), some (.ref g1.length), none, none] := rfl
    simp only [forL, k1, s1, k2, s2]
  have qt : ∀ s ∈ q, TxtOk s := fun s hs => ht s (pq.mem_iff.mp hs)
  have pt : TxtP (nextL (q.take k) ++ nextL (q.drop k)) := fun p hp => by
    rcases List.mem_append.mp hp with hp | hp
    · obtain ⟨a1, a2⟩ := next_mem hp
      exact ⟨qt _ (List.mem_of_mem_take a1), qt _ (List.mem_of_mem_take a2)⟩
    · obtain ⟨a1, a2⟩ := next_mem hp
      exact ⟨qt _ (List.mem_of_mem_drop a1), qt _ (List.mem_of_mem_drop a2)⟩
  have gs : (g ++ [some (MO.lst ((nextL (q.take k) ++ nextL (q.drop k)).map prT))]).set g1.length none = g ++ [none] := app_set gl
  have so : sortW false [.dat (.list ((nextL (q.take k) ++ nextL (q.drop k)).map prT))] (g ++ [none]) = some (.dat (.list (((nextL (q.take k) ++ nextL (q.drop k)).mergeSort leP).map prT)), g ++ [none]) := by
    unfold sortW
    simp only [deref, sortable_prs pt, if_true, sortD_prs]
    rfl
  have run := rounds_run (S := ((nextL (q.take k) ++ nextL (q.drop k)).mergeSort leP).map prT) e1 rfl e2 rfl cA cB e3 (app_get gl) (fun _ => rfl) (by simp; have := b1.lt; omega) (by rw [gs]; exact so)
  rw [gs] at run
  have pS := List.mergeSort_perm (nextL (q.take k) ++ nextL (q.drop k)) leP
  have b3 : BoxAt g b (c + l.length + 1) := by
    have := box_take (n := g.length) b2 (by rw [gl]; exact b1.lt)
    rwa [List.take_left] at this
  have oo := o1.trans og
  refine ⟨(nextL (q.take k) ++ nextL (q.drop k)).mergeSort leP, g, ?_, ⟨?_, fun p hp => ?_⟩, b3, oo⟩
  · rw [run]; exact leave_two hb b3 oo
  · refine ((pS.map _).trans ?_).trans pq
    rw [List.map_append, next_fst, next_fst, List.take_append_drop]
  · have hp' := pS.mem_iff.mp hp
    rcases List.mem_append.mp hp' with hp' | hp'
    · exact pq.mem_iff.mp (List.mem_of_mem_take (next_mem hp').2)
    · exact pq.mem_iff.mp (List.mem_of_mem_drop (next_mem hp').2)
theorem wordG_ok {x : D} {l : List Str} {h : Hh} {b c n : Nat} (hx : IsSeq x (l.map .str)) (hb : BoxAt h b c) (hc : c < 90000) (h0 : 0 < l.length) (h1 : l.length ≤ 30) (hn : n ≤ 60) :
    ∃ (ws : List (List (Str × Str))) (h' : Hh), m__law_wordG [.ref b, .dat x, .dat (.int n)] h = some (.dat (.list (ws.map cT)), h') ∧ Words l ws ∧ ws.length ≤ n ∧ BoxAt h' b (c + 1 + n * 94) ∧ Only b h h' := by
  have hz : sizeLine = 16777216 := rfl
  obtain ⟨r, g1, e1, r0, r1, b1, o1⟩ := take_okG (n := (n : Int) + 1) hb (by omega) (by omega) (by omega)
  obtain ⟨ws, g2, e2, cw, wl, b2, o2⟩ := calls_lcG (l := l) (i := 3) (n := r.toNat) (ρ := [some (.ref b), some (.dat x), some (.dat (.int n)), none]) hx (fun d g => ⟨_, rfl, rfl⟩) (by omega) b1 (by omega) h0 h1
  have b3 : BoxAt g2 b (c + 1 + n * 94) := b2.mono (by omega)
  have oo := o1.trans o2
  have rg : rng1I (fCons (fA (m__law_takeG 12) (fCons (fVar 0) (fCons (f2 (addW false) (fVar 2) (fC (.int 1))) (fNil)))) (fNil)) [some (.ref b), some (.dat x), some (.dat (.int n)), none] h = some (rngD 0 r.toNat, g1) := by
    unfold rng1I
    have ea : (fCons (fA (m__law_takeG 12) (fCons (fVar 0) (fCons (f2 (addW false) (fVar 2) (fC (.int 1))) (fNil)))) (fNil)) [some (.ref b), some (.dat x), some (.dat (.int n)), none] h = some ([.dat (.int r)], g1) := xC (xA (xC rfl (xC (x2 (A := fVar 2) (B := fC (.int 1)) rfl rfl add_i) xN)) e1) xN
    simp only [ea, obnd]
    rw [if_pos (by omega)]
  have fin := xL (vs := [3]) rg e2 (by rw [List.length_map]; omega)
  exact ⟨ws, g2, fnM_rt (zR fin) rfl (leave_dat' hb b3 oo), cw, by omega, b3, oo⟩
theorem xB' {E : EM} {ρ : DL.Env} {b : Bool} {h h1 : Hh} (e : E ρ h = some (.dat (.bool b), h1)) : fB E ρ h = some (b, h1) := by
  unfold fB
  simp only [e, obnd]
theorem zS {a rest : SM} {ρ ρ1 : DL.Env} {h h1 : Hh} (e : a ρ h = some (.nx ρ1, h1)) : sSeq a rest ρ h = rest ρ1 h1 := by
  unfold sSeq
  rw [e]
theorem orbit_few {r : List Str} {ws : List (List (Str × Str))} {B U : Nat} (nd : r.Nodup) (hr : r.length ≤ 7) (R : RoundAt r ws B U) : B + U ≤ 5040 := by
  have new : ∀ j, j < B + U → ∀ i, i < j → Rn r ws i ≠ Rn r ws j := fun j hj i hi e => by
    have e' : ledAll r (oft ws (i + (j - i))) = ledAll r (oft ws i) := by rw [show i + (j - i) = j by omega]; exact e.symm
    obtain ⟨b1, d1⟩ := (R.iff i (j - i) (by omega)).mp e'
    have := Nat.le_of_dvd (by omega) d1
    omega
  have ndU : ((List.range (B + U)).map (Rn r ws)).Nodup := by
    rw [List.nodup_iff_pairwise_ne, List.pairwise_map]
    refine (List.pairwise_iff_getElem.mpr fun i j hi hj hij => ?_)
    rw [List.length_range] at hi hj
    rw [List.getElem_range, List.getElem_range]
    exact new j hj i hij
  have pr : ∀ n, (Rn r ws n).Perm r := fun n => ledAll_perm _ _
  have l1 := nd_le (L := lev r r.length) ndU fun x hx => by
    obtain ⟨i, _, rfl⟩ := List.mem_map.mp hx
    exact lev_mem.mpr ⟨(pr i).nodup_iff.mpr nd, (pr i).length_eq, fun s hs => (pr i).mem_iff.mp hs⟩
  rw [List.length_map, List.length_range] at l1
  exact Nat.le_trans l1 (Nat.le_trans (lev_len r r.length) (fac_seven r.length hr))
def tn (t : Nat → Bool) (a n : Nat) : List Int := (List.range n).map fun i => if t (a + i) = t (a + i + 1) then 0 else 1
theorem tn_len (t : Nat → Bool) (a n : Nat) : (tn t a n).length = n := by simp [tn]
theorem tn_sum (t : Nat → Bool) (a : Nat) : ∀ n, (tn t a n).sum = ((chg t a n : Nat) : Int)
  | 0 => rfl
  | n + 1 => by
    have e : tn t a (n + 1) = tn t a n ++ [if t (a + n) = t (a + n + 1) then 0 else 1] := by unfold tn; rw [List.range_succ, List.map_append]; rfl
    rw [e, List.sum_append, tn_sum t a n]
    show _ = ((chg t a n + (if t (a + n) = t (a + n + 1) then 0 else 1) : Nat) : Int)
    by_cases z : t (a + n) = t (a + n + 1)
    · simp [z]
    · simp [z]
theorem tn_take (t : Nat → Bool) (a n : Nat) {k : Nat} (h : k ≤ n) : (tn t a n).take k = tn t a k := by
  unfold tn
  rw [← List.map_take, List.take_range, Nat.min_eq_left h]
theorem tn_drop (t : Nat → Bool) (a : Nat) {k n : Nat} : (tn t a (k + n)).drop k = tn t (a + k) n := by
  apply List.ext_getElem
  · rw [List.length_drop, tn_len, tn_len]; omega
  · intro i h1 h2
    simp only [tn, List.getElem_drop, List.getElem_map, List.getElem_range, Nat.add_assoc]
theorem tn_ints (t : Nat → Bool) (a n : Nat) : intsD ((tn t a n).map .int) = some (tn t a n) := by
  generalize tn t a n = l
  induction l with
  | nil => rfl
  | cons x l ih => rw [List.map_cons, intsD, ih]; rfl
theorem sum_i {P : List D} {Q : List Int} {k : Int} {h : Hh} (e : intsD P = some Q) (hk : Q.sum = k) : sumW [.dat (.list P)] h = some (.dat (.int k), h) := by
  subst hk
  unfold sumW lW
  simp only [deref, e]; rfl
theorem len_i {P : List D} {n : Nat} {h : Hh} (e : P.length = n) : lenW [.dat (.list P)] h = some (.dat (.int (n : Int)), h) := by
  subst e
  rfl
theorem zIt' {t : BM} {a b rest : SM} {ρ : DL.Env} {h h1 h2 : Hh} {w : W} (ht : t ρ h = some (true, h1)) (ha : a ρ h1 = some (.rt w, h2)) : sSeq (sIf t a b) rest ρ h = some (.rt w, h2) := by
  unfold sSeq sIf
  simp only [ht, sbnd, if_true, ha]
theorem zipD_longer (x y z : List D) (e : x.length = z.length) : zipD (x ++ y) z = zipD x z := by
  induction x generalizing z with
  | nil =>
    have : z = [] := List.length_eq_zero_iff.mp e.symm
    subst this
    cases y <;> rfl
  | cons a x ih =>
    cases z with
    | nil => simp at e
    | cons c z => rw [List.cons_append, zipD, zipD, ih z (by simpa using e)]
theorem mul_r {i : Int} {n : Nat} {h : Hh} (hn : n ≤ 5040) : mulW false (.dat (.int i)) (.dat (.int (n : Int))) h = some (.dat (.int (i * (n : Int))), h) := by
  have c : ((-18446744073709551616 < i && i < 18446744073709551616) || (-18446744073709551616 < (n : Int) && (n : Int) < 18446744073709551616)) = true := by
    have a1 : (-18446744073709551616 : Int) < (n : Int) := by omega
    have a2 : (n : Int) < 18446744073709551616 := by omega
    rw [decide_eq_true a1, decide_eq_true a2]; simp
  unfold mulW
  simp only [deref, c, if_true]; rfl
theorem due_ok {t : Nat → Bool} {RW : List D} {A U many : Nat} {a e : Str} {h : Hh} (U0 : 0 < U) (few : A + U ≤ 5040) (ev : EvP t A U)
    (e1 : lcL (gN 10) (bYes) (f2 lt_W (fM isTp indexT (fVar 10) (fCons (fVar 2) (fNil))) (fM isTp indexT (fVar 10) (fCons (fVar 3) (fNil)))) [some (.dat (.list RW)), some (.dat (.int (A : Int))), some (.dat (.str a)), some (.dat (.str e)), some (.dat (.int (many : Int))), none, none, none, none, none, none, none, none] RW h = some ((tl t 0 (A + U + 1)).map .bool, h)) :
    m__law_due [.dat (.list RW), .dat (.int (A : Int)), .dat (.str a), .dat (.str e), .dat (.int (many : Int))] h = some (.dat (.int (chg t 0 many : Nat)), h) := by
  have hz : sizeLine = 16777216 := rfl
  have bl : ((tl t 0 (A + U + 1)).map PyData.bool).length = A + U + 1 := by rw [List.length_map, tl_len]
  have tlen : ((tn t 0 (A + U)).map PyData.int).length = A + U := by rw [List.length_map, tn_len]
  have zp : zipI (fCons (fVar 5) (fCons (fSl false (fVar 5) (oSome (fC (.int 1))) (oNone)) (fNil))) [some (.dat (.list RW)), some (.dat (.int (A : Int))), some (.dat (.str a)), some (.dat (.str e)), some (.dat (.int (many : Int))), some (.dat (.list ((tl t 0 (A + U + 1)).map .bool))), none, none, none, none, none, none, none] h = some ((List.range (A + U)).map fun i => PyData.tuple [.bool (t (0 + i)), .bool (t (0 + i + 1))], h) := by
    have cd : cutG ((tl t 0 (A + U + 1)).map PyData.bool) (some 1) none = (tl t (0 + 1) (A + U)).map .bool := by
      have := cut_drop ((tl t 0 (A + U + 1)).map PyData.bool) (k := 1)
      rw [show ((1 : Nat) : Int) = 1 from rfl] at this
      rw [this, ← List.map_drop, tl_drop _ _ (by omega), show A + U + 1 - 1 = A + U by omega]
    have ea : (fCons (fVar 5) (fCons (fSl false (fVar 5) (oSome (fC (.int 1))) (oNone)) (fNil))) [some (.dat (.list RW)), some (.dat (.int (A : Int))), some (.dat (.str a)), some (.dat (.str e)), some (.dat (.int (many : Int))), some (.dat (.list ((tl t 0 (A + U + 1)).map .bool))), none, none, none, none, none, none, none] h = some ([.dat (.list ((tl t 0 (A + U + 1)).map .bool)), .dat (.list ((tl t (0 + 1) (A + U)).map .bool))], h) :=
      xC (E := fVar 5) rfl (xC (sl_runF (A := fVar 5) (E := fC (.int 1)) (i := 1) rfl rfl cd) xN)
    have zz : zipD ((tl t 0 (A + U + 1)).map PyData.bool) ((tl t (0 + 1) (A + U)).map PyData.bool) = (List.range (A + U)).map fun i => PyData.tuple [.bool (t (0 + i)), .bool (t (0 + i + 1))] := by
      rw [← zip_tl, tl_add t 0 (A + U) 1, List.map_append]
      exact zipD_longer _ _ _ (by rw [List.length_map, List.length_map, tl_len, tl_len])
    unfold zipI
    simp only [ea, obnd, zipOk_bools, if_true, zz]
  have e2 : lcL (gT 2 (gC (gN 11) (gC (gN 12) (gE)))) (bYes) (fA intC (fCons (f2 (eqW true) (fVar 11) (fVar 12)) (fNil))) [some (.dat (.list RW)), some (.dat (.int (A : Int))), some (.dat (.str a)), some (.dat (.str e)), some (.dat (.int (many : Int))), some (.dat (.list ((tl t 0 (A + U + 1)).map .bool))), none, none, none, none, none, none, none] ((List.range (A + U)).map fun i => PyData.tuple [.bool (t (0 + i)), .bool (t (0 + i + 1))]) h = some ((tn t 0 (A + U)).map .int, h) := by
    have := lcL_list (k := gT 2 (gC (gN 11) (gC (gN 12) (gE)))) (f := fA intC (fCons (f2 (eqW true) (fVar 11) (fVar 12)) (fNil))) (ρ := [some (.dat (.list RW)), some (.dat (.int (A : Int))), some (.dat (.str a)), some (.dat (.str e)), some (.dat (.int (many : Int))), some (.dat (.list ((tl t 0 (A + U + 1)).map .bool))), none, none, none, none, none, none, none]) (h := h) (fun i : Nat => PyData.tuple [.bool (t (0 + i)), .bool (t (0 + i + 1))]) (fun i : Nat => PyData.int (if t (0 + i) = t (0 + i + 1) then 0 else 1)) (xs := List.range (A + U)) (fun i _ => by
      refine ⟨_, rfl, ?_⟩
      have q : eqW true (.dat (.bool (t (0 + i)))) (.dat (.bool (t (0 + i + 1)))) h = some (.dat (.bool (!decide (t (0 + i) = t (0 + i + 1)))), h) := by
        unfold eqW
        simp only [deref, eqS, if_true]; rfl
      refine xA (xC (x2 (A := fVar 11) (B := fVar 12) rfl rfl q) xN) ?_
      by_cases z : t (0 + i) = t (0 + i + 1)
      · rw [if_pos z, decide_eq_true z]; rfl
      · rw [if_neg z, decide_eq_false z]; rfl)
    rw [this]
    congr 2
    unfold tn
    rw [List.map_map]; rfl
  have lt : ∀ bb, decide ((many : Int) ≤ ((A + U : Nat) : Int)) = bb → fB (f2 le_W (fVar 4) (fA lenW (fCons (fVar 6) (fNil)))) [some (.dat (.list RW)), some (.dat (.int (A : Int))), some (.dat (.str a)), some (.dat (.str e)), some (.dat (.int (many : Int))), some (.dat (.list ((tl t 0 (A + U + 1)).map .bool))), some (.dat (.list ((tn t 0 (A + U)).map .int))), none, none, none, none, none, none] h = some (bb, h) := fun bb hb => by
    rw [← hb]
    exact xB (x2 (f := le_W) (A := fVar 4) rfl (xA (xC (E := fVar 6) rfl xN) (len_i tlen)) rfl)
  unfold m__law_due
  refine fnM_rt (h' := h) (w := .dat (.int (chg t 0 many : Nat))) ?_ rfl leave_same'
  show sSeq _ _ [some (.dat (.list RW)), some (.dat (.int (A : Int))), some (.dat (.str a)), some (.dat (.str e)), some (.dat (.int (many : Int))), none, none, none, none, none, none, none, none] h = _
  refine (zA (ρ1 := [some (.dat (.list RW)), some (.dat (.int (A : Int))), some (.dat (.str a)), some (.dat (.str e)), some (.dat (.int (many : Int))), some (.dat (.list ((tl t 0 (A + U + 1)).map .bool))), none, none, none, none, none, none, none]) (xL (vs := [10]) (xS (x := .list RW) (ds := RW) rfl (.inl rfl)) e1 (by rw [bl]; omega)) rfl).trans ?_
  refine (zA (ρ1 := [some (.dat (.list RW)), some (.dat (.int (A : Int))), some (.dat (.str a)), some (.dat (.str e)), some (.dat (.int (many : Int))), some (.dat (.list ((tl t 0 (A + U + 1)).map .bool))), some (.dat (.list ((tn t 0 (A + U)).map .int))), none, none, none, none, none, none]) (xL (vs := [11, 12]) zp e2 (by rw [tlen]; omega)) rfl).trans ?_
  have cutT : ∀ k : Nat, k ≤ A + U → cutG ((tn t 0 (A + U)).map PyData.int) none (some (k : Int)) = (tn t 0 k).map .int := fun k hk => by rw [cut_to, ← List.map_take, tn_take _ _ _ hk]
  by_cases z : many ≤ A + U
  · refine zIt' (lt true (decide_eq_true (by omega))) (zR (xA (xC (sl_runG (A := fVar 6) (E := fVar 4) rfl rfl (cutT many z)) xN) (sum_i (tn_ints _ _ _) (tn_sum _ _ _))))
  · refine (zI (lt false (decide_eq_false (by omega)))).trans ?_
    have cO : cutG ((tn t 0 (A + U)).map PyData.int) (some (A : Int)) none = (tn t A U).map .int := by rw [cut_drop, ← List.map_drop, tn_drop, Nat.zero_add]
    refine (zA (ρ1 := [some (.dat (.list RW)), some (.dat (.int (A : Int))), some (.dat (.str a)), some (.dat (.str e)), some (.dat (.int (many : Int))), some (.dat (.list ((tl t 0 (A + U + 1)).map .bool))), some (.dat (.list ((tn t 0 (A + U)).map .int))), some (.dat (.list ((tn t A U).map .int))), none, none, none, none, none]) (sl_runF (A := fVar 6) (E := fVar 1) rfl rfl cO) rfl).trans ?_
    have U0' : (0 : Int) < (U : Int) := by omega
    have sb : ∀ (ρ : DL.Env), fVar 4 ρ h = some (.dat (.int (many : Int)), h) → fVar 1 ρ h = some (.dat (.int (A : Int)), h) → f2 subW (fVar 4) (fVar 1) ρ h = some (.dat (.int ((many - A : Nat) : Int)), h) := fun ρ k1 k2 => by
      have := x2 (f := subW) k1 k2 (sub_i (h := h) (i := (many : Int)) (j := (A : Int)))
      rwa [show (many : Int) - (A : Int) = ((many - A : Nat) : Int) by omega] at this
    have ln : ∀ (ρ : DL.Env), fVar 7 ρ h = some (.dat (.list ((tn t A U).map .int)), h) → fA lenW (fCons (fVar 7) (fNil)) ρ h = some (.dat (.int (U : Int)), h) := fun ρ k => xA (xC k xN) (len_i (by rw [List.length_map, tn_len]))
    refine (zP (is := [8, 9]) (ws := [.dat (.int (((many - A) / U : Nat) : Int)), .dat (.int (((many - A) % U : Nat) : Int))]) (ρ1 := [some (.dat (.list RW)), some (.dat (.int (A : Int))), some (.dat (.str a)), some (.dat (.str e)), some (.dat (.int (many : Int))), some (.dat (.list ((tl t 0 (A + U + 1)).map .bool))), some (.dat (.list ((tn t 0 (A + U)).map .int))), some (.dat (.list ((tn t A U).map .int))), some (.dat (.int (((many - A) / U : Nat) : Int))), some (.dat (.int (((many - A) % U : Nat) : Int))), none, none, none])
      (xC (x2 (f := divW) (sb _ rfl rfl) (ln _ rfl) (by rw [Int.natCast_ediv]; exact div_i U0' (by omega))) (xC (x2 (f := modW) (sb _ rfl rfl) (ln _ rfl) (by rw [Int.natCast_emod]; exact mod_i U0')) xN)) rfl rfl).trans ?_
    have md := Nat.mod_lt (many - A) U0
    have cR : cutG ((tn t A U).map PyData.int) none (some (((many - A) % U : Nat) : Int)) = (tn t A ((many - A) % U)).map .int := by rw [cut_to, ← List.map_take, tn_take _ _ _ (by omega)]
    have cl := chg_le t A U
    have al := chg_all (n := many) ev U0 (by omega)
    have sl := x2 (f := addW false) (x2 (f := addW false) (xA (xC (sl_runG (A := fVar 6) (E := fVar 1) (ρ := [some (.dat (.list RW)), some (.dat (.int (A : Int))), some (.dat (.str a)), some (.dat (.str e)), some (.dat (.int (many : Int))), some (.dat (.list ((tl t 0 (A + U + 1)).map .bool))), some (.dat (.list ((tn t 0 (A + U)).map .int))), some (.dat (.list ((tn t A U).map .int))), some (.dat (.int (((many - A) / U : Nat) : Int))), some (.dat (.int (((many - A) % U : Nat) : Int))), none, none, none]) (h := h) rfl rfl (cutT A (by omega))) xN) (sum_i (tn_ints _ _ _) (tn_sum _ _ _)))
      (x2 (f := mulW false) (A := fVar 8) rfl (xA (xC (E := fVar 7) rfl xN) (sum_i (tn_ints _ _ _) (tn_sum _ _ _))) (mul_r (by omega))) add_i)
      (xA (xC (sl_runG (A := fVar 7) (E := fVar 9) rfl rfl cR) xN) (sum_i (tn_ints _ _ _) (tn_sum _ _ _))) add_i
    refine zR ?_
    rw [al, Int.natCast_add, Int.natCast_add, Int.natCast_mul]
    exact sl
noncomputable def dT (T : Nat → Addr) : SM := (sSeq (sAsg (fA (lstW true) (fCons (fA (m_changes T) (fCons (fVar 4) (fCons (fVar 5) (fCons (fVar 8) (fCons (fVar 9) (fCons (fVar 10) (fNil))))))) (fNil))) (gN 12))
    (sSeq (sExpr (fM isL appendW (fVar 12) (fCons (fA (m_changes T) (fCons (fA (listW false) (fCons (fVar 4) (fNil))) (fCons (fA tupleW (fCons (fVar 2) (fNil))) (fCons (fVar 9) (fCons (fVar 8) (fCons (fVar 10) (fNil))))))) (fNil))))
    (sSeq (sExpr (fM isL appendW (fVar 12) (fCons (fA (kwM 5 [4, 3, 2, 1, 0] (m_changes T)) (fCons (fVar 10) (fCons (fVar 9) (fCons (fVar 8) (fCons (fVar 5) (fCons (fVar 4) (fNil))))))) (fNil))))
    (sFrz 12 (sIf (bNot (fB (fA (m__law_same 12) (fCons (fVar 12) (fCons (f2 (mulW false) (fA (lstW false) (fCons (fVar 11) (fNil))) (fC (.int 3))) (fNil)))))) (sRet (fC (.bool false))) (sSkip))))))
noncomputable def dB (T : Nat → Addr) : SM := (sSeq (sAsg (fA (m__law_pickG) (fCons (fVar 0) (fCons (fVar 1) (fNil)))) (gN 8))
    (sSeq (sAsg (fA (m__law_pickG) (fCons (fVar 0) (fCons (fLc false (seqI (fVar 1)) (gN 15) (fB (f2 (eqW true) (fVar 15) (fVar 8))) (fVar 15) [15]) (fNil)))) (gN 9))
    (sSeq (sAsg (fA (m__law_takeG 12) (fCons (fVar 0) (fCons (fA (m__law_pickG) (fCons (fVar 0) (fCons (fA (lstW false) (fCons (fC (.int 4)) (fCons (fC (.int 61)) (fCons (f2 powW (fC (.int 10)) (fC (.int 12))) (fNil))))) (fNil)))) (fNil)))) (gN 10))
    (sSeq (sAsg (fA (m__law_due) (fCons (fVar 6) (fCons (fVar 7) (fCons (fVar 8) (fCons (fVar 9) (fCons (fVar 10) (fNil))))))) (gN 11))
    (dT T)))))
theorem dT_run {T : Nat → Addr} {b : Nat} {NL LL RL WS RW : List D} {A kk many : Int} {a e : Str} {d : D} {v12 v13 v14 v15 : Option W} {h : Hh}
    (c1 : m_changes T [.dat (.tuple RL), .dat (.list WS), .dat (.str a), .dat (.str e), .dat (.int many)] h = some (.dat (.int kk), h))
    (c2 : m_changes T [.dat (.list RL), .dat (.tuple LL), .dat (.str e), .dat (.str a), .dat (.int many)] (h ++ [some (.lst [.int kk])]) = some (.dat (.int kk), h ++ [some (.lst [.int kk])]))
    (c3 : m_changes T [.dat (.tuple RL), .dat (.list WS), .dat (.str a), .dat (.str e), .dat (.int many)] (h ++ [some (.lst [.int kk, .int kk])]) = some (.dat (.int kk), h ++ [some (.lst [.int kk, .int kk])]))
    (s1 : m__law_same 12 [.dat (.list [.int kk, .int kk, .int kk]), .dat (.list [.int kk, .int kk, .int kk])] (h ++ [none]) = some (.dat (.bool true), h ++ [none]))
    (hbl : (b = h.length) = False) (l1 : RL.length ≤ sizeLine) (l2 : LL.length ≤ sizeLine) :
    dT T [some (.ref b), some (.dat (.list NL)), some (.dat (.list LL)), some (.dat d), some (.dat (.tuple RL)), some (.dat (.list WS)), some (.dat (.list RW)), some (.dat (.int A)), some (.dat (.str a)), some (.dat (.str e)), some (.dat (.int many)), some (.dat (.int kk)), v12, none, none, none] h = some (.nx [some (.ref b), some (.dat (.list NL)), some (.dat (.list LL)), some (.dat d), some (.dat (.tuple RL)), some (.dat (.list WS)), some (.dat (.list RW)), some (.dat (.int A)), some (.dat (.str a)), some (.dat (.str e)), some (.dat (.int many)), some (.dat (.int kk)), some (.dat (.list [.int kk, .int kk, .int kk])), none, none, none], h ++ [none]) := by
  have n1 : 1 ≤ sizeLine := by decide
  have n2 : 2 ≤ sizeLine := by decide
  have n3 : 3 ≤ sizeLine := by decide
  have m1 : 1 < sizeLine := by decide
  have m2 : 2 < sizeLine := by decide
  have g1 : (h ++ [some (MO.lst [.int kk])])[h.length]? = some (some (.lst [.int kk])) := app_get rfl
  have p1 : (h ++ [some (MO.lst [.int kk])]).set h.length (some (.lst [.int kk, .int kk])) = h ++ [some (.lst [.int kk, .int kk])] := app_set rfl
  have g2 : (h ++ [some (MO.lst [.int kk, .int kk])])[h.length]? = some (some (.lst [.int kk, .int kk])) := app_get rfl
  have p2 : (h ++ [some (MO.lst [.int kk, .int kk])]).set h.length (some (.lst [.int kk, .int kk, .int kk])) = h ++ [some (.lst [.int kk, .int kk, .int kk])] := app_set rfl
  have g3 : (h ++ [some (MO.lst [.int kk, .int kk, .int kk])])[h.length]? = some (some (.lst [.int kk, .int kk, .int kk])) := app_get rfl
  have p3 : (h ++ [some (MO.lst [.int kk, .int kk, .int kk])]).set h.length none = h ++ [none] := app_set rfl
  have hf : frz 12 [some (.ref b), some (.dat (.list NL)), some (.dat (.list LL)), some (.dat d), some (.dat (.tuple RL)), some (.dat (.list WS)), some (.dat (.list RW)), some (.dat (.int A)), some (.dat (.str a)), some (.dat (.str e)), some (.dat (.int many)), some (.dat (.int kk)), some (.ref h.length), none, none, none] (h ++ [some (.lst [.int kk, .int kk, .int kk])]) =
      some ([some (.ref b), some (.dat (.list NL)), some (.dat (.list LL)), some (.dat d), some (.dat (.tuple RL)), some (.dat (.list WS)), some (.dat (.list RW)), some (.dat (.int A)), some (.dat (.str a)), some (.dat (.str e)), some (.dat (.int many)), some (.dat (.int kk)), some (.dat (.list [.int kk, .int kk, .int kk])), none, none, none], h ++ [none]) := by
    unfold frz
    simp only [List.getElem?_cons_zero, List.getElem?_cons_succ, g3, p3, List.set_cons_zero, List.set_cons_succ, List.any_cons, List.any_nil, isR_ref, isR_dat, isR_none, hbl, decide_false, Bool.or_false, isTab, Bool.false_eq_true, if_false, moD]
  have fl3 : [[PyData.int kk], [PyData.int kk], [PyData.int kk]].flatten = [.int kk, .int kk, .int kk] := rfl
  unfold dT
  clear hbl g3 p3
  walk_at "tg"
theorem xLc {IT : IM} {k : TM} {t : BM} {f : EM} {vs : List Nat} {ds rs : List D} {ρ : DL.Env} {h h1 h2 : Hh} (hi : IT ρ h = some (ds, h1)) (e : lcL k t f (wipeE ρ vs) ds h1 = some (rs, h2)) (hl : rs.length ≤ sizeLine) : fLc false IT k t f vs ρ h = some (.dat (.list rs), h2) := by
  unfold fLc
  simp only [hi, obnd, e]
  rw [if_pos hl]
  rfl
theorem xIx {A B : EM} {ρ : DL.Env} {h : Hh} {q : List Str} {s : Str} (ha : A ρ h = some (.dat (rowT q), h)) (hb : B ρ h = some (.dat (.str s), h)) (nd : q.Nodup) (hs : s ∈ q) : fM isTp indexT A (fCons B fNil) ρ h = some (.dat (.int (q.idxOf s : Int)), h) := by
  unfold fM
  simp only [ha, obnd, isTp_row nd (List.length_pos_of_mem hs), if_true, xC hb xN, index_row hs]
theorem idx_ne {q : List Str} {a e : Str} (ha : a ∈ q) (he : e ∈ q) (ne : a ≠ e) : q.idxOf a ≠ q.idxOf e := fun z => by
  have i1 := List.getElem_idxOf (List.idxOf_lt_length_iff.mpr ha)
  have i2 := List.getElem_idxOf (List.idxOf_lt_length_iff.mpr he)
  apply ne
  rw [← i1, ← i2]
  simp only [z]
theorem chg_not {t u : Nat → Bool} (H : ∀ j, t j = !u j) (a : Nat) : ∀ n, chg t a n = chg u a n
  | 0 => rfl
  | n + 1 => by
    show chg t a n + (if t (a + n) = t (a + n + 1) then 0 else 1) = chg u a n + (if u (a + n) = u (a + n + 1) then 0 else 1)
    rw [chg_not H a n, H, H]
    cases u (a + n) <;> cases u (a + n + 1) <;> rfl
theorem pow_t {h : Hh} : powW (.dat (.int 10)) (.dat (.int 12)) h = some (.dat (.int 1000000000000), h) := by rfl
theorem pairs_lists' {ps : List (Str × Str)} {ρ : DL.Env} {h : Hh} (hk : ∀ p : Str × Str, ∃ ρ1, gN 14 (.dat (prT p)) ρ h = some ρ1 ∧ fVar 14 ρ1 h = some (.dat (prT p), h)) : lcL (gN 14) bYes (fA (listW false) (fCons (fVar 14) (fNil))) ρ (ps.map prT) h = some (ps.map (prW true), h) := by
  refine lcL_list _ _ fun p _ => ?_
  obtain ⟨ρ1, k1, k2⟩ := hk p
  exact ⟨ρ1, k1, xA (xC k2 xN) (xList (.inr rfl))⟩
theorem turn_ok {T : Nat → Addr} {b c B U : Nat} {N r : List Str} {ws : List (List (Str × Str))} {d : D} {v8 v9 v10 v11 v12 : Option W} {h : Hh} (fk : Folk 7 N) (k2 : 2 ≤ N.length) (pr : r.Perm N) (cw : Words N ws) (wl : ws.length ≤ 4) (R : RoundAt r ws B U) (hb : BoxAt h b c) (hc : c < 100000) :
    ∃ (u8 u9 u10 u11 u12 : Option W) (g : Hh), dB T [some (.ref b), some (.dat (.list (N.map .str))), some (.dat (.list (ws.map (cD true)))), some (.dat d), some (.dat (rowT r)), some (.dat (.list (ws.map cT))), some (.dat (.list (rowsN r ws (B + U + 1)))), some (.dat (.int (B : Int))), v8, v9, v10, v11, v12, none, none, none] h = some (.nx [some (.ref b), some (.dat (.list (N.map .str))), some (.dat (.list (ws.map (cD true)))), some (.dat d), some (.dat (rowT r)), some (.dat (.list (ws.map cT))), some (.dat (.list (rowsN r ws (B + U + 1)))), some (.dat (.int (B : Int))), u8, u9, u10, u11, u12, none, none, none], g ++ [none]) ∧ BoxAt g b (c + 5) ∧ Only b h g := by
  have hz : sizeLine = 16777216 := rfl
  have c3' : 3 ≤ sizeLine := by decide
  have n12 := fk.le
  have rl := pr.length_eq
  obtain ⟨da, h1, e1, ma, b1, o1⟩ := pick_okG (x := .list (N.map .str)) (.inl rfl) hb (by omega) (by rw [List.length_map]; omega) (by rw [List.length_map]; omega)
  obtain ⟨a, ha, rfl⟩ := List.mem_map.mp ma
  have e2 := lcL_map (k := gN 15) (t := fB (f2 (eqW true) (fVar 15) (fVar 8))) (f := fVar 15) (ρ := [some (.ref b), some (.dat (.list (N.map .str))), some (.dat (.list (ws.map (cD true)))), some (.dat d), some (.dat (rowT r)), some (.dat (.list (ws.map cT))), some (.dat (.list (rowsN r ws (B + U + 1)))), some (.dat (.int (B : Int))), some (.dat (.str a)), v9, v10, v11, v12, none, none, none]) (h := h1) (fun d => !decide (unS d = a)) (fun d => d) (ds := N.map .str) (by
    intro d hd
    obtain ⟨s, hs, rfl⟩ := List.mem_map.mp hd
    refine ⟨_, rfl, ?_, fun _ => rfl⟩
    have eq := eqW_strs (neg := true) (i := s) (j := a) (h := h1)
    rw [if_pos rfl] at eq
    exact xB (x2 rfl rfl eq))
  have eO : ((N.map PyData.str).filter fun d => !decide (unS d = a)).map (fun d => d) = (N.filter fun s => !decide (s = a)).map .str := by
    rw [List.map_id', List.filter_map]; rfl
  rw [eO] at e2
  have lO : (N.filter fun s => !decide (s = a)).length ≤ N.length := List.length_filter_le _ _
  have pO : 0 < (N.filter fun s => !decide (s = a)).length := by
    obtain ⟨s, hs, hne⟩ : ∃ s ∈ N, s ≠ a := by
      by_cases q : ∃ s ∈ N, s ≠ a
      · exact q
      · exfalso
        have all : ∀ s ∈ N, s ∈ [a] := fun s hs => by
          by_cases z : s = a
          · simp [z]
          · exact absurd ⟨s, hs, z⟩ q
        have := nd_le fk.nd all
        simp at this
        omega
    exact List.length_pos_of_mem (List.mem_filter.mpr ⟨hs, by simpa using hne⟩)
  obtain ⟨de, h2, e3, me, b2, o2⟩ := pick_okG (x := .list ((N.filter fun s => !decide (s = a)).map .str)) (.inl rfl) b1 (by omega) (by rw [List.length_map]; omega) (by rw [List.length_map]; omega)
  obtain ⟨e, he', rfl⟩ := List.mem_map.mp me
  obtain ⟨he, hne⟩ := List.mem_filter.mp he'
  have ne : a ≠ e := fun z => by subst z; simp at hne
  obtain ⟨mo, h3, e4, mm, b3, o3⟩ := pick_okG (x := .list [.int 4, .int 61, .int 1000000000000]) (.inl rfl) b2 (by omega) (by simp) (by simp)
  obtain ⟨M, rfl, M0, M1⟩ : ∃ M : Int, mo = .int M ∧ 0 < M ∧ M ≤ 1000000000000 := by
    simp only [List.mem_cons, List.not_mem_nil, or_false] at mm
    rcases mm with rfl | rfl | rfl
    · exact ⟨_, rfl, by omega, by omega⟩
    · exact ⟨_, rfl, by omega, by omega⟩
    · exact ⟨_, rfl, by omega, by omega⟩
  obtain ⟨q, g, e5, q0, q1, b5, o5⟩ := take_okH (n := M) b3 (by omega) M0 (by omega)
  obtain ⟨m, rfl⟩ : ∃ m : Nat, q = (m : Int) := ⟨q.toNat, by omega⟩
  have oo := ((o1.trans o2).trans o3).trans o5
  have b6 : BoxAt g b (c + 5) := b5.mono (by omega)
  have nr : r.Nodup := pr.nodup_iff.mpr fk.nd
  have tr : Txts r := fun s hs => fk.txts s (pr.mem_iff.mp hs)
  have cr : Words r ws := cw.perm pr.symm
  have ha' := pr.mem_iff.mpr ha
  have he'' := pr.mem_iff.mpr he
  have pm : (a, e) ∈ prsN r := prsN_mem.mpr ⟨ha', he'', ne⟩
  have pm' : (e, a) ∈ prsN r := prsN_mem.mpr ⟨he'', ha', ne.symm⟩
  have few := orbit_few nr (by omega) R
  have U0 := R.pos
  have ev : EvP (trB r (lastW ws.reverse) (a, e)) B U := (led_again nr cr).mp ((R.iff B U U0).mpr ⟨Nat.le_refl _, Nat.dvd_refl _⟩) (a, e) pm
  have pR : ∀ n, (Rn r ws n).Perm r := fun n => ledAll_perm _ _
  have eb : lcL (gN 10) (bYes) (f2 lt_W (fM isTp indexT (fVar 10) (fCons (fVar 2) (fNil))) (fM isTp indexT (fVar 10) (fCons (fVar 3) (fNil)))) [some (.dat (.list (rowsN r ws (B + U + 1)))), some (.dat (.int (B : Int))), some (.dat (.str a)), some (.dat (.str e)), some (.dat (.int (m : Int))), none, none, none, none, none, none, none, none] (rowsN r ws (B + U + 1)) g = some ((tl (trB r (lastW ws.reverse) (a, e)) 0 (B + U + 1)).map .bool, g) := by
    have := lcL_list (k := gN 10) (f := f2 lt_W (fM isTp indexT (fVar 10) (fCons (fVar 2) (fNil))) (fM isTp indexT (fVar 10) (fCons (fVar 3) (fNil)))) (ρ := [some (.dat (.list (rowsN r ws (B + U + 1)))), some (.dat (.int (B : Int))), some (.dat (.str a)), some (.dat (.str e)), some (.dat (.int (m : Int))), none, none, none, none, none, none, none, none]) (h := g) (fun i : Nat => rowT (Rn r ws i)) (fun i : Nat => PyData.bool (trB r (lastW ws.reverse) (a, e) i)) (xs := List.range (B + U + 1)) (fun i _ => by
      refine ⟨_, rfl, ?_⟩
      have nn := (pR i).nodup_iff.mpr nr
      refine x2 (f := lt_W) (xIx (A := fVar 10) (B := fVar 2) rfl rfl nn ((pR i).mem_iff.mpr ha')) (xIx (A := fVar 10) (B := fVar 3) rfl rfl nn ((pR i).mem_iff.mpr he'')) ?_
      rw [trB_led cr pm i, ← dec_cast]; rfl)
    unfold rowsN
    unfold rowsN at this
    rw [this]
    congr 2
    unfold tl
    rw [List.map_map]
    apply List.map_congr_left
    intro i _
    show PyData.bool _ = PyData.bool (trB r (lastW ws.reverse) (a, e) (0 + i))
    rw [Nat.zero_add]
  have ed := due_ok (many := m) U0 few ev eb
  have flip : chg (trB r (lastW ws.reverse) (e, a)) 0 m = chg (trB r (lastW ws.reverse) (a, e)) 0 m := chg_not (fun j => by
    rw [trB_led cr pm j, trB_led cr pm' j]
    have : (ledAll r (oft ws j)).idxOf a ≠ (ledAll r (oft ws j)).idxOf e := idx_ne ((pR j).mem_iff.mpr ha') ((pR j).mem_iff.mpr he'') ne
    simp only
    by_cases z : (ledAll r (oft ws j)).idxOf a < (ledAll r (oft ws j)).idxOf e
    · rw [decide_eq_true z, decide_eq_false (by omega)]; rfl
    · rw [decide_eq_false z, decide_eq_true (by omega)]; rfl) 0 m
  have ch1 : ∀ H : Hh, m_changes T [.dat (rowT r), .dat (.list (ws.map cT)), .dat (.str a), .dat (.str e), .dat (.int (m : Int))] H = some (.dat (.int (chg (trB r (lastW ws.reverse) (a, e)) 0 m : Nat)), H) := fun H => changes_ok (lb := false) (.inr rfl) (sq_cT ws) cr nr (by omega) tr (by omega) ha' he'' ne
  have ch2 : ∀ H : Hh, m_changes T [.dat (.list (r.map .str)), .dat (.tuple (ws.map (cD true))), .dat (.str e), .dat (.str a), .dat (.int (m : Int))] H = some (.dat (.int (chg (trB r (lastW ws.reverse) (a, e)) 0 m : Nat)), H) := fun H => by
    have := changes_ok (T := T) (x := .list (r.map .str)) (y := .tuple (ws.map (cD true))) (lb := true) (many := m) (h := H) (.inl rfl) (.inr rfl) cr nr (by omega) tr (by omega) he'' ha' ne.symm
    rwa [flip] at this
  have sm := same_refl 12 (.list [.int (chg (trB r (lastW ws.reverse) (a, e)) 0 m : Nat), .int (chg (trB r (lastW ws.reverse) (a, e)) 0 m : Nat), .int (chg (trB r (lastW ws.reverse) (a, e)) 0 m : Nat)]) (g ++ [none]) (by rfl) (by simp [PyData.depth, PyData.depthAll])
  have hbl : (b = g.length) = False := by
    have := b6.lt
    simp only [eq_iff_iff, iff_false]; omega
  have fin := dT_run (T := T) (NL := N.map .str) (RW := rowsN r ws (B + U + 1)) (A := (B : Int)) (d := d) (v12 := v12) (v13 := none) (v14 := none) (v15 := none) (ch1 g) (ch2 _) (ch1 _) sm hbl (by rw [List.length_map]; omega) (by rw [List.length_map]; omega)
  refine ⟨some (.dat (.str a)), some (.dat (.str e)), some (.dat (.int (m : Int))), some (.dat (.int (chg (trB r (lastW ws.reverse) (a, e)) 0 m : Nat))), some (.dat (.list [.int (chg (trB r (lastW ws.reverse) (a, e)) 0 m : Nat), .int (chg (trB r (lastW ws.reverse) (a, e)) 0 m : Nat), .int (chg (trB r (lastW ws.reverse) (a, e)) 0 m : Nat)])), g, ?_, b6, oo⟩
  have l2 : ((N.filter fun s => !decide (s = a)).map PyData.str).length ≤ sizeLine := by rw [List.length_map]; omega
  have s2 : fA (m__law_pickG) (fCons (fVar 0) (fCons (fLc false (seqI (fVar 1)) (gN 15) (fB (f2 (eqW true) (fVar 15) (fVar 8))) (fVar 15) [15]) (fNil))) [some (.ref b), some (.dat (.list (N.map .str))), some (.dat (.list (ws.map (cD true)))), some (.dat d), some (.dat (rowT r)), some (.dat (.list (ws.map cT))), some (.dat (.list (rowsN r ws (B + U + 1)))), some (.dat (.int (B : Int))), some (.dat (.str a)), v9, v10, v11, v12, none, none, none] h1 = some (.dat (.str e), h2) := xA (xC (E := fVar 0) rfl (xC (xLc (vs := [15]) (xS (x := .list (N.map .str)) (ds := N.map .str) rfl (.inl rfl)) e2 l2) xN)) e3
  unfold dB
  refine (zA (ρ1 := [some (.ref b), some (.dat (.list (N.map .str))), some (.dat (.list (ws.map (cD true)))), some (.dat d), some (.dat (rowT r)), some (.dat (.list (ws.map cT))), some (.dat (.list (rowsN r ws (B + U + 1)))), some (.dat (.int (B : Int))), some (.dat (.str a)), v9, v10, v11, v12, none, none, none]) (xA (xC rfl (xC rfl xN)) e1) rfl).trans ?_
  refine (zA (ρ1 := [some (.ref b), some (.dat (.list (N.map .str))), some (.dat (.list (ws.map (cD true)))), some (.dat d), some (.dat (rowT r)), some (.dat (.list (ws.map cT))), some (.dat (.list (rowsN r ws (B + U + 1)))), some (.dat (.int (B : Int))), some (.dat (.str a)), some (.dat (.str e)), v10, v11, v12, none, none, none]) s2 rfl).trans ?_
  refine (zA (ρ1 := [some (.ref b), some (.dat (.list (N.map .str))), some (.dat (.list (ws.map (cD true)))), some (.dat d), some (.dat (rowT r)), some (.dat (.list (ws.map cT))), some (.dat (.list (rowsN r ws (B + U + 1)))), some (.dat (.int (B : Int))), some (.dat (.str a)), some (.dat (.str e)), some (.dat (.int (m : Int))), v11, v12, none, none, none])
    (xA (xC (E := fVar 0) rfl (xC (xA (xC (E := fVar 0) rfl (xC (xA (xC (E := fC (.int 4)) rfl (xC (E := fC (.int 61)) rfl (xC (x2 (f := powW) (A := fC (.int 10)) (B := fC (.int 12)) rfl rfl pow_t) xN))) (xLst (ds := [.int 4, .int 61, .int 1000000000000]) rfl c3')) xN)) e4) xN)) e5) rfl).trans ?_
  refine (zA (ρ1 := [some (.ref b), some (.dat (.list (N.map .str))), some (.dat (.list (ws.map (cD true)))), some (.dat d), some (.dat (rowT r)), some (.dat (.list (ws.map cT))), some (.dat (.list (rowsN r ws (B + U + 1)))), some (.dat (.int (B : Int))), some (.dat (.str a)), some (.dat (.str e)), some (.dat (.int (m : Int))), some (.dat (.int (chg (trB r (lastW ws.reverse) (a, e)) 0 m : Nat))), v12, none, none, none]) (xA (xC rfl (xC rfl (xC rfl (xC rfl (xC rfl xN))))) ed) rfl).trans ?_
  exact fin
theorem right_ok (T : Nat → Addr) (h : Hh) (b c : Nat) (hb : BoxAt h b c) (hc : c ≤ 2 * 1000) : ∃ h', m__law_right T [.ref b] h = some (.dat (.bool true), h') ∧ BoxAt h' b (c + 1000) ∧ Only b h h' := by
  have hz : sizeLine = 16777216 := rfl
  have c1' : 1 ≤ sizeLine := by decide
  have c2' : 2 ≤ sizeLine := by decide
  obtain ⟨l, h1, e1, fk0, hz6, _, b1, o1⟩ := names_okZG (most := 6) hb (by omega) (by omega) (by omega)
  obtain ⟨fk, k2, nz⟩ := zz_more fk0 hz6
  have x1 : l.map PyData.str ++ [.str zz] = (l ++ [zz]).map .str := by rw [List.map_append]; rfl
  have l6 := fk0.le
  have tz : Txts (l ++ [zz]) := fun s hs => fk.txts s ((sortS_perm _).mem_iff.mpr hs)
  have e2 := sortW_strs (x := .list ((l ++ [zz]).map .str)) (h := h1) (.inl rfl) tz
  have e1' : fA (sortW false) (fCons (f2 (addW false) (fA (m__law_namesG) (fCons (fVar 0) (fCons (fC (.int 6)) (fNil)))) (fA (lstW false) (fCons (fC (.str "zz")) (fNil)))) (fNil)) [some (.ref b), none, none, none, none, none, none, none, none, none, none, none, none, none, none, none] h = some (.dat (.list ((sortS (l ++ [zz])).map .str)), h1) := by
    refine xA (xC (x2 (xA (xC (E := fVar 0) rfl (xC (E := fC (.int 6)) rfl xN)) e1) (xA (xC (E := fC (.str "zz")) rfl xN) (xLst (ds := [.str "zz"]) rfl c1')) (xAdd (a := l.map .str) (b := [.str zz]) (by simp; omega))) xN) ?_
    rw [x1]; exact e2
  generalize sortS (l ++ [zz]) = N at *
  have n7 := fk.le
  obtain ⟨r, h2, e3, pr, b2, o2⟩ := row_okG (x := .list (N.map .str)) (.inl rfl) fk.txts b1 (by omega) (by omega)
  have rl := pr.length_eq
  obtain ⟨w0, h3, e4, cw0, wl0, b3, o3⟩ := wordG_ok (x := .list (N.map .str)) (n := 3) (.inl rfl) b2 (by omega) (by omega) (by omega) (by omega)
  obtain ⟨t, h4, e5, t0, t1, b4, o4⟩ := take_okG (n := 2) b3 (by omega) (by omega) (by omega)
  obtain ⟨ws, g, e6, cw, wl, b5, o5⟩ : ∃ (ws : List (List (Str × Str))) (g : Hh), sIf (fB (f2 (eqW false) (fA (m__law_takeG 12) (fCons (fVar 0) (fCons (fC (.int 2)) (fNil)))) (fC (.int 0)))) (sAsg (f2 (addW false) (fSl false (fVar 5) (oNone) (oSome (fC (.int 1)))) (fA (lstW false) (fCons (fA (m__law_rounds) (fCons (fVar 0) (fCons (fVar 1) (fNil)))) (fNil)))) (gN 5)) (sSkip)
      [some (.ref b), some (.dat (.list (N.map .str))), none, none, some (.dat (rowT r)), some (.dat (.list (w0.map cT))), none, none, none, none, none, none, none, none, none, none] h3 = some (.nx [some (.ref b), some (.dat (.list (N.map .str))), none, none, some (.dat (rowT r)), some (.dat (.list (ws.map cT))), none, none, none, none, none, none, none, none, none, none], g) ∧ Words N ws ∧ ws.length ≤ 3 ∧ BoxAt g b (c + 500) ∧ Only b h3 g := by
    have tst : ∀ bb, decide (t = 0) = bb → fB (f2 (eqW false) (fA (m__law_takeG 12) (fCons (fVar 0) (fCons (fC (.int 2)) (fNil)))) (fC (.int 0))) [some (.ref b), some (.dat (.list (N.map .str))), none, none, some (.dat (rowT r)), some (.dat (.list (w0.map cT))), none, none, none, none, none, none, none, none, none, none] h3 = some (bb, h4) := fun bb hb => xB' (x2 (xA (xC rfl (xC rfl xN)) e5) (B := fC (.int 0)) rfl (eq_i hb))
    by_cases z : t = 0
    · obtain ⟨ps, g, e6, c6, b6, o6⟩ := rounds_ok (x := .list (N.map .str)) (.inl rfl) fk.txts fk.nd b4 (by omega) fk.pos (by omega)
      refine ⟨w0.take 1 ++ [ps], g, ?_, fun q hq => ?_, by simp; omega, b6.mono (by omega), o4.trans o6⟩
      · have ct := cut_to (w0.map cT) (k := 1)
        have s1 : fSl false (fVar 5) (oNone) (oSome (fC (.int 1))) [some (.ref b), some (.dat (.list (N.map .str))), none, none, some (.dat (rowT r)), some (.dat (.list (w0.map cT))), none, none, none, none, none, none, none, none, none, none] h4 = some (.dat (.list ((w0.take 1).map cT)), h4) := by
          refine sl_runG (A := fVar 5) (E := fC (.int 1)) (i := 1) rfl rfl ?_
          rw [List.map_take]; exact ct
        have s2 := xA (m := lstW false) (xC (xA (xC (E := fVar 0) (ρ := [some (.ref b), some (.dat (.list (N.map .str))), none, none, some (.dat (rowT r)), some (.dat (.list (w0.map cT))), none, none, none, none, none, none, none, none, none, none]) rfl (xC (E := fVar 1) rfl xN)) e6) xN) (xLst (ds := [cT ps]) rfl c1')
        have s3 := x2 s1 s2 (xAdd (a := (w0.take 1).map cT) (b := [cT ps]) (by simp; omega))
        unfold sIf
        simp only [tst true (decide_eq_true z), sbnd, if_true]
        unfold sAsg
        simp only [s3, sbnd]
        rw [List.map_append]; rfl
      · rcases List.mem_append.mp hq with hq | hq
        · exact cw0 q (List.mem_of_mem_take hq)
        · rw [List.mem_singleton] at hq; subst hq; exact c6
    · refine ⟨w0, h4, ?_, cw0, wl0, b4.mono (by omega), o4⟩
      unfold sIf
      simp only [tst false (decide_eq_false z), sbnd, Bool.false_eq_true, if_false]
      rfl
  have nr : r.Nodup := pr.nodup_iff.mpr fk.nd
  have tr : Txts r := fun s hs => fk.txts s (pr.mem_iff.mp hs)
  have cr : Words r ws := cw.perm pr.symm
  obtain ⟨B, U, R, _⟩ := comes_ok (T := T) (x := rowT r) (y := .list (ws.map cT)) (lb := false) (h := g) (.inr rfl) (sq_cT ws) cr nr (by omega) tr (by omega)
  have eo := orbit_ok (h := g) cr nr (by rw [rl]; exact fk.pos) (by omega) R
  have wt := words_txt fk.txts cw
  have ls := lcL_list (k := gN 13) (f := fLc false (seqI (fVar 13)) (gN 14) (bYes) (fA (listW false) (fCons (fVar 14) (fNil))) [14]) (ρ := [some (.ref b), some (.dat (.list (N.map .str))), none, none, some (.dat (rowT r)), some (.dat (.list (ws.map cT))), some (.dat (.list (rowsN r ws (B + U + 1)))), some (.dat (.int (B : Int))), none, none, none, none, none, none, none, none]) (h := g) cT (fun ps => cD true ps) (xs := ws) (fun ps hp => by
    have pl := (wt ps hp).2
    exact ⟨_, rfl, xL (vs := [14]) (xS (x := cT ps) (ds := ps.map prT) rfl (.inr rfl)) (pairs_lists' fun p => ⟨_, rfl, rfl⟩) (by rw [List.length_map]; omega)⟩)
  have oo := (((o1.trans o2).trans o3).trans o5)
  obtain ⟨ρ', h6, e7, v3, v8, v9, v10, v11, v12, rfl, b6, o6⟩ := forL_end (k := gN 3) (body := dB T) (ds := rngD 0 6) (fun n ρ H => ∃ v3 v8 v9 v10 v11 v12 : Option W, ρ = [some (.ref b), some (.dat (.list (N.map .str))), some (.dat (.list (ws.map (cD true)))), v3, some (.dat (rowT r)), some (.dat (.list (ws.map cT))), some (.dat (.list (rowsN r ws (B + U + 1)))), some (.dat (.int (B : Int))), v8, v9, v10, v11, v12, none, none, none] ∧ BoxAt H b (c + 500 + 5 * n) ∧ OnlyP b h H)
    (ρ := [some (.ref b), some (.dat (.list (N.map .str))), some (.dat (.list (ws.map (cD true)))), none, some (.dat (rowT r)), some (.dat (.list (ws.map cT))), some (.dat (.list (rowsN r ws (B + U + 1)))), some (.dat (.int (B : Int))), none, none, none, none, none, none, none, none]) (h := g)
    ⟨none, none, none, none, none, none, rfl, b5, oo.p⟩ (by
      intro j d ej ρ H hi
      obtain ⟨v3, v8, v9, v10, v11, v12, rfl, bg, og⟩ := hi
      have jl : j < 6 := by
        have := (List.getElem?_eq_some_iff.mp ej).1
        simpa [rngD] using this
      obtain ⟨u8, u9, u10, u11, u12, g', et, bg', og'⟩ := turn_ok (T := T) (d := d) (v8 := v8) (v9 := v9) (v10 := v10) (v11 := v11) (v12 := v12) fk k2 pr cw (by omega) R bg (by omega)
      exact ⟨_, _, _, rfl, et, _, _, _, _, _, _, rfl, (box_app bg').mono (by omega), (og.only og').app⟩)
  have dl : (rngD 0 6).length = 6 := by simp [rngD]
  rw [dl] at b6
  have b7 : BoxAt h6 b (c + 1000) := b6.mono (by omega)
  obtain ⟨hE, lv, bE, oE⟩ := leave_P (d := .bool true) hb b7 o6
  refine ⟨hE, ?_, bE, oE⟩
  unfold m__law_right
  refine fnM_rt (h' := h6) (w := .dat (.bool true)) ?_ rfl lv
  show sSeq _ _ [some (.ref b), none, none, none, none, none, none, none, none, none, none, none, none, none, none, none] h = _
  refine (zA (ρ1 := [some (.ref b), some (.dat (.list (N.map .str))), none, none, none, none, none, none, none, none, none, none, none, none, none, none]) e1' rfl).trans ?_
  refine (zP (is := [4, 5]) (ρ1 := [some (.ref b), some (.dat (.list (N.map .str))), none, none, some (.dat (rowT r)), some (.dat (.list (w0.map cT))), none, none, none, none, none, none, none, none, none, none]) (xC (xA (xC rfl (xC rfl xN)) e3) (xC (xA (xC rfl (xC rfl (xC rfl xN))) e4) xN)) rfl rfl).trans ?_
  refine (zS e6).trans ?_
  refine (zA (ρ1 := [some (.ref b), some (.dat (.list (N.map .str))), none, none, some (.dat (rowT r)), some (.dat (.list (ws.map cT))), some (.dat (.list (rowsN r ws (B + U + 1)))), some (.dat (.int (B : Int))), none, none, none, none, none, none, none, none]) (xA (xC rfl (xC rfl xN)) eo) rfl).trans ?_
  refine (zA (ρ1 := [some (.ref b), some (.dat (.list (N.map .str))), some (.dat (.list (ws.map (cD true)))), none, some (.dat (rowT r)), some (.dat (.list (ws.map cT))), some (.dat (.list (rowsN r ws (B + U + 1)))), some (.dat (.int (B : Int))), none, none, none, none, none, none, none, none]) (xL (vs := [13]) (xS (x := .list (ws.map cT)) (ds := ws.map cT) rfl (.inl rfl)) ls (by rw [List.length_map]; omega)) rfl).trans ?_
  refine (zF (h1 := g) (ds := rngD 0 6) (body := dB T) ?_ e7).trans ?_
  · unfold rng1I
    have ea : (fCons (fC (.int 6)) (fNil)) [some (.ref b), some (.dat (.list (N.map .str))), some (.dat (.list (ws.map (cD true)))), none, some (.dat (rowT r)), some (.dat (.list (ws.map cT))), some (.dat (.list (rowsN r ws (B + U + 1)))), some (.dat (.int (B : Int))), none, none, none, none, none, none, none, none] g = some ([.dat (.int 6)], g) := xC rfl xN
    simp only [ea, obnd]
    rw [if_pos (by omega)]; rfl
  exact zR rfl
theorem law_eq (T : Nat → Addr) : m_law T = lawF 2 (m__law_right T) := rfl
theorem law_true (T : Nat → Addr) (ns : List Int) (hl : ns.length ≤ 63) : ∃ h, m_law T [.scr ns] [] = some (.dat (.bool true), h) := by
  rw [law_eq]
  exact law_okF (t := 2) (h0 := []) (cost := 1000) rfl (by omega) (by omega) (by decide) (fun h b c _ _ hb hc => right_ok T h b c hb hc) ns hl
end LW
set_option maxHeartbeats 4000000
namespace LW
open PySem PySem.Spec PyProof.Rows L2 DL
def topS (i : Nat) : Stmt := PySem.Challenge.pw_standby_k28_how_often_two_change.main.body.getD i (.Pass ⟨0, 0, 0, 0⟩)
section
variable [HW] {K : PySem.W.Frag} {mg : Str → Option Value} {base : Heap}
abbrev s_places_of : Stmt := topS 6
abbrev N_places_of : List Str := ["row", "place", "name"]
theorem sc_places_of : FnScope N_places_of ["row"] (defScope s_places_of) := ⟨rfl, rfl, rfl, by decide +kernel, rfl, by decide +kernel, by decide +kernel⟩
theorem ok_places_of (f : Addr) (fd : FuncData) (F : Fun K "places_of" "places_of" s_places_of f fd) (hm : mg "places_of" = some (.ref f)) (B : Bi mg)   : GD HW.P HW.w K mg base 1 "places_of" s_places_of ["row"] m_places_of := gd_ok false F hm sc_places_of fun cdv A outer s H E hr =>
    ds_one (ds_ret (d_dc false (own := [("place", 1), ("name", 2)]) rfl sc_places_of.nd (di_enumA B.enumerate (da_cons (dv 0 (pv 0)) (da_nil))) (blkOk_by (N := N_places_of) (sc := defScope s_places_of) (by decide +kernel)) (fun _ _ _ _ _ => dg_tup rfl (dgs_cons (dg_name 1 (pg_name (i := 1) sc_places_of.nd rfl (Or.inl rfl))) (dgs_cons (dg_name 2 (pg_name (i := 2) sc_places_of.nd rfl (Or.inl rfl))) (dgs_nil)))) (fun _ _ _ _ _ => dts_nil) (fun _ _ _ _ _ => dv 2 (pv 2)) (fun _ _ _ _ _ => dv 1 (pv 1)) (by decide)))
abbrev s_look_alike : Stmt := topS 7
abbrev N_look_alike : List Str := ["one", "other"]
theorem sc_look_alike : FnScope N_look_alike ["one", "other"] (defScope s_look_alike) := ⟨rfl, rfl, rfl, by decide +kernel, rfl, by decide +kernel, by decide +kernel⟩
theorem ok_look_alike (f : Addr) (fd : FuncData) (F : Fun K "look_alike" "look_alike" s_look_alike f fd) (hm : mg "look_alike" = some (.ref f)) (B : Bi mg)   : GD HW.P HW.w K mg base 1 "look_alike" s_look_alike ["one", "other"] m_look_alike := gd_ok false F hm sc_look_alike fun cdv A outer s H E hr =>
    ds_one (ds_if (t_ne hr.room (d_sorted hr false B.sorted (da_cons (dv 0 (pv 0)) (da_nil))) (d_sorted hr false B.sorted (da_cons (dv 1 (pv 1)) (da_nil)))) (ds_one (ds_never)) (ds_nil))
abbrev s_by_names : Stmt := topS 9
abbrev N_by_names : List Str := ["call", "who", "whom"]
theorem sc_by_names : FnScope N_by_names ["call"] (defScope s_by_names) := ⟨rfl, rfl, rfl, by decide +kernel, rfl, by decide +kernel, by decide +kernel⟩
theorem ok_by_names (f : Addr) (fd : FuncData) (F : Fun K "by_names" "by_names" s_by_names f fd) (hm : mg "by_names" = some (.ref f)) (B : Bi mg)   : GD HW.P HW.w K mg base 1 "by_names" s_by_names ["call"] m_by_names := gd_ok false F hm sc_by_names fun cdv A outer s H E hr =>
    ds_one (ds_ret (d_dc false (own := [("who", 1), ("whom", 2)]) rfl sc_by_names.nd (di_seq (dv 0 (pv 0))) (blkOk_by (N := N_by_names) (sc := defScope s_by_names) (by decide +kernel)) (fun _ _ _ _ _ => dg_tup rfl (dgs_cons (dg_name 1 (pg_name (i := 1) sc_by_names.nd rfl (Or.inl rfl))) (dgs_cons (dg_name 2 (pg_name (i := 2) sc_by_names.nd rfl (Or.inl rfl))) (dgs_nil)))) (fun _ _ _ _ _ => dts_nil) (fun _ _ _ _ _ => dv 1 (pv 1)) (fun _ _ _ _ _ => dv 2 (pv 2)) (by decide)))
abbrev s_people : Stmt := topS 10
abbrev N_people : List Str := ["call", "who", "whom"]
theorem sc_people : FnScope N_people ["call"] (defScope s_people) := ⟨rfl, rfl, rfl, by decide +kernel, rfl, by decide +kernel, by decide +kernel⟩
theorem ok_people (f : Addr) (fd : FuncData) (F : Fun K "people" "people" s_people f fd) (hm : mg "people" = some (.ref f)) (B : Bi mg)   : GD HW.P HW.w K mg base 1 "people" s_people ["call"] m_people := gd_ok false F hm sc_people fun cdv A outer s H E hr =>
    ds_one (ds_ret (d_tuple B.tuple (da_cons (d_lc false (own := [("who", 1), ("whom", 2)]) rfl sc_people.nd (di_seq (dv 0 (pv 0))) (blkOk_by (N := N_people) (sc := defScope s_people) (by decide +kernel)) (fun _ _ _ _ _ => dg_tup rfl (dgs_cons (dg_name 1 (pg_name (i := 1) sc_people.nd rfl (Or.inl rfl))) (dgs_cons (dg_name 2 (pg_name (i := 2) sc_people.nd rfl (Or.inl rfl))) (dgs_nil)))) (fun _ _ _ _ _ => dts_nil) (fun _ _ _ _ _ => dv 1 (pv 1)) (by decide)) (da_nil))))
abbrev s_gone : Stmt := topS 12
abbrev N_gone : List Str := ["told", "pair", "one", "other"]
theorem sc_gone : FnScope N_gone ["told", "pair"] (defScope s_gone) := ⟨rfl, rfl, rfl, by decide +kernel, rfl, by decide +kernel, by decide +kernel⟩
theorem ok_gone (f : Addr) (fd : FuncData) (F : Fun K "gone" "gone" s_gone f fd) (hm : mg "gone" = some (.ref f)) (B : Bi mg)   : GD HW.P HW.w K mg base 1 "gone" s_gone ["told", "pair"] m_gone := gd_ok false F hm sc_gone fun cdv A outer s H E hr =>
    ds_cons (ds_par2 (ps_par (i := 2) (j := 3) rfl sc_gone.nd rfl rfl (by decide) rfl rfl (da_cons (d_idx hr.room (dv 0 (pv 0)) (d_idx hr.room (dv 1 (pv 1)) (d_int) (fun _ _ => rfl)) (fun _ _ => rfl)) (da_cons (d_idx hr.room (dv 0 (pv 0)) (d_idx hr.room (dv 1 (pv 1)) (d_int) (fun _ _ => rfl)) (fun _ _ => rfl)) (da_nil))) (by rfl)))
    (ds_one (ds_ret (d_if (t_eq hr.room (dv 2 (pv 2)) (dv 3 (pv 3))) (dv 1 (pv 1)) (d_tup (da_cons (dv 2 (pv 2)) (da_cons (dv 3 (pv 3)) (da_nil)))))))
abbrev s_all_pairs : Stmt := topS 16
abbrev N_all_pairs : List Str := ["names", "one", "other"]
theorem sc_all_pairs : FnScope N_all_pairs ["names"] (defScope s_all_pairs) := ⟨rfl, rfl, rfl, by decide +kernel, rfl, by decide +kernel, by decide +kernel⟩
theorem ok_all_pairs (f : Addr) (fd : FuncData) (F : Fun K "all_pairs" "all_pairs" s_all_pairs f fd) (hm : mg "all_pairs" = some (.ref f)) (B : Bi mg)   : GD HW.P HW.w K mg base 1 "all_pairs" s_all_pairs ["names"] m_all_pairs := gd_ok false F hm sc_all_pairs fun cdv A outer s H E hr =>
    ds_one (ds_ret (d_lc2 false 0 (own := [("one", 1), ("other", 2)]) (vs1 := [2]) rfl sc_all_pairs.nd (di_seq (dv 0 (pv 0))) (blkOk_by (N := N_all_pairs) (sc := defScope s_all_pairs) (by decide +kernel)) (fun _ _ _ _ _ => dg_name 1 (pg_name (i := 1) sc_all_pairs.nd rfl (Or.inl rfl))) (fun _ _ _ _ _ => dts_nil) (fun _ _ _ _ _ => pv 0) (fun _ _ _ _ _ => dg_name 2 (pg_name (i := 2) sc_all_pairs.nd rfl (Or.inl rfl))) (fun _ _ _ _ _ => dts_one (t_ne hr.room (dv 1 (pv 1)) (dv 2 (pv 2)))) (fun _ _ _ _ _ => d_tup (da_cons (dv 1 (pv 1)) (da_cons (dv 2 (pv 2)) (da_nil)))) (by decide) (by decide) (by decide) (by decide)))
abbrev s_is_less : Stmt := topS 20
abbrev N_is_less : List Str := ["places", "pair"]
theorem sc_is_less : FnScope N_is_less ["places", "pair"] (defScope s_is_less) := ⟨rfl, rfl, rfl, by decide +kernel, rfl, by decide +kernel, by decide +kernel⟩
theorem ok_is_less (f : Addr) (fd : FuncData) (F : Fun K "is_less" "is_less" s_is_less f fd) (hm : mg "is_less" = some (.ref f)) (B : Bi mg)   : GD HW.P HW.w K mg base 1 "is_less" s_is_less ["places", "pair"] m_is_less := gd_ok false F hm sc_is_less fun cdv A outer s H E hr =>
    ds_one (ds_ret (d_lt (d_idx hr.room (dv 0 (pv 0)) (d_idx hr.room (dv 1 (pv 1)) (d_int) (fun _ _ => rfl)) (fun _ _ => rfl)) (d_idx hr.room (dv 0 (pv 0)) (d_idx hr.room (dv 1 (pv 1)) (d_int) (fun _ _ => rfl)) (fun _ _ => rfl))))
abbrev s_way_on : Stmt := topS 23
abbrev N_way_on : List Str := ["told", "pair", "found", "met"]
theorem sc_way_on : FnScope N_way_on ["told", "pair"] (defScope s_way_on) := ⟨rfl, rfl, rfl, by decide +kernel, rfl, by decide +kernel, by decide +kernel⟩
theorem ok_way_on (f : Addr) (fd : FuncData) (F : Fun K "way_on" "way_on" s_way_on f fd) (hm : mg "way_on" = some (.ref f)) (B : Bi mg)   : GD HW.P HW.w K mg base 1 "way_on" s_way_on ["told", "pair"] m_way_on := gd_ok false F hm sc_way_on fun cdv A outer s H E hr =>
    ds_cons (ds_par2 (ps_par (i := 2) (j := 3) rfl sc_way_on.nd rfl rfl (by decide) rfl rfl (da_cons (d_lst true (da_nil)) (da_cons (d_dnewT) (da_nil))) (by rfl)))
    (ds_cons (ds_while 100000 PassesOwn.never (t_notin hr.room (dv 1 (pv 1)) (dv 3 (pv 3)))
    (ds_cons (ds_putT hr (d_len B.len (da_cons (dv 2 (pv 2)) (da_nil))) (dv 3 (pv 3)) (dv 1 (pv 1)) (fun hu => ps_asg (d_len B.len (da_cons (dv 2 (pv 2)) (da_nil))) (pg_sub (dv 3 (pv 3)) (dv 1 (pv 1)) (set_dictX hu ⟨rfl, rfl⟩))))
    (ds_cons (ds_expr ((pe_bm PySem.F.plainAttrs_list PySem.F.slot_list_append PySem.F.type_list_append mt_append (dv 2 (pv 2)) (da_cons (dv 1 (pv 1)) (da_nil))).weak (meth_imp s_append)))
    (ds_one (ds_set (ps_set (i := 1) sc_way_on.nd rfl (Or.inl rfl) (d_idx hr.room (dv 0 (pv 0)) (dv 1 (pv 1)) (fun _ _ => rfl))))))))
    (ds_frz 2 (ds_one (ds_ret (d_tup (da_cons (dv 2 (pv 2)) (da_cons (d_idx hr.room (dv 3 (pv 3)) (dv 1 (pv 1)) (fun _ _ => rfl)) (da_nil))))))))
abbrev s_least_round : Stmt := topS 24
abbrev N_least_round : List Str := ["bits", "size", "step"]
theorem sc_least_round : FnScope N_least_round ["bits"] (defScope s_least_round) := ⟨rfl, rfl, rfl, by decide +kernel, rfl, by decide +kernel, by decide +kernel⟩
theorem ok_least_round (f : Addr) (fd : FuncData) (F : Fun K "least_round" "least_round" s_least_round f fd) (hm : mg "least_round" = some (.ref f)) (B : Bi mg)   : GD HW.P HW.w K mg base 1 "least_round" s_least_round ["bits"] m_least_round := gd_ok false F hm sc_least_round fun cdv A outer s H E hr =>
    ds_cons (ds_set (ps_set (i := 1) sc_least_round.nd rfl (Or.inr rfl) (d_len B.len (da_cons (dv 0 (pv 0)) (da_nil)))))
    (ds_one (ds_ret (d_idx hr.room (d_lc false (own := [("step", 2)]) rfl sc_least_round.nd (di_rng2 B.range (da_cons (d_int) (da_cons (d_add false (dv 1 (pv 1)) (d_int)) (da_nil)))) (blkOk_by (N := N_least_round) (sc := defScope s_least_round) (by decide +kernel)) (fun _ _ _ _ _ => dg_name 2 (pg_name (i := 2) sc_least_round.nd rfl (Or.inl rfl))) (fun _ _ _ _ _ => dts_one (PW.pt (dw_and (t_eq hr.room (d_mod (dv 1 (pv 1)) (dv 2 (pv 2))) (d_int)) (dw_and1 (t_eq hr.room (d_add false (d_slice false (dv 0 (pv 0)) (do_some (dv 2 (pv 2))) (do_none)) (d_slice false (dv 0 (pv 0)) (do_none) (do_some (dv 2 (pv 2))))) (dv 0 (pv 0))))))) (fun _ _ _ _ _ => dv 2 (pv 2)) (by decide)) (d_int) (fun _ _ => rfl))))
abbrev s_changed_in : Stmt := topS 26
abbrev N_changed_in : List Str := ["bits", "many", "one", "other"]
theorem sc_changed_in : FnScope N_changed_in ["bits", "many"] (defScope s_changed_in) := ⟨rfl, rfl, rfl, by decide +kernel, rfl, by decide +kernel, by decide +kernel⟩
theorem ok_changed_in (f : Addr) (fd : FuncData) (F : Fun K "changed_in" "changed_in" s_changed_in f fd) (hm : mg "changed_in" = some (.ref f)) (B : Bi mg)   : GD HW.P HW.w K mg base 1 "changed_in" s_changed_in ["bits", "many"] m_changed_in := gd_ok false F hm sc_changed_in fun cdv A outer s H E hr =>
    ds_one (ds_ret (d_len B.len (da_cons (d_lc false (own := [("one", 2), ("other", 3)]) rfl sc_changed_in.nd (di_zip B.zip (da_cons (d_slice false (dv 0 (pv 0)) (do_none) (do_some (dv 1 (pv 1)))) (da_cons (d_slice false (dv 0 (pv 0)) (do_some (d_int)) (do_some (d_add false (dv 1 (pv 1)) (d_int)))) (da_nil)))) (blkOk_by (N := N_changed_in) (sc := defScope s_changed_in) (by decide +kernel)) (fun _ _ _ _ _ => dg_tup rfl (dgs_cons (dg_name 2 (pg_name (i := 2) sc_changed_in.nd rfl (Or.inl rfl))) (dgs_cons (dg_name 3 (pg_name (i := 3) sc_changed_in.nd rfl (Or.inl rfl))) (dgs_nil)))) (fun _ _ _ _ _ => dts_one (t_ne hr.room (dv 2 (pv 2)) (dv 3 (pv 3)))) (fun _ _ _ _ _ => dv 2 (pv 2)) (by decide)) (da_nil))))
abbrev s__law_box : Stmt := topS 29
abbrev N__law_box : List Str := ["_law_script", "_law_k", "_law_cell"]
theorem sc__law_box : FnScope N__law_box ["_law_script", "_law_k"] (defScope s__law_box) := ⟨rfl, rfl, rfl, by decide +kernel, rfl, by decide +kernel, by decide +kernel⟩
theorem ok__law_box (f : Addr) (fd : FuncData) (F : Fun K "_law_box" "_law_box" s__law_box f fd) (hm : mg "_law_box" = some (.ref f)) (B : Bi mg)   : GD HW.P HW.w K mg base 1 "_law_box" s__law_box ["_law_script", "_law_k"] m__law_box := gd_ok true F hm sc__law_box fun cdv A outer s H E hr =>
    ds_cons (ds_set (ps_set (i := 2) sc__law_box.nd rfl (Or.inl rfl) (d_int)))
    (ds_cons (ds_if (t_lt (dv 1 (pv 1)) (d_len B.len (da_cons (dv 0 (pv 0)) (da_nil)))) (ds_one (ds_set (ps_set (i := 2) sc__law_box.nd rfl (Or.inl rfl) (d_idx hr.room (dv 0 (pv 0)) (dv 1 (pv 1)) (fun _ _ => rfl))))) (ds_nil))
    (ds_one (ds_ret (d_lst true (da_cons (d_mul false (d_abs B.abs (da_cons (dv 2 (pv 2)) (da_nil))) (d_intC B.int (da_cons (d_ge (d_abs B.abs (da_cons (dv 2 (pv 2)) (da_nil))) (d_pow (d_int) (d_int))) (da_nil)))) (da_cons (d_add false (d_add false (d_mod (dv 2 (pv 2)) (d_int)) (d_mul false (d_int) (dv 1 (pv 1)))) (d_int)) (da_cons (d_int) (da_nil))))))))
abbrev s__law_folded : Stmt := topS 33
abbrev N__law_folded : List Str := ["_law_script", "_law_size", "_law_cells", "_law_k", "_law_cell"]
theorem sc__law_folded : FnScope N__law_folded ["_law_script", "_law_size"] (defScope s__law_folded) := ⟨rfl, rfl, rfl, by decide +kernel, rfl, by decide +kernel, by decide +kernel⟩
theorem ok__law_folded (f : Addr) (fd : FuncData) (F : Fun K "_law_folded" "_law_folded" s__law_folded f fd) (hm : mg "_law_folded" = some (.ref f)) (B : Bi mg)   : GD HW.P HW.w K mg base 1 "_law_folded" s__law_folded ["_law_script", "_law_size"] m__law_folded := gd_ok false F hm sc__law_folded fun cdv A outer s H E hr =>
    ds_cons (ds_set (ps_set (i := 2) sc__law_folded.nd rfl (Or.inl rfl) (d_list true B.list (da_cons (d_slice false (dv 0 (pv 0)) (do_none) (do_some (dv 1 (pv 1)))) (da_nil)))))
    (ds_cons (ds_for rfl PassesOwn.never (di_enumA B.enumerate (da_cons (d_slice false (dv 0 (pv 0)) (do_some (dv 1 (pv 1))) (do_some (d_int))) (da_nil))) (dg_tup rfl (dgs_cons (dg_name 3 (pg_name (i := 3) sc__law_folded.nd rfl (Or.inl rfl))) (dgs_cons (dg_name 4 (pg_name (i := 4) sc__law_folded.nd rfl (Or.inl rfl))) (dgs_nil))))
    (ds_one (ds_sub (d_add false (d_idx hr.room (dv 2 (pv 2)) (d_mod (dv 3 (pv 3)) (dv 1 (pv 1))) (fun _ _ => rfl)) (d_mul false (dv 4 (pv 4)) (d_add false (dv 3 (pv 3)) (d_int)))) (dv 2 (pv 2)) (d_mod (dv 3 (pv 3)) (dv 1 (pv 1))) (ps_asg (d_add false (d_idx hr.room (dv 2 (pv 2)) (d_mod (dv 3 (pv 3)) (dv 1 (pv 1))) (fun _ _ => rfl)) (d_mul false (dv 4 (pv 4)) (d_add false (dv 3 (pv 3)) (d_int)))) (pg_sub (dv 2 (pv 2)) (d_mod (dv 3 (pv 3)) (dv 1 (pv 1))) set_list)))))
    (ds_frz 2 (ds_one (ds_ret (d_if (t_ne hr.room (dv 2 (pv 2)) (d_lst false (da_nil))) (dv 2 (pv 2)) (d_lst false (da_cons (d_int) (da_nil))))))))
abbrev s__law_called : Stmt := topS 37
abbrev N__law_called : List Str := ["_law_row_due", "_law_cry", "_law_told", "_law_found", "_law_name", "_law_who"]
theorem sc__law_called : FnScope N__law_called ["_law_row_due", "_law_cry"] (defScope s__law_called) := ⟨rfl, rfl, rfl, by decide +kernel, rfl, by decide +kernel, by decide +kernel⟩
theorem ok__law_called (f : Addr) (fd : FuncData) (F : Fun K "_law_called" "_law_called" s__law_called f fd) (hm : mg "_law_called" = some (.ref f)) (B : Bi mg)   : GD HW.P HW.w K mg base 1 "_law_called" s__law_called ["_law_row_due", "_law_cry"] m__law_called := gd_ok false F hm sc__law_called fun cdv A outer s H E hr =>
    ds_cons (ds_set (ps_set (i := 2) sc__law_called.nd rfl (Or.inr rfl) (d_dictA rfl false B.dict (da_cons (dv 1 (pv 1)) (da_nil)))))
    (ds_cons (ds_set (ps_set (i := 3) sc__law_called.nd rfl (Or.inl rfl) (d_lst false (da_nil))))
    (ds_cons (ds_for rfl PassesOwn.never (di_seq (dv 0 (pv 0))) (dg_name 4 (pg_name (i := 4) sc__law_called.nd rfl (Or.inr rfl)))
    (ds_one (ds_set (ps_set (i := 3) sc__law_called.nd rfl (Or.inl rfl) (d_add false (dv 3 (pv 3)) (d_lc false (own := [("_law_who", 5)]) rfl sc__law_called.nd (di_seq (dv 0 (pv 0))) (blkOk_by (N := N__law_called) (sc := defScope s__law_called) (by decide +kernel)) (fun _ _ _ _ _ => dg_name 5 (pg_name (i := 5) sc__law_called.nd rfl (Or.inl rfl))) (fun _ _ _ _ _ => dts_one (t_eq hr.room (d_idx hr.room (dv 2 (pv 2)) (dv 5 (pv 5)) (fun _ _ => rfl)) (dv 4 (pv 4)))) (fun _ _ _ _ _ => dv 5 (pv 5)) (by decide)))))))
    (ds_one (ds_ret (d_tuple B.tuple (da_cons (dv 3 (pv 3)) (da_nil)))))))
abbrev s__law_due : Stmt := topS 42
abbrev N__law_due : List Str := ["_law_rows_due", "_law_at", "_law_one_of_two", "_law_mate", "_law_often", "_law_bits", "_law_turns", "_law_once", "_law_laps", "_law_rest", "_law_order", "_law_bit", "_law_later"]
theorem sc__law_due : FnScope N__law_due ["_law_rows_due", "_law_at", "_law_one_of_two", "_law_mate", "_law_often"] (defScope s__law_due) := ⟨rfl, rfl, rfl, by decide +kernel, rfl, by decide +kernel, by decide +kernel⟩
theorem ok__law_due (f : Addr) (fd : FuncData) (F : Fun K "_law_due" "_law_due" s__law_due f fd) (hm : mg "_law_due" = some (.ref f)) (B : Bi mg)   : GD HW.P HW.w K mg base 1 "_law_due" s__law_due ["_law_rows_due", "_law_at", "_law_one_of_two", "_law_mate", "_law_often"] m__law_due := gd_ok false F hm sc__law_due fun cdv A outer s H E hr =>
    ds_cons (ds_setLc false (own := [("_law_order", 10)]) (i := 5) rfl sc__law_due.nd rfl rfl (sw_true rfl rfl rfl (by decide +kernel)) (di_seq (dv 0 (pv 0))) (blkOk_by (N := N__law_due) (sc := defScope s__law_due) (by decide +kernel)) (fun _ _ _ _ _ => dg_name 10 (pg_name (i := 10) sc__law_due.nd rfl (Or.inl rfl))) (fun _ _ _ _ _ => dts_nil) (fun _ _ _ _ _ => d_lt (d_indexT (dv 10 (pv 10)) (da_cons (dv 2 (pv 2)) (da_nil))) (d_indexT (dv 10 (pv 10)) (da_cons (dv 3 (pv 3)) (da_nil)))) (by decide))
    (ds_cons (ds_setLc false (own := [("_law_bit", 11), ("_law_later", 12)]) (i := 6) rfl sc__law_due.nd rfl rfl (sw_true rfl rfl rfl (by decide +kernel)) (di_zip B.zip (da_cons (dv 5 (pv 5)) (da_cons (d_slice false (dv 5 (pv 5)) (do_some (d_int)) (do_none)) (da_nil)))) (blkOk_by (N := N__law_due) (sc := defScope s__law_due) (by decide +kernel)) (fun _ _ _ _ _ => dg_tup rfl (dgs_cons (dg_name 11 (pg_name (i := 11) sc__law_due.nd rfl (Or.inl rfl))) (dgs_cons (dg_name 12 (pg_name (i := 12) sc__law_due.nd rfl (Or.inl rfl))) (dgs_nil)))) (fun _ _ _ _ _ => dts_nil) (fun _ _ _ _ _ => d_intC B.int (da_cons (d_ne hr.room (dv 11 (pv 11)) (dv 12 (pv 12))) (da_nil))) (by decide))
    (ds_cons (ds_if (t_le (dv 4 (pv 4)) (d_len B.len (da_cons (dv 6 (pv 6)) (da_nil)))) (ds_one (ds_ret (d_sum rfl B.sum (da_cons (d_slice false (dv 6 (pv 6)) (do_none) (do_some (dv 4 (pv 4)))) (da_nil))))) (ds_nil))
    (ds_cons (ds_set (ps_set (i := 7) sc__law_due.nd rfl (Or.inl rfl) (d_slice false (dv 6 (pv 6)) (do_some (dv 1 (pv 1))) (do_none))))
    (ds_cons (ds_par2 (ps_par (i := 8) (j := 9) rfl sc__law_due.nd rfl rfl (by decide) rfl rfl (da_cons (d_div (d_sub (dv 4 (pv 4)) (dv 1 (pv 1))) (d_len B.len (da_cons (dv 7 (pv 7)) (da_nil)))) (da_cons (d_mod (d_sub (dv 4 (pv 4)) (dv 1 (pv 1))) (d_len B.len (da_cons (dv 7 (pv 7)) (da_nil)))) (da_nil))) (by rfl)))
    (ds_one (ds_ret (d_add false (d_add false (d_sum rfl B.sum (da_cons (d_slice false (dv 6 (pv 6)) (do_none) (do_some (dv 1 (pv 1)))) (da_nil))) (d_mul false (dv 8 (pv 8)) (d_sum rfl B.sum (da_cons (dv 7 (pv 7)) (da_nil))))) (d_sum rfl B.sum (da_cons (d_slice false (dv 7 (pv 7)) (do_none) (do_some (dv 9 (pv 9)))) (da_nil))))))))))
abbrev s_ways_back : Stmt := topS 13
abbrev N_ways_back : List Str := ["word", "call"]
theorem sc_ways_back : FnScope N_ways_back ["word"] (defScope s_ways_back) := ⟨rfl, rfl, rfl, by decide +kernel, rfl, by decide +kernel, by decide +kernel⟩
theorem ok_ways_back (f : Addr) (fd : FuncData) (F : Fun K "ways_back" "ways_back" s_ways_back f fd) (hm : mg "ways_back" = some (.ref f)) (B : Bi mg)  (g_by_names : GD HW.P HW.w K mg base 1 "by_names" s_by_names ["call"] m_by_names) : GD HW.P HW.w K mg base 2 "ways_back" s_ways_back ["word"] m_ways_back := gd_ok false F hm sc_ways_back fun cdv A outer s H E hr =>
    ds_one (ds_ret (d_lc false (own := [("call", 1)]) rfl sc_ways_back.nd (di_rev B.reversed (dv 0 (pv 0))) (blkOk_by (N := N_ways_back) (sc := defScope s_ways_back) (by decide +kernel)) (fun _ _ _ _ _ => dg_name 1 (pg_name (i := 1) sc_ways_back.nd rfl (Or.inl rfl))) (fun _ _ _ _ _ => dts_nil) (fun _ _ _ _ _ => d_call' g_by_names (hr.mono (by omega)) (da_cons (dv 1 (pv 1)) (da_nil)) (fun _ _ _ _ _ _ us hl => match us, hl with | [_], _ => rfl)) (by decide)))
abbrev s_walked : Stmt := topS 14
abbrev N_walked : List Str := ["ways", "pair", "found", "told"]
theorem sc_walked : FnScope N_walked ["ways", "pair"] (defScope s_walked) := ⟨rfl, rfl, rfl, by decide +kernel, rfl, by decide +kernel, by decide +kernel⟩
theorem ok_walked (f : Addr) (fd : FuncData) (F : Fun K "walked" "walked" s_walked f fd) (hm : mg "walked" = some (.ref f)) (B : Bi mg)  (g_gone : GD HW.P HW.w K mg base 1 "gone" s_gone ["told", "pair"] m_gone) : GD HW.P HW.w K mg base 2 "walked" s_walked ["ways", "pair"] m_walked := gd_ok false F hm sc_walked fun cdv A outer s H E hr =>
    ds_cons (ds_set (ps_set (i := 2) sc_walked.nd rfl (Or.inl rfl) (d_lst true (da_cons (dv 1 (pv 1)) (da_nil)))))
    (ds_cons (ds_for rfl PassesOwn.never (di_seq (dv 0 (pv 0))) (dg_name 3 (pg_name (i := 3) sc_walked.nd rfl (Or.inl rfl)))
    (ds_one (ds_expr ((pe_bm PySem.F.plainAttrs_list PySem.F.slot_list_append PySem.F.type_list_append mt_append (dv 2 (pv 2)) (da_cons (d_call' g_gone (hr.mono (by omega)) (da_cons (dv 3 (pv 3)) (da_cons (d_idx hr.room (dv 2 (pv 2)) (d_neg (d_int)) (fun _ _ => rfl)) (da_nil))) (fun _ _ _ _ _ _ us hl => match us, hl with | [_, _], _ => rfl)) (da_nil))).weak (meth_imp s_append)))))
    (ds_one (ds_ret (dv 2 (pv 2)))))
abbrev s_truths_of : Stmt := topS 25
abbrev N_truths_of : List Str := ["told", "places", "pair", "bits", "turn", "way", "at", "ahead", "each"]
theorem sc_truths_of : FnScope N_truths_of ["told", "places", "pair"] (defScope s_truths_of) := ⟨rfl, rfl, rfl, by decide +kernel, rfl, by decide +kernel, by decide +kernel⟩
theorem ok_truths_of (f : Addr) (fd : FuncData) (F : Fun K "truths_of" "truths_of" s_truths_of f fd) (hm : mg "truths_of" = some (.ref f)) (B : Bi mg)  (g_way_on : GD HW.P HW.w K mg base 1 "way_on" s_way_on ["told", "pair"] m_way_on) (g_is_less : GD HW.P HW.w K mg base 1 "is_less" s_is_less ["places", "pair"] m_is_less) (g_least_round : GD HW.P HW.w K mg base 1 "least_round" s_least_round ["bits"] m_least_round) : GD HW.P HW.w K mg base 2 "truths_of" s_truths_of ["told", "places", "pair"] m_truths_of := gd_ok false F hm sc_truths_of fun cdv A outer s H E hr =>
    ds_cons (ds_asg (d_call' g_way_on (hr.mono (by omega)) (da_cons (dv 0 (pv 0)) (da_cons (dv 2 (pv 2)) (da_nil))) (fun _ _ _ _ _ _ us hl => match us, hl with | [_, _], _ => rfl)) (dg_tup rfl (dgs_cons (dg_name 5 (pg_name (i := 5) sc_truths_of.nd rfl (Or.inl rfl))) (dgs_cons (dg_name 6 (pg_name (i := 6) sc_truths_of.nd rfl (Or.inl rfl))) (dgs_nil)))))
    (ds_cons (ds_setLc false (own := [("each", 8)]) (i := 3) rfl sc_truths_of.nd rfl rfl (sw_true rfl rfl rfl (by decide +kernel)) (di_seq (dv 5 (pv 5))) (blkOk_by (N := N_truths_of) (sc := defScope s_truths_of) (by decide +kernel)) (fun _ _ _ _ _ => dg_name 8 (pg_name (i := 8) sc_truths_of.nd rfl (Or.inl rfl))) (fun _ _ _ _ _ => dts_nil) (fun _ _ _ _ _ => d_call' g_is_less (hr.mono (by omega)) (da_cons (dv 1 (pv 1)) (da_cons (dv 8 (pv 8)) (da_nil))) (fun _ _ _ _ _ _ us hl => match us, hl with | [_, _], _ => rfl)) (by decide))
    (ds_cons (ds_par2 (ps_par (i := 7) (j := 4) rfl sc_truths_of.nd rfl rfl (by decide) rfl rfl (da_cons (d_slice false (dv 3 (pv 3)) (do_none) (do_some (dv 6 (pv 6)))) (da_cons (d_slice false (dv 3 (pv 3)) (do_some (dv 6 (pv 6))) (do_none)) (da_nil))) (by rfl)))
    (ds_cons (ds_set (ps_set (i := 4) sc_truths_of.nd rfl (Or.inl rfl) (d_slice false (dv 4 (pv 4)) (do_none) (do_some (d_call' g_least_round (hr.mono (by omega)) (da_cons (dv 4 (pv 4)) (da_nil)) (fun _ _ _ _ _ _ us hl => match us, hl with | [_], _ => rfl))))))
    (ds_cons (ds_while 100000 PassesOwn.never (PW.pt (dw_and (t_gt (d_len B.len (da_cons (dv 7 (pv 7)) (da_nil))) (d_int)) (dw_and1 (t_eq hr.room (d_idx hr.room (dv 7 (pv 7)) (d_neg (d_int)) (fun _ _ => rfl)) (d_idx hr.room (dv 4 (pv 4)) (d_neg (d_int)) (fun _ _ => rfl))))))
    (ds_cons (ds_set (ps_set (i := 4) sc_truths_of.nd rfl (Or.inl rfl) (d_add false (d_slice false (dv 4 (pv 4)) (do_some (d_neg (d_int))) (do_none)) (d_slice false (dv 4 (pv 4)) (do_none) (do_some (d_neg (d_int)))))))
    (ds_one (ds_set (ps_set (i := 7) sc_truths_of.nd rfl (Or.inl rfl) (d_slice false (dv 7 (pv 7)) (do_none) (do_some (d_neg (d_int)))))))))
    (ds_one (ds_ret (d_tup (da_cons (dv 7 (pv 7)) (da_cons (dv 4 (pv 4)) (da_nil))))))))))
abbrev s__law_led : Stmt := topS 39
abbrev N__law_led : List Str := ["_law_row_due", "_law_cries", "_law_cry"]
theorem sc__law_led : FnScope N__law_led ["_law_row_due", "_law_cries"] (defScope s__law_led) := ⟨rfl, rfl, rfl, by decide +kernel, rfl, by decide +kernel, by decide +kernel⟩
theorem ok__law_led (f : Addr) (fd : FuncData) (F : Fun K "_law_led" "_law_led" s__law_led f fd) (hm : mg "_law_led" = some (.ref f)) (B : Bi mg)  (g__law_called : GD HW.P HW.w K mg base 1 "_law_called" s__law_called ["_law_row_due", "_law_cry"] m__law_called) : GD HW.P HW.w K mg base 2 "_law_led" s__law_led ["_law_row_due", "_law_cries"] m__law_ledW := gd_ok false F hm sc__law_led fun cdv A outer s H E hr =>
    ds_cons (ds_for rfl PassesOwn.never (di_seq (dv 1 (pv 1))) (dg_name 2 (pg_name (i := 2) sc__law_led.nd rfl (Or.inl rfl)))
    (ds_one (ds_set (ps_set (i := 0) sc__law_led.nd rfl (Or.inl rfl) (d_call' g__law_called (hr.mono (by omega)) (da_cons (dv 0 (pv 0)) (da_cons (dv 2 (pv 2)) (da_nil))) (fun _ _ _ _ _ _ us hl => match us, hl with | [_, _], _ => rfl))))))
    (ds_one (ds_ret (dv 0 (pv 0))))
abbrev s_told_pairs : Stmt := topS 17
abbrev N_told_pairs : List Str := ["names", "word", "ways", "pair"]
theorem sc_told_pairs : FnScope N_told_pairs ["names", "word"] (defScope s_told_pairs) := ⟨rfl, rfl, rfl, by decide +kernel, rfl, by decide +kernel, by decide +kernel⟩
theorem ok_told_pairs (f : Addr) (fd : FuncData) (F : Fun K "told_pairs" "told_pairs" s_told_pairs f fd) (hm : mg "told_pairs" = some (.ref f)) (B : Bi mg)  (g_ways_back : GD HW.P HW.w K mg base 2 "ways_back" s_ways_back ["word"] m_ways_back) (g_walked : GD HW.P HW.w K mg base 2 "walked" s_walked ["ways", "pair"] m_walked) (g_all_pairs : GD HW.P HW.w K mg base 1 "all_pairs" s_all_pairs ["names"] m_all_pairs) : GD HW.P HW.w K mg base 3 "told_pairs" s_told_pairs ["names", "word"] m_told_pairs := gd_ok false F hm sc_told_pairs fun cdv A outer s H E hr =>
    ds_cons (ds_set (ps_set (i := 2) sc_told_pairs.nd rfl (Or.inr rfl) (d_call' g_ways_back (hr.mono (by omega)) (da_cons (dv 1 (pv 1)) (da_nil)) (fun _ _ _ _ _ _ us hl => match us, hl with | [_], _ => rfl))))
    (ds_one (ds_ret (d_dcT hr.room (own := [("pair", 3)]) rfl sc_told_pairs.nd (di_seq (d_call' g_all_pairs (hr.mono (by omega)) (da_cons (dv 0 (pv 0)) (da_nil)) (fun _ _ _ _ _ _ us hl => match us, hl with | [_], _ => rfl))) (blkOk_by (N := N_told_pairs) (sc := defScope s_told_pairs) (by decide +kernel)) (fun _ _ _ _ _ => dg_name 3 (pg_name (i := 3) sc_told_pairs.nd rfl (Or.inl rfl))) (fun _ _ _ _ _ => dts_nil) (fun _ _ _ _ _ => dv 3 (pv 3)) (fun _ _ _ _ _ => d_idx hr.room (d_call' g_walked (hr.mono (by omega)) (da_cons (dv 2 (pv 2)) (da_cons (dv 3 (pv 3)) (da_nil))) (fun _ _ _ _ _ _ us hl => match us, hl with | [_, _], _ => rfl)) (d_neg (d_int)) (fun _ _ => rfl)) (by decide))))
abbrev s__law_orbit : Stmt := topS 40
abbrev N__law_orbit : List Str := ["_law_row_due", "_law_cries", "_law_found", "_law_seen"]
theorem sc__law_orbit : FnScope N__law_orbit ["_law_row_due", "_law_cries"] (defScope s__law_orbit) := ⟨rfl, rfl, rfl, by decide +kernel, rfl, by decide +kernel, by decide +kernel⟩
theorem ok__law_orbit (f : Addr) (fd : FuncData) (F : Fun K "_law_orbit" "_law_orbit" s__law_orbit f fd) (hm : mg "_law_orbit" = some (.ref f)) (B : Bi mg)  (g__law_led : GD HW.P HW.w K mg base 2 "_law_led" s__law_led ["_law_row_due", "_law_cries"] m__law_ledW) : GD HW.P HW.w K mg base 3 "_law_orbit" s__law_orbit ["_law_row_due", "_law_cries"] m__law_orbit := gd_ok false F hm sc__law_orbit fun cdv A outer s H E hr =>
    ds_cons (ds_par2 (ps_par (i := 2) (j := 3) rfl sc__law_orbit.nd rfl rfl (by decide) rfl rfl (da_cons (d_lst true (da_cons (dv 0 (pv 0)) (da_nil))) (da_cons (d_dnewT) (da_nil))) (by rfl)))
    (ds_cons (ds_while 100000 PassesOwn.never (t_notin hr.room (d_idx hr.room (dv 2 (pv 2)) (d_neg (d_int)) (fun _ _ => rfl)) (dv 3 (pv 3)))
    (ds_cons (ds_putT hr (d_sub (d_len B.len (da_cons (dv 2 (pv 2)) (da_nil))) (d_int)) (dv 3 (pv 3)) (d_idx hr.room (dv 2 (pv 2)) (d_neg (d_int)) (fun _ _ => rfl)) (fun hu => ps_asg (d_sub (d_len B.len (da_cons (dv 2 (pv 2)) (da_nil))) (d_int)) (pg_sub (dv 3 (pv 3)) (d_idx hr.room (dv 2 (pv 2)) (d_neg (d_int)) (fun _ _ => rfl)) (set_dictX hu ⟨rfl, rfl⟩))))
    (ds_one (ds_expr ((pe_bm PySem.F.plainAttrs_list PySem.F.slot_list_append PySem.F.type_list_append mt_append (dv 2 (pv 2)) (da_cons (d_call' g__law_led (hr.mono (by omega)) (da_cons (d_idx hr.room (dv 2 (pv 2)) (d_neg (d_int)) (fun _ _ => rfl)) (da_cons (dv 1 (pv 1)) (da_nil))) (fun _ _ _ _ _ _ us hl => match us, hl with | [_, _], _ => rfl)) (da_nil))).weak (meth_imp s_append))))))
    (ds_frz 2 (ds_one (ds_ret (d_tup (da_cons (dv 2 (pv 2)) (da_cons (d_idx hr.room (dv 3 (pv 3)) (d_idx hr.room (dv 2 (pv 2)) (d_neg (d_int)) (fun _ _ => rfl)) (fun _ _ => rfl)) (da_nil))))))))
abbrev s_Table___init__ : Stmt := inClass (topS 21) 0
abbrev N_Table___init__ : List Str := ["self", "names", "word", "call"]
theorem sc_Table___init__ : FnScope N_Table___init__ ["self", "names", "word"] (defScope s_Table___init__) := ⟨rfl, rfl, rfl, by decide +kernel, rfl, by decide +kernel, by decide +kernel⟩
theorem ok_Table___init__ (T : Nat → Addr) (f : Addr) (fd : FuncData) (F : Fun K "__init__" "Table.__init__" s_Table___init__ f fd) (hm : Meth K (T 7) "__init__" f) (B : Bi mg) (cg : ClsG K mg (T 7) "Table") (n_own_names : NoAttr K (T 7) "own_names") (n_own_pairs : NoAttr K (T 7) "own_pairs")  (g_told_pairs : GD HW.P HW.w K mg base 3 "told_pairs" s_told_pairs ["names", "word"] m_told_pairs) (g_look_alike : GD HW.P HW.w K mg base 1 "look_alike" s_look_alike ["one", "other"] m_look_alike) (g_people : GD HW.P HW.w K mg base 1 "people" s_people ["call"] m_people) : GM HW.P HW.w K mg base 4 (T 7) "__init__" "Table.__init__" s_Table___init__ ["self", "names", "word"] (m_Table___init__ T) := gm_ok false F hm sc_Table___init__ fun cdv A outer s H E hr =>
    ds_cons (ds_for rfl PassesOwn.never (di_seq (dv 2 (pv 2))) (dg_name 3 (pg_name (i := 3) sc_Table___init__.nd rfl (Or.inl rfl)))
    (ds_one (ds_expr (d_call' g_look_alike (hr.mono (by omega)) (da_cons (dv 1 (pv 1)) (da_cons (d_call' g_people (hr.mono (by omega)) (da_cons (dv 3 (pv 3)) (da_nil)) (fun _ _ _ _ _ _ us hl => match us, hl with | [_], _ => rfl)) (da_nil))) (fun _ _ _ _ _ _ us hl => match us, hl with | [_, _], _ => rfl)))))
    (ds_cons (ds_setF cg.ci.cl n_own_names (dv 0 (pv 0)) (d_tuple B.tuple (da_cons (d_sorted hr false B.sorted (da_cons (dv 1 (pv 1)) (da_nil))) (da_nil))))
    (ds_one (ds_setF cg.ci.cl n_own_pairs (dv 0 (pv 0)) (d_call' g_told_pairs (hr.mono (by omega)) (da_cons (d_fld cg.ci.cl n_own_names (dv 0 (pv 0))) (da_cons (dv 2 (pv 2)) (da_nil))) (fun _ _ _ _ _ _ us hl => match us, hl with | [_, _], _ => rfl)))))
abbrev s_changes : Stmt := topS 27
abbrev N_changes : List Str := ["row", "word", "one", "other", "many", "once", "ahead", "turn", "rounds", "rest"]
theorem sc_changes : FnScope N_changes ["row", "word", "one", "other", "many"] (defScope s_changes) := ⟨rfl, rfl, rfl, by decide +kernel, rfl, by decide +kernel, by decide +kernel⟩
theorem ok_changes (f : Addr) (fd : FuncData) (F : Fun K "changes" "changes" s_changes f fd) (hm : mg "changes" = some (.ref f)) (B : Bi mg) (T : Nat → Addr) (cg : ClsG K mg (T 7) "Table") (n_own_names : NoAttr K (T 7) "own_names") (n_own_pairs : NoAttr K (T 7) "own_pairs") (y_divmod : mg "divmod" = none) (g_truths_of : GD HW.P HW.w K mg base 2 "truths_of" s_truths_of ["told", "places", "pair"] m_truths_of) (g_places_of : GD HW.P HW.w K mg base 1 "places_of" s_places_of ["row"] m_places_of) (g_changed_in : GD HW.P HW.w K mg base 1 "changed_in" s_changed_in ["bits", "many"] m_changed_in) (g_Table___init__ : GM HW.P HW.w K mg base 4 (T 7) "__init__" "Table.__init__" s_Table___init__ ["self", "names", "word"] (m_Table___init__ T)) : GD HW.P HW.w K mg base 6 "changes" s_changes ["row", "word", "one", "other", "many"] (m_changes T) := gd_ok false F hm sc_changes fun cdv A outer s H E hr =>
    ds_cons (ds_asg (d_call' g_truths_of (hr.mono (by omega)) (da_cons (d_fld cg.ci.cl n_own_pairs (d_makeG g_Table___init__ cg (hr.mono (by omega)) (da_cons (dv 0 (pv 0)) (da_cons (dv 1 (pv 1)) (da_nil))) (fun _ _ _ _ _ _ us hl => match us, hl with | [_, _, _], _ => rfl))) (da_cons (d_call' g_places_of (hr.mono (by omega)) (da_cons (dv 0 (pv 0)) (da_nil)) (fun _ _ _ _ _ _ us hl => match us, hl with | [_], _ => rfl)) (da_cons (d_tup (da_cons (dv 2 (pv 2)) (da_cons (dv 3 (pv 3)) (da_nil)))) (da_nil)))) (fun _ _ _ _ _ _ us hl => match us, hl with | [_, _, _], _ => rfl)) (dg_tup rfl (dgs_cons (dg_name 6 (pg_name (i := 6) sc_changes.nd rfl (Or.inl rfl))) (dgs_cons (dg_name 7 (pg_name (i := 7) sc_changes.nd rfl (Or.inl rfl))) (dgs_nil)))))
    (ds_cons (ds_if (t_le (dv 4 (pv 4)) (d_len B.len (da_cons (dv 6 (pv 6)) (da_nil)))) (ds_one (ds_ret (d_call' g_changed_in (hr.mono (by omega)) (da_cons (d_add false (dv 6 (pv 6)) (d_slice false (dv 7 (pv 7)) (do_none) (do_some (d_int)))) (da_cons (dv 4 (pv 4)) (da_nil))) (fun _ _ _ _ _ _ us hl => match us, hl with | [_, _], _ => rfl)))) (ds_nil))
    (ds_cons (ds_asg (d_dm y_divmod (da_cons (d_sub (dv 4 (pv 4)) (d_len B.len (da_cons (dv 6 (pv 6)) (da_nil)))) (da_cons (d_len B.len (da_cons (dv 7 (pv 7)) (da_nil))) (da_nil)))) (dg_tup rfl (dgs_cons (dg_name 8 (pg_name (i := 8) sc_changes.nd rfl (Or.inl rfl))) (dgs_cons (dg_name 9 (pg_name (i := 9) sc_changes.nd rfl (Or.inl rfl))) (dgs_nil)))))
    (ds_cons (ds_set (ps_set (i := 5) sc_changes.nd rfl (Or.inl rfl) (d_add false (dv 7 (pv 7)) (d_slice false (dv 7 (pv 7)) (do_none) (do_some (d_int))))))
    (ds_one (ds_ret (d_add false (d_add false (d_call' g_changed_in (hr.mono (by omega)) (da_cons (d_add false (dv 6 (pv 6)) (d_slice false (dv 7 (pv 7)) (do_none) (do_some (d_int)))) (da_cons (d_len B.len (da_cons (dv 6 (pv 6)) (da_nil))) (da_nil))) (fun _ _ _ _ _ _ us hl => match us, hl with | [_, _], _ => rfl)) (d_mul false (dv 8 (pv 8)) (d_call' g_changed_in (hr.mono (by omega)) (da_cons (dv 5 (pv 5)) (da_cons (d_len B.len (da_cons (dv 7 (pv 7)) (da_nil))) (da_nil))) (fun _ _ _ _ _ _ us hl => match us, hl with | [_, _], _ => rfl)))) (d_call' g_changed_in (hr.mono (by omega)) (da_cons (dv 5 (pv 5)) (da_cons (dv 9 (pv 9)) (da_nil))) (fun _ _ _ _ _ _ us hl => match us, hl with | [_, _], _ => rfl))))))))
abbrev s__law_take : Stmt := topS 30
abbrev N__law_take : List Str := ["_law_box_here", "_law_size", "_law_once", "_law_found"]
theorem sc__law_take : FnScope N__law_take ["_law_box_here", "_law_size"] (defScope s__law_take) := ⟨rfl, rfl, rfl, by decide +kernel, rfl, by decide +kernel, by decide +kernel⟩
theorem ok__law_take (f : Addr) (fd : FuncData) (F : Fun K "_law_take" "_law_take" s__law_take f fd) (hm : mg "_law_take" = some (.ref f)) (B : Bi mg)   : ∀ n : Nat, GD HW.P HW.w K mg base (n) "_law_take" s__law_take ["_law_box_here", "_law_size"] (m__law_takeG n)
  | 0 => GD.no F hm
  | n + 1 => have ih := ok__law_take f fd F hm B  n
    gd_ok false F hm sc__law_take fun cdv A outer s H E hr =>
    ds_cons (ds_if (t_gt (d_idx hr.room (dv 0 (pv 0)) (d_int) (fun _ _ => rfl)) (d_int)) (ds_cons (ds_set (ps_set (i := 3) sc__law_take.nd rfl (Or.inl rfl) (d_mod (d_idx hr.room (dv 0 (pv 0)) (d_int) (fun _ _ => rfl)) (dv 1 (pv 1)))))
    (ds_cons (ds_sub (d_divB (d_idx hr.room (dv 0 (pv 0)) (d_int) (fun _ _ => rfl)) (dv 1 (pv 1))) (dv 0 (pv 0)) (d_int) (ps_asg (d_divB (d_idx hr.room (dv 0 (pv 0)) (d_int) (fun _ _ => rfl)) (dv 1 (pv 1))) (pg_sub (dv 0 (pv 0)) (d_int) set_list)))
    (ds_one (ds_ret (dv 3 (pv 3)))))) (ds_nil))
    (ds_cons (ds_if (t_gt (dv 1 (pv 1)) (d_pow (d_int) (d_int))) (ds_one (ds_ret (d_mod (d_add false (d_call' ih hr (da_cons (dv 0 (pv 0)) (da_cons (d_pow (d_int) (d_int)) (da_nil))) (fun _ _ _ _ _ _ us hl => match us, hl with | [_, _], _ => rfl)) (d_mul false (d_pow (d_int) (d_int)) (d_call' ih hr (da_cons (dv 0 (pv 0)) (da_cons (d_add false (d_divB (d_sub (dv 1 (pv 1)) (d_int)) (d_pow (d_int) (d_int))) (d_int)) (da_nil))) (fun _ _ _ _ _ _ us hl => match us, hl with | [_, _], _ => rfl)))) (dv 1 (pv 1))))) (ds_nil))
    (ds_cons (ds_sub (d_add false (d_idx hr.room (dv 0 (pv 0)) (d_int) (fun _ _ => rfl)) (d_int)) (dv 0 (pv 0)) (d_int) (ps_asg (d_add false (d_idx hr.room (dv 0 (pv 0)) (d_int) (fun _ _ => rfl)) (d_int)) (pg_sub (dv 0 (pv 0)) (d_int) set_list)))
    (ds_cons (ds_set (ps_set (i := 2) sc__law_take.nd rfl (Or.inl rfl) (d_mod (d_pow (d_add false (d_idx hr.room (dv 0 (pv 0)) (d_int) (fun _ _ => rfl)) (d_mul false (d_int) (d_idx hr.room (dv 0 (pv 0)) (d_int) (fun _ _ => rfl)))) (d_int)) (d_int))))
    (ds_one (ds_ret (d_mod (d_divB (d_mod (d_add false (d_mul false (dv 2 (pv 2)) (d_add false (d_mod (dv 2 (pv 2)) (d_int)) (d_int))) (d_mul false (d_idx hr.room (dv 0 (pv 0)) (d_int) (fun _ _ => rfl)) (d_int))) (d_int)) (d_int)) (dv 1 (pv 1))))))))
abbrev s__law_same : Stmt := topS 32
abbrev N__law_same : List Str := ["_law_found", "_law_due_here", "_law_one_of_two", "_law_two"]
theorem sc__law_same : FnScope N__law_same ["_law_found", "_law_due_here"] (defScope s__law_same) := ⟨rfl, rfl, rfl, by decide +kernel, rfl, by decide +kernel, by decide +kernel⟩
theorem ok__law_same (f : Addr) (fd : FuncData) (F : Fun K "_law_same" "_law_same" s__law_same f fd) (hm : mg "_law_same" = some (.ref f)) (B : Bi mg)   : ∀ n : Nat, GD HW.P HW.w K mg base (n) "_law_same" s__law_same ["_law_found", "_law_due_here"] (m__law_same n)
  | 0 => GD.no F hm
  | n + 1 => have ih := ok__law_same f fd F hm B  n
    gd_ok false F hm sc__law_same fun cdv A outer s H E hr =>
    ds_cons (ds_if (dt_val (d_isi2 B.isinstance B.list bt_list (.inr (.inr (.inr (.inl rfl)))) B.tuple bt_tuple (.inr (.inr (.inr (.inr (.inl rfl))))) (dv 1 (pv 1)))) (ds_cons (ds_if (PW.pt (dw_or (t_ne hr.room (d_isi B.isinstance B.list bt_list (.inr (.inr (.inr (.inl rfl)))) (dv 0 (pv 0))) (d_isi B.isinstance B.list bt_list (.inr (.inr (.inr (.inl rfl)))) (dv 1 (pv 1)))) (dw_or1 (t_ne hr.room (d_isi B.isinstance B.tuple bt_tuple (.inr (.inr (.inr (.inr (.inl rfl))))) (dv 0 (pv 0))) (d_isi B.isinstance B.tuple bt_tuple (.inr (.inr (.inr (.inr (.inl rfl))))) (dv 1 (pv 1))))))) (ds_one (ds_ret (d_bl))) (ds_nil))
    (ds_cons (ds_if (t_ne hr.room (d_len B.len (da_cons (dv 0 (pv 0)) (da_nil))) (d_len B.len (da_cons (dv 1 (pv 1)) (da_nil)))) (ds_one (ds_ret (d_bl))) (ds_nil))
    (ds_one (ds_ret (d_all rfl B.all (da_cons (d_lc false (own := [("_law_one_of_two", 2), ("_law_two", 3)]) rfl sc__law_same.nd (di_zip B.zip (da_cons (dv 0 (pv 0)) (da_cons (dv 1 (pv 1)) (da_nil)))) (blkOk_by (N := N__law_same) (sc := defScope s__law_same) (by decide +kernel)) (fun _ _ _ _ _ => dg_tup rfl (dgs_cons (dg_name 2 (pg_name (i := 2) sc__law_same.nd rfl (Or.inl rfl))) (dgs_cons (dg_name 3 (pg_name (i := 3) sc__law_same.nd rfl (Or.inl rfl))) (dgs_nil)))) (fun _ _ _ _ _ => dts_nil) (fun _ _ _ _ _ => d_call' ih hr (da_cons (dv 2 (pv 2)) (da_cons (dv 3 (pv 3)) (da_nil))) (fun _ _ _ _ _ _ us hl => match us, hl with | [_, _], _ => rfl)) (by decide)) (da_nil))))))) (ds_nil))
    (ds_cons (ds_if (PW.pt (dw_or (t_is (dv 1 (pv 1)) (d_non)) (dw_or1 (dt_val (d_isi B.isinstance B.str bt_str (.inr (.inr (.inl rfl))) (dv 1 (pv 1))))))) (ds_one (ds_ret (d_and (d_eq hr.room (dv 0 (pv 0)) (dv 1 (pv 1))) (d_one (d_eq hr.room (d_isi B.isinstance B.str bt_str (.inr (.inr (.inl rfl))) (dv 0 (pv 0))) (d_isi B.isinstance B.str bt_str (.inr (.inr (.inl rfl))) (dv 1 (pv 1)))))))) (ds_nil))
    (ds_one (ds_ret (d_and (d_isi B.isinstance B.int bt_int (.inl rfl) (dv 0 (pv 0))) (d_and (d_eq hr.room (d_isi B.isinstance B.bool bt_bool (.inr (.inl rfl)) (dv 0 (pv 0))) (d_isi B.isinstance B.bool bt_bool (.inr (.inl rfl)) (dv 1 (pv 1)))) (d_one (d_eq hr.room (dv 0 (pv 0)) (dv 1 (pv 1)))))))))
abbrev s__law_pick : Stmt := topS 31
abbrev N__law_pick : List Str := ["_law_box_here", "_law_some"]
theorem sc__law_pick : FnScope N__law_pick ["_law_box_here", "_law_some"] (defScope s__law_pick) := ⟨rfl, rfl, rfl, by decide +kernel, rfl, by decide +kernel, by decide +kernel⟩
theorem ok__law_pick (f : Addr) (fd : FuncData) (F : Fun K "_law_pick" "_law_pick" s__law_pick f fd) (hm : mg "_law_pick" = some (.ref f)) (B : Bi mg)  (g__law_take : GD HW.P HW.w K mg base 12 "_law_take" s__law_take ["_law_box_here", "_law_size"] (m__law_takeG 12)) : GD HW.P HW.w K mg base 13 "_law_pick" s__law_pick ["_law_box_here", "_law_some"] m__law_pickG := gd_ok false F hm sc__law_pick fun cdv A outer s H E hr =>
    ds_one (ds_ret (d_idx hr.room (dv 1 (pv 1)) (d_call' g__law_take (hr.mono (by omega)) (da_cons (dv 0 (pv 0)) (da_cons (d_len B.len (da_cons (dv 1 (pv 1)) (da_nil))) (da_nil))) (fun _ _ _ _ _ _ us hl => match us, hl with | [_, _], _ => rfl)) (fun _ _ => rfl)))
abbrev s__law_row : Stmt := topS 35
abbrev N__law_row : List Str := ["_law_box_here", "_law_names_due", "_law_left", "_law_found"]
theorem sc__law_row : FnScope N__law_row ["_law_box_here", "_law_names_due"] (defScope s__law_row) := ⟨rfl, rfl, rfl, by decide +kernel, rfl, by decide +kernel, by decide +kernel⟩
theorem ok__law_row (f : Addr) (fd : FuncData) (F : Fun K "_law_row" "_law_row" s__law_row f fd) (hm : mg "_law_row" = some (.ref f)) (B : Bi mg)  (g__law_take : GD HW.P HW.w K mg base 12 "_law_take" s__law_take ["_law_box_here", "_law_size"] (m__law_takeG 12)) : GD HW.P HW.w K mg base 13 "_law_row" s__law_row ["_law_box_here", "_law_names_due"] m__law_rowG := gd_ok false F hm sc__law_row fun cdv A outer s H E hr =>
    ds_cons (ds_par2 (ps_par (i := 2) (j := 3) rfl sc__law_row.nd rfl rfl (by decide) rfl rfl (da_cons (d_list true B.list (da_cons (dv 1 (pv 1)) (da_nil))) (da_cons (d_lst true (da_nil)) (da_nil))) (by rfl)))
    (ds_cons (ds_while 100000 PassesOwn.never (t_ne hr.room (dv 2 (pv 2)) (d_lst false (da_nil)))
    (ds_one (ds_expr ((pe_bm PySem.F.plainAttrs_list PySem.F.slot_list_append PySem.F.type_list_append mt_append (dv 3 (pv 3)) (da_cons ((pe_bm PySem.F.plainAttrs_list PySem.F.slot_list_pop PySem.F.type_list_pop mt_popAt (dv 2 (pv 2)) (da_cons (d_call' g__law_take (hr.mono (by omega)) (da_cons (dv 0 (pv 0)) (da_cons (d_len B.len (da_cons (dv 2 (pv 2)) (da_nil))) (da_nil))) (fun _ _ _ _ _ _ us hl => match us, hl with | [_, _], _ => rfl)) (da_nil))).weak (meth_imp s_popAt)) (da_nil))).weak (meth_imp s_append)))))
    (ds_frz 3 (ds_one (ds_ret (d_tuple B.tuple (da_cons (dv 3 (pv 3)) (da_nil)))))))
abbrev s__law_names : Stmt := topS 34
abbrev N__law_names : List Str := ["_law_box_here", "_law_most", "_law_count", "_law_found", "_law_name", "_law_turn"]
theorem sc__law_names : FnScope N__law_names ["_law_box_here", "_law_most"] (defScope s__law_names) := ⟨rfl, rfl, rfl, by decide +kernel, rfl, by decide +kernel, by decide +kernel⟩
theorem ok__law_names (f : Addr) (fd : FuncData) (F : Fun K "_law_names" "_law_names" s__law_names f fd) (hm : mg "_law_names" = some (.ref f)) (B : Bi mg)  (g__law_take : GD HW.P HW.w K mg base 12 "_law_take" s__law_take ["_law_box_here", "_law_size"] (m__law_takeG 12)) (g__law_pick : GD HW.P HW.w K mg base 13 "_law_pick" s__law_pick ["_law_box_here", "_law_some"] m__law_pickG) : GD HW.P HW.w K mg base 14 "_law_names" s__law_names ["_law_box_here", "_law_most"] m__law_namesG := gd_ok false F hm sc__law_names fun cdv A outer s H E hr =>
    ds_cons (ds_par2 (ps_par (i := 2) (j := 3) rfl sc__law_names.nd rfl rfl (by decide) rfl rfl (da_cons (d_add false (d_int) (d_call' g__law_take (hr.mono (by omega)) (da_cons (dv 0 (pv 0)) (da_cons (dv 1 (pv 1)) (da_nil))) (fun _ _ _ _ _ _ us hl => match us, hl with | [_, _], _ => rfl))) (da_cons (d_lst false (da_nil)) (da_nil))) (by rfl)))
    (ds_cons (ds_while 100000 PassesOwn.never (t_lt (d_len B.len (da_cons (dv 3 (pv 3)) (da_nil))) (dv 2 (pv 2)))
    (ds_cons (ds_set (ps_set (i := 4) sc__law_names.nd rfl (Or.inl rfl) (d_join (d_str) (d_lc false (own := [("_law_turn", 5)]) rfl sc__law_names.nd (di_rng1 B.range (da_cons (d_add false (d_int) (d_call' g__law_take (hr.mono (by omega)) (da_cons (dv 0 (pv 0)) (da_cons (d_int) (da_nil))) (fun _ _ _ _ _ _ us hl => match us, hl with | [_, _], _ => rfl))) (da_nil))) (blkOk_by (N := N__law_names) (sc := defScope s__law_names) (by decide +kernel)) (fun _ _ _ _ _ => dg_name 5 (pg_name (i := 5) sc__law_names.nd rfl (Or.inl rfl))) (fun _ _ _ _ _ => dts_nil) (fun _ _ _ _ _ => d_call' g__law_pick (hr.mono (by omega)) (da_cons (dv 0 (pv 0)) (da_cons (d_str) (da_nil))) (fun _ _ _ _ _ _ us hl => match us, hl with | [_, _], _ => rfl)) (by decide)))))
    (ds_one (ds_set (ps_set (i := 3) sc__law_names.nd rfl (Or.inl rfl) (d_sortS hr rfl false B.sorted B.set (da_cons (d_add false (dv 3 (pv 3)) (d_lst false (da_cons (d_add false (dv 4 (pv 4)) (d_idx hr.room (d_str) (d_len B.len (da_cons (dv 3 (pv 3)) (da_nil))) (fun _ _ => rfl))) (da_nil)))) (da_nil))))))))
    (ds_one (ds_ret (dv 3 (pv 3)))))
abbrev s__law_call : Stmt := topS 36
abbrev N__law_call : List Str := ["_law_box_here", "_law_names_due", "_law_few", "_law_some", "_law_odds", "_law_turn", "_law_name"]
theorem sc__law_call : FnScope N__law_call ["_law_box_here", "_law_names_due"] (defScope s__law_call) := ⟨rfl, rfl, rfl, by decide +kernel, rfl, by decide +kernel, by decide +kernel⟩
theorem ok__law_call (f : Addr) (fd : FuncData) (F : Fun K "_law_call" "_law_call" s__law_call f fd) (hm : mg "_law_call" = some (.ref f)) (B : Bi mg)  (g__law_pick : GD HW.P HW.w K mg base 13 "_law_pick" s__law_pick ["_law_box_here", "_law_some"] m__law_pickG) (g__law_take : GD HW.P HW.w K mg base 12 "_law_take" s__law_take ["_law_box_here", "_law_size"] (m__law_takeG 12)) : GD HW.P HW.w K mg base 14 "_law_call" s__law_call ["_law_box_here", "_law_names_due"] m__law_callG := gd_ok false F hm sc__law_call fun cdv A outer s H E hr =>
    ds_cons (ds_set (ps_set (i := 2) sc__law_call.nd rfl (Or.inl rfl) (d_call' g__law_pick (hr.mono (by omega)) (da_cons (dv 0 (pv 0)) (da_cons (d_lst false (da_cons (d_int) (da_cons (d_int) (da_cons (d_len B.len (da_cons (dv 1 (pv 1)) (da_nil))) (da_cons (d_len B.len (da_cons (dv 1 (pv 1)) (da_nil))) (da_nil)))))) (da_nil))) (fun _ _ _ _ _ _ us hl => match us, hl with | [_, _], _ => rfl))))
    (ds_cons (ds_set (ps_set (i := 3) sc__law_call.nd rfl (Or.inr rfl) (d_lc false (own := [("_law_turn", 5)]) rfl sc__law_call.nd (di_rng1 B.range (da_cons (dv 2 (pv 2)) (da_nil))) (blkOk_by (N := N__law_call) (sc := defScope s__law_call) (by decide +kernel)) (fun _ _ _ _ _ => dg_name 5 (pg_name (i := 5) sc__law_call.nd rfl (Or.inl rfl))) (fun _ _ _ _ _ => dts_nil) (fun _ _ _ _ _ => d_call' g__law_pick (hr.mono (by omega)) (da_cons (dv 0 (pv 0)) (da_cons (dv 1 (pv 1)) (da_nil))) (fun _ _ _ _ _ _ us hl => match us, hl with | [_, _], _ => rfl)) (by decide))))
    (ds_cons (ds_set (ps_set (i := 4) sc__law_call.nd rfl (Or.inr rfl) (d_add false (d_int) (d_call' g__law_take (hr.mono (by omega)) (da_cons (dv 0 (pv 0)) (da_cons (d_int) (da_nil))) (fun _ _ _ _ _ _ us hl => match us, hl with | [_, _], _ => rfl)))))
    (ds_one (ds_ret (d_tuple B.tuple (da_cons (d_lc false (own := [("_law_name", 6)]) rfl sc__law_call.nd (di_seq (dv 1 (pv 1))) (blkOk_by (N := N__law_call) (sc := defScope s__law_call) (by decide +kernel)) (fun _ _ _ _ _ => dg_name 6 (pg_name (i := 6) sc__law_call.nd rfl (Or.inl rfl))) (fun _ _ _ _ _ => dts_nil) (fun _ _ _ _ _ => d_tup (da_cons (dv 6 (pv 6)) (da_cons (d_if (t_gt (d_call' g__law_take (hr.mono (by omega)) (da_cons (dv 0 (pv 0)) (da_cons (dv 4 (pv 4)) (da_nil))) (fun _ _ _ _ _ _ us hl => match us, hl with | [_, _], _ => rfl)) (d_int)) (dv 6 (pv 6)) (d_call' g__law_pick (hr.mono (by omega)) (da_cons (dv 0 (pv 0)) (da_cons (dv 3 (pv 3)) (da_nil))) (fun _ _ _ _ _ _ us hl => match us, hl with | [_, _], _ => rfl))) (da_nil)))) (by decide)) (da_nil)))))))
abbrev s__law_rounds : Stmt := topS 41
abbrev N__law_rounds : List Str := ["_law_box_here", "_law_names_due", "_law_at", "_law_part", "_law_left", "_law_found", "_law_k", "_law_who"]
theorem sc__law_rounds : FnScope N__law_rounds ["_law_box_here", "_law_names_due"] (defScope s__law_rounds) := ⟨rfl, rfl, rfl, by decide +kernel, rfl, by decide +kernel, by decide +kernel⟩
theorem ok__law_rounds (f : Addr) (fd : FuncData) (F : Fun K "_law_rounds" "_law_rounds" s__law_rounds f fd) (hm : mg "_law_rounds" = some (.ref f)) (B : Bi mg)  (g__law_row : GD HW.P HW.w K mg base 13 "_law_row" s__law_row ["_law_box_here", "_law_names_due"] m__law_rowG) (g__law_take : GD HW.P HW.w K mg base 12 "_law_take" s__law_take ["_law_box_here", "_law_size"] (m__law_takeG 12)) : GD HW.P HW.w K mg base 14 "_law_rounds" s__law_rounds ["_law_box_here", "_law_names_due"] m__law_rounds := gd_ok false F hm sc__law_rounds fun cdv A outer s H E hr =>
    ds_cons (ds_par2 (ps_par (i := 4) (j := 5) rfl sc__law_rounds.nd rfl rfl (by decide) rfl rfl (da_cons (d_call' g__law_row (hr.mono (by omega)) (da_cons (dv 0 (pv 0)) (da_cons (dv 1 (pv 1)) (da_nil))) (fun _ _ _ _ _ _ us hl => match us, hl with | [_, _], _ => rfl)) (da_cons (d_lst true (da_nil)) (da_nil))) (by rfl)))
    (ds_cons (ds_set (ps_set (i := 2) sc__law_rounds.nd rfl (Or.inl rfl) (d_add false (d_int) (d_call' g__law_take (hr.mono (by omega)) (da_cons (dv 0 (pv 0)) (da_cons (d_len B.len (da_cons (dv 4 (pv 4)) (da_nil))) (da_nil))) (fun _ _ _ _ _ _ us hl => match us, hl with | [_, _], _ => rfl)))))
    (ds_cons (ds_for rfl PassesOwn.never (di_seq (d_tup (da_cons (d_slice false (dv 4 (pv 4)) (do_none) (do_some (dv 2 (pv 2)))) (da_cons (d_slice false (dv 4 (pv 4)) (do_some (dv 2 (pv 2))) (do_none)) (da_nil))))) (dg_name 3 (pg_name (i := 3) sc__law_rounds.nd rfl (Or.inr rfl)))
    (ds_one (ds_expr ((pe_bm PySem.F.plainAttrs_list PySem.F.slot_list_extend PySem.F.type_list_extend mt_extend (dv 5 (pv 5)) (da_cons (d_lc false (own := [("_law_k", 6), ("_law_who", 7)]) rfl sc__law_rounds.nd (di_enumA B.enumerate (da_cons (dv 3 (pv 3)) (da_nil))) (blkOk_by (N := N__law_rounds) (sc := defScope s__law_rounds) (by decide +kernel)) (fun _ _ _ _ _ => dg_tup rfl (dgs_cons (dg_name 6 (pg_name (i := 6) sc__law_rounds.nd rfl (Or.inl rfl))) (dgs_cons (dg_name 7 (pg_name (i := 7) sc__law_rounds.nd rfl (Or.inl rfl))) (dgs_nil)))) (fun _ _ _ _ _ => dts_nil) (fun _ _ _ _ _ => d_tup (da_cons (dv 7 (pv 7)) (da_cons (d_idx hr.room (dv 3 (pv 3)) (d_mod (d_add false (dv 6 (pv 6)) (d_int)) (d_len B.len (da_cons (dv 3 (pv 3)) (da_nil)))) (fun _ _ => rfl)) (da_nil)))) (by decide)) (da_nil))).weak (meth_imp s_extend)))))
    (ds_frz 5 (ds_one (ds_ret (d_tuple B.tuple (da_cons (d_sorted hr false B.sorted (da_cons (dv 5 (pv 5)) (da_nil))) (da_nil))))))))
abbrev s__law_word : Stmt := topS 38
abbrev N__law_word : List Str := ["_law_box_here", "_law_names_due", "_law_most", "_law_turn"]
theorem sc__law_word : FnScope N__law_word ["_law_box_here", "_law_names_due", "_law_most"] (defScope s__law_word) := ⟨rfl, rfl, rfl, by decide +kernel, rfl, by decide +kernel, by decide +kernel⟩
theorem ok__law_word (f : Addr) (fd : FuncData) (F : Fun K "_law_word" "_law_word" s__law_word f fd) (hm : mg "_law_word" = some (.ref f)) (B : Bi mg)  (g__law_call : GD HW.P HW.w K mg base 14 "_law_call" s__law_call ["_law_box_here", "_law_names_due"] m__law_callG) (g__law_take : GD HW.P HW.w K mg base 12 "_law_take" s__law_take ["_law_box_here", "_law_size"] (m__law_takeG 12)) : GD HW.P HW.w K mg base 15 "_law_word" s__law_word ["_law_box_here", "_law_names_due", "_law_most"] m__law_wordG := gd_ok false F hm sc__law_word fun cdv A outer s H E hr =>
    ds_one (ds_ret (d_lc false (own := [("_law_turn", 3)]) rfl sc__law_word.nd (di_rng1 B.range (da_cons (d_call' g__law_take (hr.mono (by omega)) (da_cons (dv 0 (pv 0)) (da_cons (d_add false (dv 2 (pv 2)) (d_int)) (da_nil))) (fun _ _ _ _ _ _ us hl => match us, hl with | [_, _], _ => rfl)) (da_nil))) (blkOk_by (N := N__law_word) (sc := defScope s__law_word) (by decide +kernel)) (fun _ _ _ _ _ => dg_name 3 (pg_name (i := 3) sc__law_word.nd rfl (Or.inl rfl))) (fun _ _ _ _ _ => dts_nil) (fun _ _ _ _ _ => d_call' g__law_call (hr.mono (by omega)) (da_cons (dv 0 (pv 0)) (da_cons (dv 1 (pv 1)) (da_nil))) (fun _ _ _ _ _ _ us hl => match us, hl with | [_, _], _ => rfl)) (by decide)))
abbrev s__law_right : Stmt := topS 43
abbrev N__law_right : List Str := ["_law_box_here", "_law_names_due", "_law_lists", "_law_turn", "_law_first", "_law_cries", "_law_rows_due", "_law_at", "_law_one_of_two", "_law_mate", "_law_often", "_law_due_here", "_law_found", "_law_cry", "_law_pair", "_law_name"]
theorem sc__law_right : FnScope N__law_right ["_law_box_here"] (defScope s__law_right) := ⟨rfl, rfl, rfl, by decide +kernel, rfl, by decide +kernel, by decide +kernel⟩
abbrev scope_211_17_211_89 : Scope := {kind := PySem.ScopeKind.function, names := [(PySem.Str.ofString ".0", PySem.NameKind.local), (PySem.Str.ofString "_law_cry", PySem.NameKind.local)], isGenerator := false, isCoroutine := false, more := [] : PySem.Scope }
theorem ok__law_right (f : Addr) (fd : FuncData) (F : Fun K "_law_right" "_law_right" s__law_right f fd) (hm : mg "_law_right" = some (.ref f)) (B : Bi mg) (T : Nat → Addr)  (g__law_orbit : GD HW.P HW.w K mg base 3 "_law_orbit" s__law_orbit ["_law_row_due", "_law_cries"] m__law_orbit) (g__law_row : GD HW.P HW.w K mg base 13 "_law_row" s__law_row ["_law_box_here", "_law_names_due"] m__law_rowG) (g__law_word : GD HW.P HW.w K mg base 15 "_law_word" s__law_word ["_law_box_here", "_law_names_due", "_law_most"] m__law_wordG) (g__law_take : GD HW.P HW.w K mg base 12 "_law_take" s__law_take ["_law_box_here", "_law_size"] (m__law_takeG 12)) (g__law_pick : GD HW.P HW.w K mg base 13 "_law_pick" s__law_pick ["_law_box_here", "_law_some"] m__law_pickG) (g__law_due : GD HW.P HW.w K mg base 1 "_law_due" s__law_due ["_law_rows_due", "_law_at", "_law_one_of_two", "_law_mate", "_law_often"] m__law_due) (g__law_names : GD HW.P HW.w K mg base 14 "_law_names" s__law_names ["_law_box_here", "_law_most"] m__law_namesG) (g_changes : GD HW.P HW.w K mg base 6 "changes" s_changes ["row", "word", "one", "other", "many"] (m_changes T)) (g__law_same : GD HW.P HW.w K mg base 12 "_law_same" s__law_same ["_law_found", "_law_due_here"] (m__law_same 12)) (g__law_rounds : GD HW.P HW.w K mg base 14 "_law_rounds" s__law_rounds ["_law_box_here", "_law_names_due"] m__law_rounds) : GD HW.P HW.w K mg base 16 "_law_right" s__law_right ["_law_box_here"] (m__law_right T) := gd_ok false F hm sc__law_right fun cdv A outer s H E hr =>
    ds_cons (ds_set (ps_set (i := 1) sc__law_right.nd rfl (Or.inl rfl) (d_sorted hr false B.sorted (da_cons (d_add false (d_call' g__law_names (hr.mono (by omega)) (da_cons (dv 0 (pv 0)) (da_cons (d_int) (da_nil))) (fun _ _ _ _ _ _ us hl => match us, hl with | [_, _], _ => rfl)) (d_lst false (da_cons (d_str) (da_nil)))) (da_nil)))))
    (ds_cons (ds_par2 (ps_par (i := 4) (j := 5) rfl sc__law_right.nd rfl rfl (by decide) rfl rfl (da_cons (d_call' g__law_row (hr.mono (by omega)) (da_cons (dv 0 (pv 0)) (da_cons (dv 1 (pv 1)) (da_nil))) (fun _ _ _ _ _ _ us hl => match us, hl with | [_, _], _ => rfl)) (da_cons (d_call' g__law_word (hr.mono (by omega)) (da_cons (dv 0 (pv 0)) (da_cons (dv 1 (pv 1)) (da_cons (d_int) (da_nil)))) (fun _ _ _ _ _ _ us hl => match us, hl with | [_, _, _], _ => rfl)) (da_nil))) (by rfl)))
    (ds_cons (ds_if (t_eq hr.room (d_call' g__law_take (hr.mono (by omega)) (da_cons (dv 0 (pv 0)) (da_cons (d_int) (da_nil))) (fun _ _ _ _ _ _ us hl => match us, hl with | [_, _], _ => rfl)) (d_int)) (ds_one (ds_set (ps_set (i := 5) sc__law_right.nd rfl (Or.inl rfl) (d_add false (d_slice false (dv 5 (pv 5)) (do_none) (do_some (d_int))) (d_lst false (da_cons (d_call' g__law_rounds (hr.mono (by omega)) (da_cons (dv 0 (pv 0)) (da_cons (dv 1 (pv 1)) (da_nil))) (fun _ _ _ _ _ _ us hl => match us, hl with | [_, _], _ => rfl)) (da_nil))))))) (ds_nil))
    (ds_cons (ds_asg (d_call' g__law_orbit (hr.mono (by omega)) (da_cons (dv 4 (pv 4)) (da_cons (dv 5 (pv 5)) (da_nil))) (fun _ _ _ _ _ _ us hl => match us, hl with | [_, _], _ => rfl)) (dg_tup rfl (dgs_cons (dg_name 6 (pg_name (i := 6) sc__law_right.nd rfl (Or.inl rfl))) (dgs_cons (dg_name 7 (pg_name (i := 7) sc__law_right.nd rfl (Or.inl rfl))) (dgs_nil)))))
    (ds_cons (ds_setLc false (own := [("_law_cry", 13)]) (i := 2) rfl sc__law_right.nd rfl rfl (sw_true rfl rfl rfl (by decide +kernel)) (di_seq (dv 5 (pv 5))) (blkOk_by (N := N__law_right) (sc := defScope s__law_right) (by decide +kernel)) (fun _ _ _ _ _ => dg_name 13 (pg_name (i := 13) sc__law_right.nd rfl (Or.inl rfl))) (fun _ _ _ _ _ => dts_nil) (fun _ _ _ _ _ => d_lc false (own := [("_law_pair", 14)]) rfl sc__law_right.nd (di_seq (dv 13 (pv 13))) (blk_re (blkOk_by (N := N__law_right) (sc := scope_211_17_211_89) (by decide +kernel))) (fun _ _ _ _ _ => dg_name 14 (pg_name (i := 14) sc__law_right.nd rfl (Or.inl rfl))) (fun _ _ _ _ _ => dts_nil) (fun _ _ _ _ _ => d_list false B.list (da_cons (dv 14 (pv 14)) (da_nil))) (by decide)) (by decide))
    (ds_cons (ds_for rfl PassesOwn.never (di_rng1 B.range (da_cons (d_int) (da_nil))) (dg_name 3 (pg_name (i := 3) sc__law_right.nd rfl (Or.inl rfl)))
    (ds_cons (ds_set (ps_set (i := 8) sc__law_right.nd rfl (Or.inr rfl) (d_call' g__law_pick (hr.mono (by omega)) (da_cons (dv 0 (pv 0)) (da_cons (dv 1 (pv 1)) (da_nil))) (fun _ _ _ _ _ _ us hl => match us, hl with | [_, _], _ => rfl))))
    (ds_cons (ds_set (ps_set (i := 9) sc__law_right.nd rfl (Or.inl rfl) (d_call' g__law_pick (hr.mono (by omega)) (da_cons (dv 0 (pv 0)) (da_cons (d_lc false (own := [("_law_name", 15)]) rfl sc__law_right.nd (di_seq (dv 1 (pv 1))) (blkOk_by (N := N__law_right) (sc := defScope s__law_right) (by decide +kernel)) (fun _ _ _ _ _ => dg_name 15 (pg_name (i := 15) sc__law_right.nd rfl (Or.inl rfl))) (fun _ _ _ _ _ => dts_one (t_ne hr.room (dv 15 (pv 15)) (dv 8 (pv 8)))) (fun _ _ _ _ _ => dv 15 (pv 15)) (by decide)) (da_nil))) (fun _ _ _ _ _ _ us hl => match us, hl with | [_, _], _ => rfl))))
    (ds_cons (ds_set (ps_set (i := 10) sc__law_right.nd rfl (Or.inl rfl) (d_call' g__law_take (hr.mono (by omega)) (da_cons (dv 0 (pv 0)) (da_cons (d_call' g__law_pick (hr.mono (by omega)) (da_cons (dv 0 (pv 0)) (da_cons (d_lst false (da_cons (d_int) (da_cons (d_int) (da_cons (d_pow (d_int) (d_int)) (da_nil))))) (da_nil))) (fun _ _ _ _ _ _ us hl => match us, hl with | [_, _], _ => rfl)) (da_nil))) (fun _ _ _ _ _ _ us hl => match us, hl with | [_, _], _ => rfl))))
    (ds_cons (ds_set (ps_set (i := 11) sc__law_right.nd rfl (Or.inl rfl) (d_call' g__law_due (hr.mono (by omega)) (da_cons (dv 6 (pv 6)) (da_cons (dv 7 (pv 7)) (da_cons (dv 8 (pv 8)) (da_cons (dv 9 (pv 9)) (da_cons (dv 10 (pv 10)) (da_nil)))))) (fun _ _ _ _ _ _ us hl => match us, hl with | [_, _, _, _, _], _ => rfl))))
    (ds_cons (ds_set (ps_set (i := 12) sc__law_right.nd rfl (Or.inl rfl) (d_lst true (da_cons (d_call' g_changes (hr.mono (by omega)) (da_cons (dv 4 (pv 4)) (da_cons (dv 5 (pv 5)) (da_cons (dv 8 (pv 8)) (da_cons (dv 9 (pv 9)) (da_cons (dv 10 (pv 10)) (da_nil)))))) (fun _ _ _ _ _ _ us hl => match us, hl with | [_, _, _, _, _], _ => rfl)) (da_nil)))))
    (ds_cons (ds_expr ((pe_bm PySem.F.plainAttrs_list PySem.F.slot_list_append PySem.F.type_list_append mt_append (dv 12 (pv 12)) (da_cons (d_call' g_changes (hr.mono (by omega)) (da_cons (d_list false B.list (da_cons (dv 4 (pv 4)) (da_nil))) (da_cons (d_tuple B.tuple (da_cons (dv 2 (pv 2)) (da_nil))) (da_cons (dv 9 (pv 9)) (da_cons (dv 8 (pv 8)) (da_cons (dv 10 (pv 10)) (da_nil)))))) (fun _ _ _ _ _ _ us hl => match us, hl with | [_, _, _, _, _], _ => rfl)) (da_nil))).weak (meth_imp s_append)))
    (ds_cons (ds_expr ((pe_bm PySem.F.plainAttrs_list PySem.F.slot_list_append PySem.F.type_list_append mt_append (dv 12 (pv 12)) (da_cons (d_callK (ks := ["many", "other", "one", "word", "row"]) g_changes (hr.mono (by omega)) (dk_cons (dv 10 (pv 10)) (dk_cons (dv 9 (pv 9)) (dk_cons (dv 8 (pv 8)) (dk_cons (dv 5 (pv 5)) (dk_cons (dv 4 (pv 4)) (dk_nil)))))) (fun _ _ _ _ _ _ us l hl hp => match us, hl with | [_, _, _, _, _], _ => by cases hp; rfl) rfl) (da_nil))).weak (meth_imp s_append)))
    (ds_frz 12 (ds_one (ds_if (dt_not (dt_val (d_call' g__law_same (hr.mono (by omega)) (da_cons (dv 12 (pv 12)) (da_cons (d_mul false (d_lst false (da_cons (dv 11 (pv 11)) (da_nil))) (d_int)) (da_nil))) (fun _ _ _ _ _ _ us hl => match us, hl with | [_, _], _ => rfl)))) (ds_one (ds_ret (d_bl))) (ds_nil))))))))))))
    (ds_one (ds_ret (d_bl))))))))
abbrev s_law : Stmt := topS 44
abbrev N_law : List Str := ["_law_script", "_law_cells", "_law_k", "_law_box_here", "_law_turn"]
theorem sc_law : FnScope N_law ["_law_script"] (defScope s_law) := ⟨rfl, rfl, rfl, by decide +kernel, rfl, by decide +kernel, by decide +kernel⟩
theorem ok_law (f : Addr) (fd : FuncData) (F : Fun K "law" "law" s_law f fd) (hm : mg "law" = some (.ref f)) (B : Bi mg) (T : Nat → Addr)  (g__law_folded : GD HW.P HW.w K mg base 1 "_law_folded" s__law_folded ["_law_script", "_law_size"] m__law_folded) (g__law_box : GD HW.P HW.w K mg base 1 "_law_box" s__law_box ["_law_script", "_law_k"] m__law_box) (g__law_right : GD HW.P HW.w K mg base 16 "_law_right" s__law_right ["_law_box_here"] (m__law_right T)) : FnG HW.P HW.w K mg base CX0 17 f fd ["_law_script"] (spD (m_law T)) := fng_ok false F sc_law fun cdv A outer s H E hr =>
    ds_cons (ds_set (ps_set (i := 1) sc_law.nd rfl (Or.inl rfl) (d_call' g__law_folded (hr.mono (by omega)) (da_cons (dv 0 (pv 0)) (da_cons (d_int) (da_nil))) (fun _ _ _ _ _ _ us hl => match us, hl with | [_, _], _ => rfl))))
    (ds_cons (ds_for rfl PassesOwn.never (di_rng1 B.range (da_cons (d_len B.len (da_cons (dv 1 (pv 1)) (da_nil))) (da_nil))) (dg_name 2 (pg_name (i := 2) sc_law.nd rfl (Or.inl rfl)))
    (ds_cons (ds_set (ps_set (i := 3) sc_law.nd rfl (Or.inr rfl) (d_call' g__law_box (hr.mono (by omega)) (da_cons (dv 1 (pv 1)) (da_cons (dv 2 (pv 2)) (da_nil))) (fun _ _ _ _ _ _ us hl => match us, hl with | [_, _], _ => rfl))))
    (ds_one (ds_if (dt_not (dt_val (d_all rfl B.all (da_cons (d_lc false (own := [("_law_turn", 4)]) rfl sc_law.nd (di_rng1 B.range (da_cons (d_int) (da_nil))) (blkOk_by (N := N_law) (sc := defScope s_law) (by decide +kernel)) (fun _ _ _ _ _ => dg_name 4 (pg_name (i := 4) sc_law.nd rfl (Or.inl rfl))) (fun _ _ _ _ _ => dts_nil) (fun _ _ _ _ _ => d_call' g__law_right (hr.mono (by omega)) (da_cons (dv 3 (pv 3)) (da_nil)) (fun _ _ _ _ _ _ us hl => match us, hl with | [_], _ => rfl)) (by decide)) (da_nil))))) (ds_one (ds_ret (d_bl))) (ds_nil)))))
    (ds_one (ds_ret (d_bl))))
end
theorem all_mk {l : PySem.W.OpenLaw} {w : World} {K : PySem.W.Frag} {h : Heap} {mg : Str → Option Value} {fa f0 f1 f2 f3 f4 f5 f6 f7 f8 f9 f10 f11 f12 f13 f14 f15 f16 f17 f18 f19 f20 f21 f22 f23 f24 f25 f26 f27 f28 f29 f30 f31 : Addr} {C : Addr} (X : K.In h) (G : h.Ns mainGlobals mg) (hfa : mg "law" = some (.ref fa))
    {od0 od1 od2 od3 od4 od5 od6 od7 od8 od9 od10 od11 od12 od13 od14 od15 od16 od17 od18 od19 od20 od21 od22 od23 od24 od25 od26 od27 od28 od29 od30 od31 an0 an1 an2 an3 an4 an5 an6 an7 an8 an9 an10 an11 an12 an13 an14 an15 an16 an17 an18 an19 an20 an21 an22 an23 an24 an25 an26 an27 an28 an29 an30 an31 : Option Addr} {sl0 sl1 sl2 sl3 sl4 sl5 sl6 sl7 sl8 sl9 sl10 sl11 sl12 sl13 sl14 sl15 sl16 sl17 sl18 sl19 sl20 sl21 sl22 sl23 sl24 sl25 sl26 sl27 sl28 sl29 sl30 sl31 : Array (Option Value)} {oc0 oc1 oc2 oc3 oc4 oc5 oc6 oc7 oc8 oc9 oc10 oc11 oc12 oc13 oc14 oc15 oc16 oc17 oc18 oc19 oc20 oc21 oc22 oc23 oc24 oc25 oc26 oc27 oc28 oc29 oc30 oc31 kV0 kV1 kV2 kV3 kV4 kV5 kV6 kV7 kV8 kV9 kV10 kV11 kV12 kV13 kV14 kV15 kV16 kV17 kV18 kV19 kV20 kV21 kV22 kV23 kV24 kV25 kV26 kV27 kV28 kV29 kV30 kV31 dc0 dc1 dc2 dc3 dc4 dc5 dc6 dc7 dc8 dc9 dc10 dc11 dc12 dc13 dc14 dc15 dc16 dc17 dc18 dc19 dc20 dc21 dc22 dc23 dc24 dc25 dc26 dc27 dc28 dc29 dc30 dc31 pm0 pm1 pm2 pm3 pm4 pm5 pm6 pm7 pm8 pm9 pm10 pm11 pm12 pm13 pm14 pm15 pm16 pm17 pm18 pm19 pm20 pm21 pm22 pm23 pm24 pm25 pm26 pm27 pm28 pm29 pm30 pm31 cd0 cd1 cd2 cd3 cd4 cd5 cd6 cd7 cd8 cd9 cd10 cd11 cd12 cd13 cd14 cd15 cd16 cd17 cd18 cd19 cd20 cd21 cd22 cd23 cd24 cd25 cd26 cd27 cd28 cd29 cd30 cd31 ct0 ct1 ct2 ct3 ct4 ct5 ct6 ct7 ct8 ct9 ct10 ct11 ct12 ct13 ct14 ct15 ct16 ct17 ct18 ct19 ct20 ct21 ct22 ct23 ct24 ct25 ct26 ct27 ct28 ct29 ct30 ct31 : Value}
    (a0 : PySem.W.nsIn K mainGlobals "places_of" = some (some (.ref f0))) (l0 : K.lookup f0 = some ⟨oc0, od0, .func (PySem.W.fnOf "places_of" "places_of" (defArgs s_places_of) (defBody s_places_of) (defScope s_places_of) .none kV0 dc0 pm0 an0 cd0 ct0), sl0⟩) (c0 : PySem.W.codeIn K cd0 "places_of" = true) (k0 : PySem.W.keepIn K (.ref f0) = true)
    (a1 : PySem.W.nsIn K mainGlobals "look_alike" = some (some (.ref f1))) (l1 : K.lookup f1 = some ⟨oc1, od1, .func (PySem.W.fnOf "look_alike" "look_alike" (defArgs s_look_alike) (defBody s_look_alike) (defScope s_look_alike) .none kV1 dc1 pm1 an1 cd1 ct1), sl1⟩) (c1 : PySem.W.codeIn K cd1 "look_alike" = true) (k1 : PySem.W.keepIn K (.ref f1) = true)
    (a2 : PySem.W.nsIn K mainGlobals "by_names" = some (some (.ref f2))) (l2 : K.lookup f2 = some ⟨oc2, od2, .func (PySem.W.fnOf "by_names" "by_names" (defArgs s_by_names) (defBody s_by_names) (defScope s_by_names) .none kV2 dc2 pm2 an2 cd2 ct2), sl2⟩) (c2 : PySem.W.codeIn K cd2 "by_names" = true) (k2 : PySem.W.keepIn K (.ref f2) = true)
    (a3 : PySem.W.nsIn K mainGlobals "people" = some (some (.ref f3))) (l3 : K.lookup f3 = some ⟨oc3, od3, .func (PySem.W.fnOf "people" "people" (defArgs s_people) (defBody s_people) (defScope s_people) .none kV3 dc3 pm3 an3 cd3 ct3), sl3⟩) (c3 : PySem.W.codeIn K cd3 "people" = true) (k3 : PySem.W.keepIn K (.ref f3) = true)
    (a4 : PySem.W.nsIn K mainGlobals "gone" = some (some (.ref f4))) (l4 : K.lookup f4 = some ⟨oc4, od4, .func (PySem.W.fnOf "gone" "gone" (defArgs s_gone) (defBody s_gone) (defScope s_gone) .none kV4 dc4 pm4 an4 cd4 ct4), sl4⟩) (c4 : PySem.W.codeIn K cd4 "gone" = true) (k4 : PySem.W.keepIn K (.ref f4) = true)
    (a5 : PySem.W.nsIn K mainGlobals "ways_back" = some (some (.ref f5))) (l5 : K.lookup f5 = some ⟨oc5, od5, .func (PySem.W.fnOf "ways_back" "ways_back" (defArgs s_ways_back) (defBody s_ways_back) (defScope s_ways_back) .none kV5 dc5 pm5 an5 cd5 ct5), sl5⟩) (c5 : PySem.W.codeIn K cd5 "ways_back" = true) (k5 : PySem.W.keepIn K (.ref f5) = true)
    (a6 : PySem.W.nsIn K mainGlobals "walked" = some (some (.ref f6))) (l6 : K.lookup f6 = some ⟨oc6, od6, .func (PySem.W.fnOf "walked" "walked" (defArgs s_walked) (defBody s_walked) (defScope s_walked) .none kV6 dc6 pm6 an6 cd6 ct6), sl6⟩) (c6 : PySem.W.codeIn K cd6 "walked" = true) (k6 : PySem.W.keepIn K (.ref f6) = true)
    (a7 : PySem.W.nsIn K mainGlobals "all_pairs" = some (some (.ref f7))) (l7 : K.lookup f7 = some ⟨oc7, od7, .func (PySem.W.fnOf "all_pairs" "all_pairs" (defArgs s_all_pairs) (defBody s_all_pairs) (defScope s_all_pairs) .none kV7 dc7 pm7 an7 cd7 ct7), sl7⟩) (c7 : PySem.W.codeIn K cd7 "all_pairs" = true) (k7 : PySem.W.keepIn K (.ref f7) = true)
    (a8 : PySem.W.nsIn K mainGlobals "told_pairs" = some (some (.ref f8))) (l8 : K.lookup f8 = some ⟨oc8, od8, .func (PySem.W.fnOf "told_pairs" "told_pairs" (defArgs s_told_pairs) (defBody s_told_pairs) (defScope s_told_pairs) .none kV8 dc8 pm8 an8 cd8 ct8), sl8⟩) (c8 : PySem.W.codeIn K cd8 "told_pairs" = true) (k8 : PySem.W.keepIn K (.ref f8) = true)
    (a9 : PySem.W.nsIn K mainGlobals "is_less" = some (some (.ref f9))) (l9 : K.lookup f9 = some ⟨oc9, od9, .func (PySem.W.fnOf "is_less" "is_less" (defArgs s_is_less) (defBody s_is_less) (defScope s_is_less) .none kV9 dc9 pm9 an9 cd9 ct9), sl9⟩) (c9 : PySem.W.codeIn K cd9 "is_less" = true) (k9 : PySem.W.keepIn K (.ref f9) = true)
    (a10 : PySem.W.findIn K (.ref C) "__init__" = some (some (.ref f10))) (i10 : PySem.W.isFn K (.ref f10) = true) (l10 : K.lookup f10 = some ⟨oc10, od10, .func (PySem.W.fnOf "__init__" "Table.__init__" (defArgs s_Table___init__) (defBody s_Table___init__) (defScope s_Table___init__) .none kV10 dc10 pm10 an10 cd10 ct10), sl10⟩) (c10 : PySem.W.codeIn K cd10 "Table.__init__" = true) (k10 : PySem.W.keepIn K (.ref f10) = true)
    (a11 : PySem.W.nsIn K mainGlobals "way_on" = some (some (.ref f11))) (l11 : K.lookup f11 = some ⟨oc11, od11, .func (PySem.W.fnOf "way_on" "way_on" (defArgs s_way_on) (defBody s_way_on) (defScope s_way_on) .none kV11 dc11 pm11 an11 cd11 ct11), sl11⟩) (c11 : PySem.W.codeIn K cd11 "way_on" = true) (k11 : PySem.W.keepIn K (.ref f11) = true)
    (a12 : PySem.W.nsIn K mainGlobals "least_round" = some (some (.ref f12))) (l12 : K.lookup f12 = some ⟨oc12, od12, .func (PySem.W.fnOf "least_round" "least_round" (defArgs s_least_round) (defBody s_least_round) (defScope s_least_round) .none kV12 dc12 pm12 an12 cd12 ct12), sl12⟩) (c12 : PySem.W.codeIn K cd12 "least_round" = true) (k12 : PySem.W.keepIn K (.ref f12) = true)
    (a13 : PySem.W.nsIn K mainGlobals "truths_of" = some (some (.ref f13))) (l13 : K.lookup f13 = some ⟨oc13, od13, .func (PySem.W.fnOf "truths_of" "truths_of" (defArgs s_truths_of) (defBody s_truths_of) (defScope s_truths_of) .none kV13 dc13 pm13 an13 cd13 ct13), sl13⟩) (c13 : PySem.W.codeIn K cd13 "truths_of" = true) (k13 : PySem.W.keepIn K (.ref f13) = true)
    (a14 : PySem.W.nsIn K mainGlobals "changed_in" = some (some (.ref f14))) (l14 : K.lookup f14 = some ⟨oc14, od14, .func (PySem.W.fnOf "changed_in" "changed_in" (defArgs s_changed_in) (defBody s_changed_in) (defScope s_changed_in) .none kV14 dc14 pm14 an14 cd14 ct14), sl14⟩) (c14 : PySem.W.codeIn K cd14 "changed_in" = true) (k14 : PySem.W.keepIn K (.ref f14) = true)
    (a15 : PySem.W.nsIn K mainGlobals "changes" = some (some (.ref f15))) (l15 : K.lookup f15 = some ⟨oc15, od15, .func (PySem.W.fnOf "changes" "changes" (defArgs s_changes) (defBody s_changes) (defScope s_changes) .none kV15 dc15 pm15 an15 cd15 ct15), sl15⟩) (c15 : PySem.W.codeIn K cd15 "changes" = true) (k15 : PySem.W.keepIn K (.ref f15) = true)
    (a16 : PySem.W.nsIn K mainGlobals "_law_box" = some (some (.ref f16))) (l16 : K.lookup f16 = some ⟨oc16, od16, .func (PySem.W.fnOf "_law_box" "_law_box" (defArgs s__law_box) (defBody s__law_box) (defScope s__law_box) .none kV16 dc16 pm16 an16 cd16 ct16), sl16⟩) (c16 : PySem.W.codeIn K cd16 "_law_box" = true) (k16 : PySem.W.keepIn K (.ref f16) = true)
    (a17 : PySem.W.nsIn K mainGlobals "_law_take" = some (some (.ref f17))) (l17 : K.lookup f17 = some ⟨oc17, od17, .func (PySem.W.fnOf "_law_take" "_law_take" (defArgs s__law_take) (defBody s__law_take) (defScope s__law_take) .none kV17 dc17 pm17 an17 cd17 ct17), sl17⟩) (c17 : PySem.W.codeIn K cd17 "_law_take" = true) (k17 : PySem.W.keepIn K (.ref f17) = true)
    (a18 : PySem.W.nsIn K mainGlobals "_law_pick" = some (some (.ref f18))) (l18 : K.lookup f18 = some ⟨oc18, od18, .func (PySem.W.fnOf "_law_pick" "_law_pick" (defArgs s__law_pick) (defBody s__law_pick) (defScope s__law_pick) .none kV18 dc18 pm18 an18 cd18 ct18), sl18⟩) (c18 : PySem.W.codeIn K cd18 "_law_pick" = true) (k18 : PySem.W.keepIn K (.ref f18) = true)
    (a19 : PySem.W.nsIn K mainGlobals "_law_same" = some (some (.ref f19))) (l19 : K.lookup f19 = some ⟨oc19, od19, .func (PySem.W.fnOf "_law_same" "_law_same" (defArgs s__law_same) (defBody s__law_same) (defScope s__law_same) .none kV19 dc19 pm19 an19 cd19 ct19), sl19⟩) (c19 : PySem.W.codeIn K cd19 "_law_same" = true) (k19 : PySem.W.keepIn K (.ref f19) = true)
    (a20 : PySem.W.nsIn K mainGlobals "_law_folded" = some (some (.ref f20))) (l20 : K.lookup f20 = some ⟨oc20, od20, .func (PySem.W.fnOf "_law_folded" "_law_folded" (defArgs s__law_folded) (defBody s__law_folded) (defScope s__law_folded) .none kV20 dc20 pm20 an20 cd20 ct20), sl20⟩) (c20 : PySem.W.codeIn K cd20 "_law_folded" = true) (k20 : PySem.W.keepIn K (.ref f20) = true)
    (a21 : PySem.W.nsIn K mainGlobals "_law_names" = some (some (.ref f21))) (l21 : K.lookup f21 = some ⟨oc21, od21, .func (PySem.W.fnOf "_law_names" "_law_names" (defArgs s__law_names) (defBody s__law_names) (defScope s__law_names) .none kV21 dc21 pm21 an21 cd21 ct21), sl21⟩) (c21 : PySem.W.codeIn K cd21 "_law_names" = true) (k21 : PySem.W.keepIn K (.ref f21) = true)
    (a22 : PySem.W.nsIn K mainGlobals "_law_row" = some (some (.ref f22))) (l22 : K.lookup f22 = some ⟨oc22, od22, .func (PySem.W.fnOf "_law_row" "_law_row" (defArgs s__law_row) (defBody s__law_row) (defScope s__law_row) .none kV22 dc22 pm22 an22 cd22 ct22), sl22⟩) (c22 : PySem.W.codeIn K cd22 "_law_row" = true) (k22 : PySem.W.keepIn K (.ref f22) = true)
    (a23 : PySem.W.nsIn K mainGlobals "_law_call" = some (some (.ref f23))) (l23 : K.lookup f23 = some ⟨oc23, od23, .func (PySem.W.fnOf "_law_call" "_law_call" (defArgs s__law_call) (defBody s__law_call) (defScope s__law_call) .none kV23 dc23 pm23 an23 cd23 ct23), sl23⟩) (c23 : PySem.W.codeIn K cd23 "_law_call" = true) (k23 : PySem.W.keepIn K (.ref f23) = true)
    (a24 : PySem.W.nsIn K mainGlobals "_law_called" = some (some (.ref f24))) (l24 : K.lookup f24 = some ⟨oc24, od24, .func (PySem.W.fnOf "_law_called" "_law_called" (defArgs s__law_called) (defBody s__law_called) (defScope s__law_called) .none kV24 dc24 pm24 an24 cd24 ct24), sl24⟩) (c24 : PySem.W.codeIn K cd24 "_law_called" = true) (k24 : PySem.W.keepIn K (.ref f24) = true)
    (a25 : PySem.W.nsIn K mainGlobals "_law_word" = some (some (.ref f25))) (l25 : K.lookup f25 = some ⟨oc25, od25, .func (PySem.W.fnOf "_law_word" "_law_word" (defArgs s__law_word) (defBody s__law_word) (defScope s__law_word) .none kV25 dc25 pm25 an25 cd25 ct25), sl25⟩) (c25 : PySem.W.codeIn K cd25 "_law_word" = true) (k25 : PySem.W.keepIn K (.ref f25) = true)
    (a26 : PySem.W.nsIn K mainGlobals "_law_led" = some (some (.ref f26))) (l26 : K.lookup f26 = some ⟨oc26, od26, .func (PySem.W.fnOf "_law_led" "_law_led" (defArgs s__law_led) (defBody s__law_led) (defScope s__law_led) .none kV26 dc26 pm26 an26 cd26 ct26), sl26⟩) (c26 : PySem.W.codeIn K cd26 "_law_led" = true) (k26 : PySem.W.keepIn K (.ref f26) = true)
    (a27 : PySem.W.nsIn K mainGlobals "_law_orbit" = some (some (.ref f27))) (l27 : K.lookup f27 = some ⟨oc27, od27, .func (PySem.W.fnOf "_law_orbit" "_law_orbit" (defArgs s__law_orbit) (defBody s__law_orbit) (defScope s__law_orbit) .none kV27 dc27 pm27 an27 cd27 ct27), sl27⟩) (c27 : PySem.W.codeIn K cd27 "_law_orbit" = true) (k27 : PySem.W.keepIn K (.ref f27) = true)
    (a28 : PySem.W.nsIn K mainGlobals "_law_rounds" = some (some (.ref f28))) (l28 : K.lookup f28 = some ⟨oc28, od28, .func (PySem.W.fnOf "_law_rounds" "_law_rounds" (defArgs s__law_rounds) (defBody s__law_rounds) (defScope s__law_rounds) .none kV28 dc28 pm28 an28 cd28 ct28), sl28⟩) (c28 : PySem.W.codeIn K cd28 "_law_rounds" = true) (k28 : PySem.W.keepIn K (.ref f28) = true)
    (a29 : PySem.W.nsIn K mainGlobals "_law_due" = some (some (.ref f29))) (l29 : K.lookup f29 = some ⟨oc29, od29, .func (PySem.W.fnOf "_law_due" "_law_due" (defArgs s__law_due) (defBody s__law_due) (defScope s__law_due) .none kV29 dc29 pm29 an29 cd29 ct29), sl29⟩) (c29 : PySem.W.codeIn K cd29 "_law_due" = true) (k29 : PySem.W.keepIn K (.ref f29) = true)
    (a30 : PySem.W.nsIn K mainGlobals "_law_right" = some (some (.ref f30))) (l30 : K.lookup f30 = some ⟨oc30, od30, .func (PySem.W.fnOf "_law_right" "_law_right" (defArgs s__law_right) (defBody s__law_right) (defScope s__law_right) .none kV30 dc30 pm30 an30 cd30 ct30), sl30⟩) (c30 : PySem.W.codeIn K cd30 "_law_right" = true) (k30 : PySem.W.keepIn K (.ref f30) = true)
    (a31 : PySem.W.nsIn K mainGlobals "law" = some (some (.ref f31))) (l31 : K.lookup f31 = some ⟨oc31, od31, .func (PySem.W.fnOf "law" "law" (defArgs s_law) (defBody s_law) (defScope s_law) .none kV31 dc31 pm31 an31 cd31 ct31), sl31⟩) (c31 : PySem.W.codeIn K cd31 "law" = true) (k31 : PySem.W.keepIn K (.ref f31) = true)
    (aC : PySem.W.nsIn K mainGlobals "Table" = some (some (.ref C)))
    (pg : PySem.W.plainGet K C Str.empty = true)
    (hd : PySem.W.hasDictIn K C = true)
    (po : PySem.W.plainOver K C = true)
    (sa : PySem.W.findIn K (.ref C) "__setattr__" = some (some (.builtin "object.__setattr__")))
    (mk : PySem.W.makesIn K C = true)
    (kc : PySem.W.keepIn K (.ref C) = true)
    (nA : PySem.W.findIn K (.ref C) "own_names" = some none)
    (nB : PySem.W.findIn K (.ref C) "own_pairs" = some none)
    (ha : PySem.W.findIn K (.ref C) "__class__" = some (some (.builtin "object.__class__")))
    (hn : PySem.W.specialIn K (.builtin "object.__class__") "__get__" = some (some (.builtin "getset_descriptor.__get__")))
    (htk : PySem.W.takesIn K (.builtin "object.__class__") = some true)
    (hmr : PySem.W.mroIn K C (.type "object") = some true)
    (kit : PySem.W.kitOne K (.ref C) (.ref C) = some true)
    (z_len : PySem.W.nsIn K mainGlobals "len" = some none)
    (z_abs : PySem.W.nsIn K mainGlobals "abs" = some none)
    (z_int : PySem.W.nsIn K mainGlobals "int" = some none)
    (z_max : PySem.W.nsIn K mainGlobals "max" = some none)
    (z_min : PySem.W.nsIn K mainGlobals "min" = some none)
    (z_all : PySem.W.nsIn K mainGlobals "all" = some none)
    (z_any : PySem.W.nsIn K mainGlobals "any" = some none)
    (z_sum : PySem.W.nsIn K mainGlobals "sum" = some none)
    (z_tuple : PySem.W.nsIn K mainGlobals "tuple" = some none)
    (z_list : PySem.W.nsIn K mainGlobals "list" = some none)
    (z_dict : PySem.W.nsIn K mainGlobals "dict" = some none)
    (z_sorted : PySem.W.nsIn K mainGlobals "sorted" = some none)
    (z_isinstance : PySem.W.nsIn K mainGlobals "isinstance" = some none)
    (z_str : PySem.W.nsIn K mainGlobals "str" = some none)
    (z_bool : PySem.W.nsIn K mainGlobals "bool" = some none)
    (z_range : PySem.W.nsIn K mainGlobals "range" = some none)
    (z_enumerate : PySem.W.nsIn K mainGlobals "enumerate" = some none)
    (z_zip : PySem.W.nsIn K mainGlobals "zip" = some none)
    (z_reversed : PySem.W.nsIn K mainGlobals "reversed" = some none)
    (z_repr : PySem.W.nsIn K mainGlobals "repr" = some none)
    (z_set : PySem.W.nsIn K mainGlobals "set" = some none)
    (y_divmod : PySem.W.nsIn K mainGlobals "divmod" = some none)
    : ∃ (fd : FuncData) (os : List (Option (Str × Addr × Addr))) (m : FM), (∀ (s : Shared) (v : Value), BindsTo s fd ⟨[v], []⟩ [("_law_script", v)]) ∧ (∀ t ∈ os.filterMap id, (∃ y ∈ [], PySem.W.tabIn K y = some (t.2.1, t.2.2)) ∧ K.lookup t.2.2 = none) ∧ ((os.filterMap id).map (·.2.2)).Nodup ∧ (∀ base : Heap, K.In base → base.Ns mainGlobals mg → (∀ t ∈ os.filterMap id, LamX.TabB base mg t.2.1 t.2.2) → FnG l.prog w K mg base CX0 17 fa fd ["_law_script"] (@spD (HW.mk l.prog w) m)) ∧ ∀ ns : List Int, ns.length ≤ 63 → ∃ h', m [.scr ns] (tabsO os) = some (.dat (.bool true), h') := by
  letI : HW := HW.mk l.prog w
  obtain ⟨T, rfl⟩ : ∃ T : Nat → Addr, T 7 = C := ⟨fun i => if i = 7 then C else ([] : List Addr).getD i 0, rfl⟩
  have cg : ClsG K mg (T 7) "Table" := ⟨⟨⟨pg, hd, po, sa⟩, ha, hn, htk, hmr, kit⟩, PySem.W.mg_of X G aC, mk, kc⟩
  have e := hfa.symm.trans (PySem.W.mg_of X G a31)
  cases e
  have B : Bi mg := ⟨PySem.W.mg_none_of X G z_len, PySem.W.mg_none_of X G z_abs, PySem.W.mg_none_of X G z_int, PySem.W.mg_none_of X G z_max, PySem.W.mg_none_of X G z_min, PySem.W.mg_none_of X G z_all, PySem.W.mg_none_of X G z_any, PySem.W.mg_none_of X G z_sum, PySem.W.mg_none_of X G z_tuple, PySem.W.mg_none_of X G z_list, PySem.W.mg_none_of X G z_dict, PySem.W.mg_none_of X G z_sorted, PySem.W.mg_none_of X G z_isinstance, PySem.W.mg_none_of X G z_str, PySem.W.mg_none_of X G z_bool, PySem.W.mg_none_of X G z_range, PySem.W.mg_none_of X G z_enumerate, PySem.W.mg_none_of X G z_zip, PySem.W.mg_none_of X G z_reversed, PySem.W.mg_none_of X G z_repr, PySem.W.mg_none_of X G z_set⟩
  have F0 := fun_mk (st := s_places_of) l0 c0 k0
  have F1 := fun_mk (st := s_look_alike) l1 c1 k1
  have F2 := fun_mk (st := s_by_names) l2 c2 k2
  have F3 := fun_mk (st := s_people) l3 c3 k3
  have F4 := fun_mk (st := s_gone) l4 c4 k4
  have F5 := fun_mk (st := s_ways_back) l5 c5 k5
  have F6 := fun_mk (st := s_walked) l6 c6 k6
  have F7 := fun_mk (st := s_all_pairs) l7 c7 k7
  have F8 := fun_mk (st := s_told_pairs) l8 c8 k8
  have F9 := fun_mk (st := s_is_less) l9 c9 k9
  have F10 := fun_mk (st := s_Table___init__) l10 c10 k10
  have F11 := fun_mk (st := s_way_on) l11 c11 k11
  have F12 := fun_mk (st := s_least_round) l12 c12 k12
  have F13 := fun_mk (st := s_truths_of) l13 c13 k13
  have F14 := fun_mk (st := s_changed_in) l14 c14 k14
  have F15 := fun_mk (st := s_changes) l15 c15 k15
  have F16 := fun_mk (st := s__law_box) l16 c16 k16
  have F17 := fun_mk (st := s__law_take) l17 c17 k17
  have F18 := fun_mk (st := s__law_pick) l18 c18 k18
  have F19 := fun_mk (st := s__law_same) l19 c19 k19
  have F20 := fun_mk (st := s__law_folded) l20 c20 k20
  have F21 := fun_mk (st := s__law_names) l21 c21 k21
  have F22 := fun_mk (st := s__law_row) l22 c22 k22
  have F23 := fun_mk (st := s__law_call) l23 c23 k23
  have F24 := fun_mk (st := s__law_called) l24 c24 k24
  have F25 := fun_mk (st := s__law_word) l25 c25 k25
  have F26 := fun_mk (st := s__law_led) l26 c26 k26
  have F27 := fun_mk (st := s__law_orbit) l27 c27 k27
  have F28 := fun_mk (st := s__law_rounds) l28 c28 k28
  have F29 := fun_mk (st := s__law_due) l29 c29 k29
  have F30 := fun_mk (st := s__law_right) l30 c30 k30
  have F31 := fun_mk (st := s_law) l31 c31 k31
  refine ⟨PySem.W.fnOf "law" "law" (defArgs s_law) (defBody s_law) (defScope s_law) .none kV31 dc31 pm31 an31 cd31 ct31, [], m_law T, fun s v => .of_eq rfl, ?_, ?_, fun base _ _ TB => ?_, law_true T⟩
  · intro t ht
    cases ht
  · exact List.nodup_nil
  have g__law_folded := ok__law_folded (base := base) _ _ F20 (PySem.W.mg_of X G a20) B 
  have g__law_box := ok__law_box (base := base) _ _ F16 (PySem.W.mg_of X G a16) B 
  have g__law_take := ok__law_take (base := base) _ _ F17 (PySem.W.mg_of X G a17) B  12
  have g__law_pick := ok__law_pick (base := base) _ _ F18 (PySem.W.mg_of X G a18) B g__law_take
  have g__law_names := ok__law_names (base := base) _ _ F21 (PySem.W.mg_of X G a21) B g__law_take g__law_pick
  have g__law_row := ok__law_row (base := base) _ _ F22 (PySem.W.mg_of X G a22) B g__law_take
  have g__law_call := ok__law_call (base := base) _ _ F23 (PySem.W.mg_of X G a23) B g__law_pick g__law_take
  have g__law_word := ok__law_word (base := base) _ _ F25 (PySem.W.mg_of X G a25) B g__law_call g__law_take
  have g__law_rounds := ok__law_rounds (base := base) _ _ F28 (PySem.W.mg_of X G a28) B g__law_row g__law_take
  have g__law_called := ok__law_called (base := base) _ _ F24 (PySem.W.mg_of X G a24) B 
  have g__law_led := ok__law_led (base := base) _ _ F26 (PySem.W.mg_of X G a26) B g__law_called
  have g__law_orbit := ok__law_orbit (base := base) _ _ F27 (PySem.W.mg_of X G a27) B g__law_led
  have g__law_due := ok__law_due (base := base) _ _ F29 (PySem.W.mg_of X G a29) B 
  have g_way_on := ok_way_on (base := base) _ _ F11 (PySem.W.mg_of X G a11) B 
  have g_is_less := ok_is_less (base := base) _ _ F9 (PySem.W.mg_of X G a9) B 
  have g_least_round := ok_least_round (base := base) _ _ F12 (PySem.W.mg_of X G a12) B 
  have g_truths_of := ok_truths_of (base := base) _ _ F13 (PySem.W.mg_of X G a13) B g_way_on g_is_less g_least_round
  have g_look_alike := ok_look_alike (base := base) _ _ F1 (PySem.W.mg_of X G a1) B 
  have g_people := ok_people (base := base) _ _ F3 (PySem.W.mg_of X G a3) B 
  have g_by_names := ok_by_names (base := base) _ _ F2 (PySem.W.mg_of X G a2) B 
  have g_ways_back := ok_ways_back (base := base) _ _ F5 (PySem.W.mg_of X G a5) B g_by_names
  have g_all_pairs := ok_all_pairs (base := base) _ _ F7 (PySem.W.mg_of X G a7) B 
  have g_gone := ok_gone (base := base) _ _ F4 (PySem.W.mg_of X G a4) B 
  have g_walked := ok_walked (base := base) _ _ F6 (PySem.W.mg_of X G a6) B g_gone
  have g_told_pairs := ok_told_pairs (base := base) _ _ F8 (PySem.W.mg_of X G a8) B g_ways_back g_walked g_all_pairs
  have g_Table___init__ := ok_Table___init__ (base := base) T _ _ F10 ⟨a10, i10, k10⟩ B cg nA nB g_told_pairs g_look_alike g_people
  have g_places_of := ok_places_of (base := base) _ _ F0 (PySem.W.mg_of X G a0) B 
  have g_changed_in := ok_changed_in (base := base) _ _ F14 (PySem.W.mg_of X G a14) B 
  have g_changes := ok_changes (base := base) _ _ F15 (PySem.W.mg_of X G a15) B T cg nA nB (PySem.W.mg_none_of X G y_divmod) g_truths_of g_places_of g_changed_in g_Table___init__
  have g__law_same := ok__law_same (base := base) _ _ F19 (PySem.W.mg_of X G a19) B  12
  have g__law_right := ok__law_right (base := base) _ _ F30 (PySem.W.mg_of X G a30) B T g__law_orbit g__law_row g__law_word g__law_take g__law_pick g__law_due g__law_names g_changes g__law_same g__law_rounds
  exact ok_law (base := base) _ _ F31 (PySem.W.mg_of X G a31) B T g__law_folded g__law_box g__law_right
end LW
open PySem PySem.W PyProof.Rows
set_option maxRecDepth 100000 in
set_option maxHeartbeats 0 in
theorem PySem.Challenge.cw_standby_k28_how_often_two_change_holds : PySem.Challenge.rw_standby_k28_how_often_two_change.Holds := by
  w_on; o_law; k_head; (case hw => w_witness2)
  k_fill
  refine DL.walk_gO (l := PySem.Challenge.rw_standby_k28_how_often_two_change) (k := 17) (x := "_law_script") (xs := []) rfl rfl ⟨rfl, by decide, by decide⟩ (fun w h Y => PySem.W.kIn_of Y) ?nl ?rc ?F
  case nl => intro w; first | rfl | kernel_rfl | decide +kernel
  case rc => intro x hx; cases hx
  case F =>
    intro w mg fa h KX G hmg
    refine' LW.all_mk KX G hmg ?a0 ?l0 ?c0 ?k0 ?a1 ?l1 ?c1 ?k1 ?a2 ?l2 ?c2 ?k2 ?a3 ?l3 ?c3 ?k3 ?a4 ?l4 ?c4 ?k4 ?a5 ?l5 ?c5 ?k5 ?a6 ?l6 ?c6 ?k6 ?a7 ?l7 ?c7 ?k7 ?a8 ?l8 ?c8 ?k8 ?a9 ?l9 ?c9 ?k9 ?a10 ?i10 ?l10 ?c10 ?k10 ?a11 ?l11 ?c11 ?k11 ?a12 ?l12 ?c12 ?k12 ?a13 ?l13 ?c13 ?k13 ?a14 ?l14 ?c14 ?k14 ?a15 ?l15 ?c15 ?k15 ?a16 ?l16 ?c16 ?k16 ?a17 ?l17 ?c17 ?k17 ?a18 ?l18 ?c18 ?k18 ?a19 ?l19 ?c19 ?k19 ?a20 ?l20 ?c20 ?k20 ?a21 ?l21 ?c21 ?k21 ?a22 ?l22 ?c22 ?k22 ?a23 ?l23 ?c23 ?k23 ?a24 ?l24 ?c24 ?k24 ?a25 ?l25 ?c25 ?k25 ?a26 ?l26 ?c26 ?k26 ?a27 ?l27 ?c27 ?k27 ?a28 ?l28 ?c28 ?k28 ?a29 ?l29 ?c29 ?k29 ?a30 ?l30 ?c30 ?k30 ?a31 ?l31 ?c31 ?k31 ?aC ?pg ?hd ?po ?sa ?mk ?kc ?nA ?nB ?ha ?hn ?htk ?hmr ?kit ?z_len ?z_abs ?z_int ?z_max ?z_min ?z_all ?z_any ?z_sum ?z_tuple ?z_list ?z_dict ?z_sorted ?z_isinstance ?z_str ?z_bool ?z_range ?z_enumerate ?z_zip ?z_reversed ?z_repr ?z_set ?y_divmod
    (case aC => first | k_is | rfl | kernel_rfl | decide +kernel)
    (case pg => first | k_is | rfl | kernel_rfl | decide +kernel)
    (case hd => first | k_is | rfl | kernel_rfl | decide +kernel)
    (case po => first | k_is | rfl | kernel_rfl | decide +kernel)
    (case sa => first | k_is | rfl | kernel_rfl | decide +kernel)
    (case mk => first | k_is | rfl | kernel_rfl | decide +kernel)
    (case kc => first | k_is | rfl | kernel_rfl | decide +kernel)
    (case nA => first | k_is | rfl | kernel_rfl | decide +kernel)
    (case nB => first | k_is | rfl | kernel_rfl | decide +kernel)
    (case ha => first | k_is | rfl | kernel_rfl | decide +kernel)
    (case hn => first | k_is | rfl | kernel_rfl | decide +kernel)
    (case htk => first | k_is | rfl | kernel_rfl | decide +kernel)
    (case hmr => first | k_is | rfl | kernel_rfl | decide +kernel)
    (case kit => first | k_is | rfl | kernel_rfl | decide +kernel)
    (case a0 => k_is); (case l0 => k_is); (case c0 => k_is); (case k0 => k_is)
    (case a1 => k_is); (case l1 => k_is); (case c1 => k_is); (case k1 => k_is)
    (case a2 => k_is); (case l2 => k_is); (case c2 => k_is); (case k2 => k_is)
    (case a3 => k_is); (case l3 => k_is); (case c3 => k_is); (case k3 => k_is)
    (case a4 => k_is); (case l4 => k_is); (case c4 => k_is); (case k4 => k_is)
    (case a5 => k_is); (case l5 => k_is); (case c5 => k_is); (case k5 => k_is)
    (case a6 => k_is); (case l6 => k_is); (case c6 => k_is); (case k6 => k_is)
    (case a7 => k_is); (case l7 => k_is); (case c7 => k_is); (case k7 => k_is)
    (case a8 => k_is); (case l8 => k_is); (case c8 => k_is); (case k8 => k_is)
    (case a9 => k_is); (case l9 => k_is); (case c9 => k_is); (case k9 => k_is)
    (case a10 => k_is); (case i10 => k_is); (case l10 => k_is); (case c10 => k_is); (case k10 => k_is)
    (case a11 => k_is); (case l11 => k_is); (case c11 => k_is); (case k11 => k_is)
    (case a12 => k_is); (case l12 => k_is); (case c12 => k_is); (case k12 => k_is)
    (case a13 => k_is); (case l13 => k_is); (case c13 => k_is); (case k13 => k_is)
    (case a14 => k_is); (case l14 => k_is); (case c14 => k_is); (case k14 => k_is)
    (case a15 => k_is); (case l15 => k_is); (case c15 => k_is); (case k15 => k_is)
    (case a16 => k_is); (case l16 => k_is); (case c16 => k_is); (case k16 => k_is)
    (case a17 => k_is); (case l17 => k_is); (case c17 => k_is); (case k17 => k_is)
    (case a18 => k_is); (case l18 => k_is); (case c18 => k_is); (case k18 => k_is)
    (case a19 => k_is); (case l19 => k_is); (case c19 => k_is); (case k19 => k_is)
    (case a20 => k_is); (case l20 => k_is); (case c20 => k_is); (case k20 => k_is)
    (case a21 => k_is); (case l21 => k_is); (case c21 => k_is); (case k21 => k_is)
    (case a22 => k_is); (case l22 => k_is); (case c22 => k_is); (case k22 => k_is)
    (case a23 => k_is); (case l23 => k_is); (case c23 => k_is); (case k23 => k_is)
    (case a24 => k_is); (case l24 => k_is); (case c24 => k_is); (case k24 => k_is)
    (case a25 => k_is); (case l25 => k_is); (case c25 => k_is); (case k25 => k_is)
    (case a26 => k_is); (case l26 => k_is); (case c26 => k_is); (case k26 => k_is)
    (case a27 => k_is); (case l27 => k_is); (case c27 => k_is); (case k27 => k_is)
    (case a28 => k_is); (case l28 => k_is); (case c28 => k_is); (case k28 => k_is)
    (case a29 => k_is); (case l29 => k_is); (case c29 => k_is); (case k29 => k_is)
    (case a30 => k_is); (case l30 => k_is); (case c30 => k_is); (case k30 => k_is)
    (case a31 => k_is); (case l31 => k_is); (case c31 => k_is); (case k31 => k_is)
    (case z_len => k_is); (case z_abs => k_is); (case z_int => k_is); (case z_max => k_is); (case z_min => k_is); (case z_all => k_is); (case z_any => k_is); (case z_sum => k_is); (case z_tuple => k_is); (case z_list => k_is); (case z_dict => k_is); (case z_sorted => k_is); (case z_isinstance => k_is); (case z_str => k_is); (case z_bool => k_is); (case z_range => k_is); (case z_enumerate => k_is); (case z_zip => k_is); (case z_reversed => k_is); (case z_repr => k_is); (case z_set => k_is)
    (case y_divmod => k_is)
