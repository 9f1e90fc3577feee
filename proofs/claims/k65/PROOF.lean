import PyProof.Rows.All
import Wide.All
import OpenK.AllK
import Wide.FinOn
import HandS.Lambda
import HandS.ForMost
import HandS.TupAny
import HandS.TupLe
import HandS.More
import HandS.IsInst
import HandS.Strs
import KE.SortData
import HandS.Style
import HandS.Deep
import HandS.Zip
import HandS.Rev
import HandS.NoneIn
import HandS.DictComp
import HandS.Defaults
import PyProof.ReprRoads
import KE.KRevSl
import HandS.Text
import HandS.Ends
import KE.GoesEnum
import KE.KDictZip
import KE.SortKeyHeap
import KE.KSortKey
import HandS.EndTab
import HandS.Small
import HandS.SetTxt0
import HandS.Set
import HandS.TupSets
import KE.KDictSum
import PyProof.AutoIntOps
import HandS.List
import HandS.Iter
import KE.KDictList
import KE.DataMinMax
import PyProof.Rows.CountFlat
import HandS.RaiseMore
import HandS.Call
import KE.KEqNest
import HandS.DictEq
import HandS.OwnEq
import HandS.Exc
import HandS.ExcOwn
import HandS.ExcIs
import KE.KExcIs
import HandS.ExcInit
import KE.KExcLine
import HandS.Zip0
import HandS.DictTup
import PyProof.InstNe
import OpenK.KOps
import PyProof.FactsAll.subtypes_4
import PyProof.WalksMore
import PySem.Challenge.RW_standby_k65_lots_by_themselves
set_option Elab.async false
set_option linter.all false
set_option maxRecDepth 100000
set_option maxRecDepth 100000
set_option maxHeartbeats 4000000
namespace DL
open PySem PySem.Spec PyProof.Rows L2
abbrev D := PyData
structure Mm where
  u : List Addr
  m : List (Option Addr)
def Mm.Has (M : Mm) (a : Addr) : Prop := a ∈ M.u ∨ some a ∈ M.m
def kP : Key → D
  | .inl i => .int i
  | .inr s => .str s
def prTx : List D → Option (List (Str × Str))
  | [] => some []
  | .tuple [.str a, .str b] :: ds => (prTx ds).map ((a, b) :: ·)
  | _ :: _ => none
def rowS : List D → Option (List Str)
  | [] => some []
  | .str a :: ds => (rowS ds).map (a :: ·)
  | _ :: _ => none
def pairD (ds : List D) : Bool := match prTx ds with
  | some ps => !ps.isEmpty && decide (ps.map (·.1)).Nodup
  | none => false
def rowD (ds : List D) : Bool := match rowS ds with
  | some l => !l.isEmpty && decide l.Nodup
  | none => false
def callD (ds : List D) : Bool := pairD ds
def TupAt (H : Hp) (a : Addr) (xs : List V) (ds : List D) : Prop := (callD ds = false ∧ H a = some (.tup xs)) ∨ (callD ds = true ∧ ∃ o : Obj, o.dict = none ∧ H a = some (.frz o (.tup xs)))
theorem TupAt.to {H H' : Hp} {a : Addr} {xs : List V} {ds : List D} (t : TupAt H a xs ds) (f : ∀ o, H a = some o → H' a = some o) : TupAt H' a xs ds := by
  rcases t with ⟨c, e⟩ | ⟨c, o, h, e⟩
  · exact .inl ⟨c, f _ e⟩
  · exact .inr ⟨c, o, h, f _ e⟩
theorem TupAt.some_ {H : Hp} {a : Addr} {xs : List V} {ds : List D} (t : TupAt H a xs ds) : ∃ o, H a = some o := by
  rcases t with ⟨c, e⟩ | ⟨c, o, h, e⟩
  · exact ⟨_, e⟩
  · exact ⟨_, e⟩
theorem TupAt.rd {H : Hp} {a : Addr} {xs : List V} {ds : List D} (t : TupAt H a xs ds) : Rd H a (.tup xs) := by
  rcases t with ⟨c, e⟩ | ⟨c, o, h, e⟩
  · exact .inl e
  · exact .inr ⟨o, e⟩
theorem TupAt.sq {K : PySem.W.Frag} {H : Hp} {a : Addr} {xs : List V} {ds : List D} (t : TupAt H a xs ds) : SqT K H a xs := .inl t.rd
theorem TupAt.plain {H : Hp} {a : Addr} {xs : List V} {ds : List D} (t : TupAt H a xs ds) (c : callD ds = false) : H a = some (.tup xs) := by
  rcases t with ⟨_, e⟩ | ⟨c', _⟩
  · exact e
  · rw [c] at c'; cases c'
theorem pairD_not {d : D} (ds : List D) (h : ∀ a b : Str, d ≠ .tuple [.str a, .str b]) : pairD (d :: ds) = false := by
  have e : prTx (d :: ds) = none := by
    unfold prTx
    split
    · rename_i q; cases q
    · rename_i a b ds' q; cases q; exact absurd rfl (h a b)
    · rfl
  unfold pairD
  rw [e]
theorem callD_not {d : D} (ds : List D) (h : ∀ a b : Str, d ≠ .tuple [.str a, .str b]) (h' : ∀ a : Str, d ≠ .str a) : callD (d :: ds) = false := by
  unfold callD
  exact pairD_not ds h
mutual
inductive RD (M : Mm) (H : Hp) : V → D → Prop
  | non : RD M H .non .none
  | bl (b : Bool) : RD M H (.bl b) (.bool b)
  | int (i : Int) : RD M H (.int i) (.int i)
  | str (x : Str) : RD M H (.str x) (.str x)
  | tup {a : Addr} {xs : List V} {ds : List D} : ¬ M.Has a → TupAt H a xs ds → RDs M H xs ds → RD M H (.ref a) (.tuple ds)
  | lst {a : Addr} {xs : List V} {ds : List D} : ¬ M.Has a → H a = some (.lst xs) → RDs M H xs ds → RD M H (.ref a) (.list ds)
  | dic {a : Addr} {kvs : List (Key × V)} {es : List (D × D)} : ¬ M.Has a → H a = some (.dK kvs) → RDk M H kvs es → RD M H (.ref a) (.dict es)
  | dit {a : Addr} {o : Obj} {kvs : List (List Key × V)} {es : List (D × D)} : ¬ M.Has a → H a = some (.frz o (.dT kvs)) → RDt M H kvs es → RD M H (.ref a) (.dict ((.none, .none) :: es))
inductive RDs (M : Mm) (H : Hp) : List V → List D → Prop
  | nil : RDs M H [] []
  | cons {v : V} {vs : List V} {d : D} {ds : List D} : RD M H v d → RDs M H vs ds → RDs M H (v :: vs) (d :: ds)
inductive RDk (M : Mm) (H : Hp) : List (Key × V) → List (D × D) → Prop
  | nil : RDk M H [] []
  | cons {k : Key} {v : V} {d : D} {kvs : List (Key × V)} {es : List (D × D)} : RD M H v d → RDk M H kvs es → RDk M H ((k, v) :: kvs) ((kP k, d) :: es)
inductive RDt (M : Mm) (H : Hp) : List (List Key × V) → List (D × D) → Prop
  | nil : RDt M H [] []
  | cons {k : List Key} {v : V} {d : D} {kvs : List (List Key × V)} {es : List (D × D)} : RD M H v d → RDt M H kvs es → RDt M H ((k, v) :: kvs) ((.tuple (k.map kP), d) :: es)
end

structure Ext (M M' : Mm) (H H' : Hp) : Prop where
  us : ∀ a ∈ M'.u, a ∈ M.u ∨ H a = none
  trk : ∀ a o, H a = some o → ∃ o', H' a = some o'
  stab : ∀ a o, H a = some o → some a ∉ M.m → H' a = some o
  fresh : ∀ a, some a ∈ M'.m → some a ∈ M.m ∨ H a = none
  len : M.m.length ≤ M'.m.length
  kill : ∀ i : Nat, i < M.m.length → M'.m[i]? = M.m[i]? ∨ M'.m[i]? = some none
structure ExtE (M M' : Mm) (H H' : Hp) : Prop where
  same : M'.u = M.u
  trk : ∀ a o, H a = some o → ∃ o', H' a = some o'
  stab : ∀ a o, H a = some o → some a ∉ M.m → H' a = some o
  fresh : ∀ a, some a ∈ M'.m → some a ∈ M.m ∨ H a = none
  len : M.m.length ≤ M'.m.length
  pre : ∀ i : Nat, i < M.m.length → M'.m[i]? = M.m[i]?
theorem ExtE.ext {M M' : Mm} {H H' : Hp} (x : ExtE M M' H H') : Ext M M' H H' := ⟨fun a m => .inl (x.same ▸ m), x.trk, x.stab, x.fresh, x.len, fun i h => .inl (x.pre i h)⟩
theorem Ext.outm {M M' : Mm} {H H' : Hp} (x : Ext M M' H H') {a : Addr} {o : HO} (n : some a ∉ M.m) (e : H a = some o) : some a ∉ M'.m := fun m =>
  (x.fresh a m).elim n fun z => by rw [e] at z; cases z
theorem Ext.out {M M' : Mm} {H H' : Hp} (x : Ext M M' H H') {a : Addr} {o : HO} (n : ¬ M.Has a) (e : H a = some o) : ¬ M'.Has a := fun m => by
  rcases m with m | m
  · exact (x.us a m).elim (fun z => n (.inl z)) fun z => by rw [e] at z; cases z
  · exact x.outm (fun z => n (.inr z)) e m
theorem Ext.st {M M' : Mm} {H H' : Hp} (x : Ext M M' H H') {a : Addr} {o : HO} (n : ¬ M.Has a) (e : H a = some o) : H' a = some o := x.stab a o e fun z => n (.inr z)
theorem Ext.refl (M : Mm) (H : Hp) : Ext M M H H := ⟨fun _ m => .inl m, fun a o e => ⟨o, e⟩, fun _ _ e _ => e, fun _ m => .inl m, Nat.le_refl _, fun _ _ => .inl rfl⟩
theorem ExtE.refl (M : Mm) (H : Hp) : ExtE M M H H := ⟨rfl, fun a o e => ⟨o, e⟩, fun _ _ e _ => e, fun _ m => .inl m, Nat.le_refl _, fun _ _ => rfl⟩
theorem Ext.trans {M M1 M2 : Mm} {H H1 H2 : Hp} (x : Ext M M1 H H1) (y : Ext M1 M2 H1 H2) : Ext M M2 H H2 where
  us := fun a m => by
    rcases y.us a m with z | z
    · exact x.us a z
    · right
      cases q : H a with
      | none => rfl
      | some o => obtain ⟨o', e⟩ := x.trk a o q; rw [z] at e; cases e
  trk := fun a o e => by obtain ⟨o', e'⟩ := x.trk a o e; exact y.trk a o' e'
  stab := fun a o e n => y.stab a o (x.stab a o e n) (x.outm n e)
  fresh := fun a m => by
    rcases y.fresh a m with m1 | z
    · exact x.fresh a m1
    · by_cases hm : some a ∈ M.m
      · exact .inl hm
      · right
        cases q : H a with
        | none => rfl
        | some o => rw [x.stab a o q hm] at z; cases z
  len := Nat.le_trans x.len y.len
  kill := fun i h => by
    rcases y.kill i (Nat.lt_of_lt_of_le h x.len) with e | e
    · rw [e]; exact x.kill i h
    · exact .inr e
theorem ExtE.trans {M M1 M2 : Mm} {H H1 H2 : Hp} (x : ExtE M M1 H H1) (y : ExtE M1 M2 H1 H2) : ExtE M M2 H H2 where
  same := y.same.trans x.same
  trk := (x.ext.trans y.ext).trk
  stab := (x.ext.trans y.ext).stab
  fresh := (x.ext.trans y.ext).fresh
  len := Nat.le_trans x.len y.len
  pre := fun i h => by rw [y.pre i (Nat.lt_of_lt_of_le h x.len), x.pre i h]
mutual
theorem RD.mono {M M' : Mm} {H H' : Hp} (x : Ext M M' H H') : ∀ {v : V} {d : D}, RD M H v d → RD M' H' v d
  | _, _, .non => .non
  | _, _, .bl b => .bl b
  | _, _, .int i => .int i
  | _, _, .str s => .str s
  | _, _, .tup n e r => .tup (let ⟨_, q⟩ := e.some_; x.out n q) (e.to fun _ q => x.st n q) (RDs.mono x r)
  | _, _, .lst n e r => .lst (x.out n e) (x.st n e) (RDs.mono x r)
  | _, _, .dic n e r => .dic (x.out n e) (x.st n e) (RDk.mono x r)
  | _, _, .dit n e r => .dit (x.out n e) (x.st n e) (RDt.mono x r)
theorem RDs.mono {M M' : Mm} {H H' : Hp} (x : Ext M M' H H') : ∀ {v : List V} {d : List D}, RDs M H v d → RDs M' H' v d
  | _, _, .nil => .nil
  | _, _, .cons a r => .cons (RD.mono x a) (RDs.mono x r)
theorem RDk.mono {M M' : Mm} {H H' : Hp} (x : Ext M M' H H') : ∀ {v : List (Key × V)} {d : List (D × D)}, RDk M H v d → RDk M' H' v d
  | _, _, .nil => .nil
  | _, _, .cons a r => .cons (RD.mono x a) (RDk.mono x r)
theorem RDt.mono {M M' : Mm} {H H' : Hp} (x : Ext M M' H H') : ∀ {v : List (List Key × V)} {d : List (D × D)}, RDt M H v d → RDt M' H' v d
  | _, _, .nil => .nil
  | _, _, .cons a r => .cons (RD.mono x a) (RDt.mono x r)
end

inductive MO where
  | lst (ds : List D) | dic (es : List (D × D)) | dit (es : List (D × D)) | tab (q : Str) (P : Addr) | ins (C : Addr) (fs : List (Str × D))
abbrev Hh := List (Option MO)
def RF (M : Mm) (H : Hp) (gs : List (Str × V)) (fs : List (Str × D)) : Prop := Paired (fun (p : Str × V) (q : Str × D) => p.1 = q.1 ∧ RD M H p.2 q.2) gs fs
theorem RF.to {M M' : Mm} {H H' : Hp} {gs : List (Str × V)} {fs : List (Str × D)} (r : RF M H gs fs) (h : ∀ v d, RD M H v d → RD M' H' v d) : RF M' H' gs fs := Paired.mapP r fun p q z => ⟨z.1, h _ _ z.2⟩
def RO (M : Mm) (H : Hp) (a : Addr) : MO → Prop
  | .lst ds => ∃ xs, H a = some (.lst xs) ∧ RDs M H xs ds
  | .dic es => ∃ kvs, H a = some (.dK kvs) ∧ RDk M H kvs es
  | .dit es => ∃ kvs, H a = some (.dT kvs) ∧ RDt M H kvs es
  | .ins C fs => ∃ dx gs, H a = some (.ins C dx gs) ∧ RF M H gs fs
  | .tab q P => a = P ∧ ∃ ps : Array Value, H a = some (.tbl ps) ∧ TriplesOk ps.toList ∧ ∀ pos cv, codeAmong pos ps.toList = some cv → ∃ c, cv = .ref c ∧ ¬ M.Has c ∧ H c = some (LamX.CodeO c q)
def tpO : HO → Bool
  | .tup _ => true
  | .frz _ (.tup _) => true
  | _ => false
structure Rep (M : Mm) (H : Hp) (h : Hh) : Prop where
  us : ∀ a ∈ M.u, some a ∉ M.m ∧ ∃ o, H a = some o ∧ tpO o = false
  len : M.m.length = h.length
  inj : ∀ (i j : Nat) (a : Addr), M.m[i]? = some (some a) → M.m[j]? = some (some a) → i = j
  at_ : ∀ (i : Nat) (a : Addr), M.m[i]? = some (some a) → ∃ o, h[i]? = some (some o) ∧ RO M H a o
  dead : ∀ i : Nat, M.m[i]? = some none → h[i]? = some none
theorem RO.move {M M' : Mm} {H H' : Hp} (x : Ext M M' H H') {a : Addr} {o : MO} (e : H' a = H a) (r : RO M H a o) : RO M' H' a o := by
  cases o with
  | lst ds => obtain ⟨xs, h, r⟩ := r; exact ⟨xs, e.trans h, r.mono x⟩
  | dic ds => obtain ⟨xs, h, r⟩ := r; exact ⟨xs, e.trans h, r.mono x⟩
  | dit ds => obtain ⟨xs, h, r⟩ := r; exact ⟨xs, e.trans h, r.mono x⟩
  | ins C fs => obtain ⟨dx, gs, h, r⟩ := r; exact ⟨dx, gs, e.trans h, r.to fun _ _ => RD.mono x⟩
  | tab q P =>
    obtain ⟨z, ps, h, t, r⟩ := r
    refine ⟨z, ps, e.trans h, t, fun pos cv hc => ?_⟩
    obtain ⟨c, e1, n, e2⟩ := r pos cv hc
    exact ⟨c, e1, x.out n e2, x.st n e2⟩
theorem RO.some_ {M : Mm} {H : Hp} {a : Addr} {o : MO} (r : RO M H a o) : ∃ u, H a = some u := by
  cases o with
  | lst ds => obtain ⟨xs, h, r⟩ := r; exact ⟨_, h⟩
  | dic ds => obtain ⟨xs, h, r⟩ := r; exact ⟨_, h⟩
  | dit ds => obtain ⟨xs, h, r⟩ := r; exact ⟨_, h⟩
  | ins C fs => obtain ⟨dx, gs, h, r⟩ := r; exact ⟨_, h⟩
  | tab q P => obtain ⟨_, ps, h, _⟩ := r; exact ⟨_, h⟩
theorem RO.kind {M : Mm} {H : Hp} {a : Addr} {o : MO} (r : RO M H a o) : ∃ u, H a = some u ∧ tpO u = false := by
  cases o with
  | lst ds => obtain ⟨xs, h, r⟩ := r; exact ⟨_, h, rfl⟩
  | dic ds => obtain ⟨xs, h, r⟩ := r; exact ⟨_, h, rfl⟩
  | dit ds => obtain ⟨xs, h, r⟩ := r; exact ⟨_, h, rfl⟩
  | ins C fs => obtain ⟨dx, gs, h, r⟩ := r; exact ⟨_, h, rfl⟩
  | tab q P => obtain ⟨_, ps, h, _⟩ := r; exact ⟨_, h, rfl⟩
theorem Rep.tracked {M : Mm} {H : Hp} {h : Hh} (r : Rep M H h) {a : Addr} (m : M.Has a) : ∃ u, H a = some u ∧ tpO u = false := by
  rcases m with m | m
  · exact (r.us a m).2
  · obtain ⟨i, hi, e⟩ := List.getElem_of_mem m
    obtain ⟨o, _, ro⟩ := r.at_ i a (by rw [List.getElem?_eq_getElem hi, e])
    exact ro.kind
theorem Rep.new {M : Mm} {H : Hp} {h : Hh} (r : Rep M H h) {p : Addr} (n : H p = none) : ¬ M.Has p := fun m => by
  obtain ⟨u, e, _⟩ := r.tracked m
  rw [n] at e; cases e
theorem trk_upd {H : Hp} {p : Addr} {o : HO} : ∀ a u, H a = some u → ∃ u', upd H p o a = some u' := fun a u e => by
  by_cases h : a = p
  · subst h; exact ⟨o, upd_same⟩
  · exact ⟨u, by rw [upd_ne h]; exact e⟩
theorem ext_new {M : Mm} {H : Hp} {p : Addr} {o : HO} (n : H p = none) : ExtE M M H (upd H p o) :=
  ⟨rfl, trk_upd, fun a u e _ => by rw [upd_ne (ne_of_none e n)]; exact e, fun _ m => .inl m, Nat.le_refl _, fun _ _ => rfl⟩
theorem Rep.upd_new {M : Mm} {H : Hp} {h : Hh} (r : Rep M H h) {p : Addr} {o : HO} (n : H p = none) : Rep M (upd H p o) h :=
  ⟨fun a m => by
    obtain ⟨h1, u, e, ht⟩ := r.us a m
    exact ⟨h1, u, by rw [upd_ne (ne_of_none e n)]; exact e, ht⟩, r.len, r.inj, fun i a e => by
    obtain ⟨u, hu, ro⟩ := r.at_ i a e
    obtain ⟨z, hz⟩ := ro.some_
    exact ⟨u, hu, ro.move (ext_new n).ext (upd_ne (ne_of_none hz n))⟩, r.dead⟩
def Mm.more (M : Mm) (p : Addr) : Mm := ⟨M.u, M.m ++ [some p]⟩
theorem ext_add {M : Mm} {H : Hp} {p : Addr} {o : HO} (n : H p = none) : ExtE M (M.more p) H (upd H p o) :=
  ⟨rfl, trk_upd, fun a u e _ => by rw [upd_ne (ne_of_none e n)]; exact e, fun a m => by
    rcases List.mem_append.mp m with m | m
    · exact .inl m
    · right
      have : a = p := by simpa using m
      rw [this]; exact n, by simp [Mm.more], fun i hi => List.getElem?_append_left hi⟩
theorem Rep.add {M : Mm} {H : Hp} {h : Hh} (r : Rep M H h) {p : Addr} {o : HO} {m : MO} (n : H p = none) (ro : RO (M.more p) (upd H p o) p m) : Rep (M.more p) (upd H p o) (h ++ [some m]) := by
  have nm := r.new n
  have cases_ : ∀ (i : Nat) (z : Option Addr), (M.m ++ [some p])[i]? = some z → (i < M.m.length ∧ M.m[i]? = some z) ∨ (i = M.m.length ∧ z = some p) := fun i z e => by
    by_cases hi : i < M.m.length
    · rw [List.getElem?_append_left hi] at e
      exact .inl ⟨hi, e⟩
    · rw [List.getElem?_append_right (by omega)] at e
      by_cases h0 : i - M.m.length = 0
      · rw [h0] at e
        exact .inr ⟨by omega, by simpa using e.symm⟩
      · rw [List.getElem?_eq_none (by simp; omega)] at e
        cases e
  refine ⟨fun a m => ?_, by simp [Mm.more, r.len], fun i j a e1 e2 => ?_, fun i a e => ?_, fun i e => ?_⟩
  · obtain ⟨h1, u, e, ht⟩ := r.us a m
    refine ⟨fun z => ?_, u, by rw [upd_ne (ne_of_none e n)]; exact e, ht⟩
    rcases List.mem_append.mp z with z | z
    · exact h1 z
    · have : a = p := by simpa using z
      rw [this, n] at e; cases e
  · rcases cases_ i _ e1 with ⟨h1, e1⟩ | ⟨h1, e1⟩ <;> rcases cases_ j _ e2 with ⟨h2, e2⟩ | ⟨h2, e2⟩
    · exact r.inj i j a e1 e2
    · cases e2; exact absurd (Or.inr (List.mem_of_getElem? e1)) nm
    · cases e1; exact absurd (Or.inr (List.mem_of_getElem? e2)) nm
    · omega
  · rcases cases_ i _ e with ⟨h1, e1⟩ | ⟨h1, e1⟩
    · obtain ⟨u, hu, q⟩ := r.at_ i a e1
      obtain ⟨z, hz⟩ := q.some_
      exact ⟨u, by rw [List.getElem?_append_left (by rw [← r.len]; exact h1)]; exact hu, q.move (ext_add n).ext (upd_ne (ne_of_none hz n))⟩
    · cases e1
      subst h1
      exact ⟨m, by rw [r.len]; simp, ro⟩
  · rcases cases_ i _ e with ⟨h1, e1⟩ | ⟨h1, e1⟩
    · rw [List.getElem?_append_left (by rw [← r.len]; exact h1)]
      exact r.dead i e1
    · cases e1
theorem ext_set {M : Mm} {H : Hp} {n : Nat} {a : Addr} {o : HO} (e : M.m[n]? = some (some a)) : ExtE M M H (upd H a o) :=
  ⟨rfl, trk_upd, fun b u q nb => by rw [upd_ne (fun z => nb (by rw [z]; exact List.mem_of_getElem? e))]; exact q, fun _ m => .inl m, Nat.le_refl _, fun _ _ => rfl⟩
theorem Rep.set {M : Mm} {H : Hp} {h : Hh} (r : Rep M H h) {n : Nat} {a : Addr} {o : HO} {m : MO} (e : M.m[n]? = some (some a)) (ro : RO M (upd H a o) a m) : Rep M (upd H a o) (h.set n (some m)) := by
  have hn : n < h.length := by
    obtain ⟨u, hu, _⟩ := r.at_ n a e
    exact (List.getElem?_eq_some_iff.mp hu).1
  refine ⟨fun b mb => ?_, by simpa using r.len, r.inj, fun i b q => ?_, fun i q => ?_⟩
  · obtain ⟨h1, u, q, ht⟩ := r.us b mb
    exact ⟨h1, u, by rw [upd_ne (fun z => h1 (by rw [z]; exact List.mem_of_getElem? e))]; exact q, ht⟩
  · by_cases hi : i = n
    · subst hi
      rw [e] at q; cases q
      exact ⟨m, by rw [List.getElem?_set_self hn], ro⟩
    · obtain ⟨u, hu, q2⟩ := r.at_ i b q
      have hb : b ≠ a := fun z => hi (r.inj i n a (by rw [← z]; exact q) e)
      exact ⟨u, by rw [List.getElem?_set_ne (Ne.symm hi)]; exact hu, q2.move (ext_set e).ext (upd_ne hb)⟩
  · have hi : n ≠ i := fun z => by subst z; rw [e] at q; cases q
    rw [List.getElem?_set_ne hi]
    exact r.dead i q
def XO (C : Addr) (d : Option Addr) (a : Addr) : HO := .ext fun h => ∃ (oe : Obj) (vs : Array Value), h.get? a = some oe ∧ oe.cls = .ref C ∧ oe.dict = d ∧ oe.data = .fields vs
def xk : HO → Bool
  | .ext _ => true
  | .xd _ => true
  | _ => false
def XD (M : Mm) (H : Hp) : Option Addr → List (Str × V) → Prop
  | none, gs => gs = []
  | some d, gs => ¬ M.Has d ∧ H d = some (.xd gs)
theorem XD.to {M M' : Mm} {H H' : Hp} (hn : ∀ b o, H b = some o → ¬ M.Has b → ¬ M'.Has b) (he : ∀ b o, H b = some o → xk o = true → ¬ M.Has b → H' b = some o) : ∀ {d : Option Addr} {gs : List (Str × V)}, XD M H d gs → XD M' H' d gs
  | none, _, e => e
  | some _, _, e => ⟨hn _ _ e.2 e.1, he _ _ e.2 rfl e.1⟩
def RX (M : Mm) (H : Hp) (a C : Addr) (d : Option Addr) (gs : List (Str × V)) (fs : List (Str × D)) : Prop := ¬ M.Has a ∧ H a = some (XO C d a) ∧ XD M H d gs ∧ RF M H gs fs
theorem RX.to {M M' : Mm} {H H' : Hp} {a C : Addr} {d : Option Addr} {gs : List (Str × V)} {fs : List (Str × D)} (r : RX M H a C d gs fs) (hn : ∀ b o, H b = some o → ¬ M.Has b → ¬ M'.Has b) (he : ∀ b o, H b = some o → xk o = true → ¬ M.Has b → H' b = some o) (hd : ∀ v d, RD M H v d → RD M' H' v d) : RX M' H' a C d gs fs :=
  ⟨hn _ _ r.2.1 r.1, he _ _ r.2.1 rfl r.1, r.2.2.1.to hn he, r.2.2.2.to hd⟩
inductive W where
  | dat (d : D) | ref (n : Nat) | scr (ns : List Int) | pack (its : List (Sum Nat D)) | lock (es : List (D × D)) | ins (C : Addr) (fs : List (Str × D)) | exc (k : Nat) (C : Addr) (fs : List (Str × D))
inductive RPs (M : Mm) (H : Hp) : List V → List (Sum Nat D) → Prop
  | nil : RPs M H [] []
  | ref {n : Nat} {a : Addr} {vs : List V} {ds : List (Sum Nat D)} : M.m[n]? = some (some a) → RPs M H vs ds → RPs M H (.ref a :: vs) (.inl n :: ds)
  | dat {v : V} {d : D} {vs : List V} {ds : List (Sum Nat D)} : RD M H v d → RPs M H vs ds → RPs M H (v :: vs) (.inr d :: ds)
theorem RPs.move {M M' : Mm} {H H' : Hp} (hm : ∀ (n : Nat) (a : Addr), M.m[n]? = some (some a) → M'.m[n]? = some (some a)) (hd : ∀ v d, RD M H v d → RD M' H' v d) : ∀ {vs : List V} {ds : List (Sum Nat D)}, RPs M H vs ds → RPs M' H' vs ds
  | _, _, .nil => .nil
  | _, _, .ref e r => .ref (hm _ _ e) (r.move hm hd)
  | _, _, .dat e r => .dat (hd _ _ e) (r.move hm hd)
abbrev Env := List (Option W)
def RV (M : Mm) (H : Hp) (v : V) : W → Prop
  | .dat d => RD M H v d
  | .ref n => ∃ a, M.m[n]? = some (some a) ∧ v = .ref a
  | .scr ns => ∃ a o, v = .ref a ∧ ¬ M.Has a ∧ H a = some (.frz o (.lst (ns.map V.int)))
  | .pack its => ∃ a xs, v = .ref a ∧ ¬ M.Has a ∧ H a = some (.lst xs) ∧ RPs M H xs its
  | .lock es => ∃ a o kvs, v = .ref a ∧ ¬ M.Has a ∧ H a = some (.frz o (.dK kvs)) ∧ RDk M H kvs es
  | .ins C fs => ∃ a dx gs, v = .ref a ∧ ¬ M.Has a ∧ H a = some (.ins C dx gs) ∧ RF M H gs fs
  | .exc _ C fs => ∃ a d gs, v = .ref a ∧ RX M H a C d gs fs
theorem lt_of_get {α : Type} {l : List α} {i : Nat} {x : α} (e : l[i]? = some x) : i < l.length := (List.getElem?_eq_some_iff.mp e).1
theorem RV.mono {M M' : Mm} {H H' : Hp} (x : ExtE M M' H H') {v : V} : ∀ {w : W}, RV M H v w → RV M' H' v w
  | .dat _, r => RD.mono x.ext r
  | .ref n, ⟨a, e, r⟩ => ⟨a, by rw [x.pre n (lt_of_get e)]; exact e, r⟩
  | .scr ns, ⟨a, o, e, n, q⟩ => ⟨a, o, e, x.ext.out n q, x.ext.st n q⟩
  | .pack its, ⟨a, xs, e, n, q, r⟩ => ⟨a, xs, e, x.ext.out n q, x.ext.st n q, r.move (fun i b z => by rw [x.pre i (lt_of_get z)]; exact z) fun _ _ => RD.mono x.ext⟩
  | .lock es, ⟨a, o, kvs, e, n, q, r⟩ => ⟨a, o, kvs, e, x.ext.out n q, x.ext.st n q, r.mono x.ext⟩
  | .ins C fs, ⟨a, dx, gs, e, n, q, r⟩ => ⟨a, dx, gs, e, x.ext.out n q, x.ext.st n q, r.to fun _ _ => RD.mono x.ext⟩
  | .exc _ C fs, ⟨a, d, gs, e, r⟩ => ⟨a, d, gs, e, r.to (fun _ _ q n => x.ext.out n q) (fun _ _ q _ n => x.ext.st n q) fun _ _ => RD.mono x.ext⟩
inductive RVs (M : Mm) (H : Hp) : List V → List W → Prop
  | nil : RVs M H [] []
  | cons {v : V} {vs : List V} {d : W} {ds : List W} : RV M H v d → RVs M H vs ds → RVs M H (v :: vs) (d :: ds)
theorem RVs.mono {M M' : Mm} {H H' : Hp} (x : ExtE M M' H H') : ∀ {vs : List V} {ws : List W}, RVs M H vs ws → RVs M' H' vs ws
  | _, _, .nil => .nil
  | _, _, .cons a r => .cons (a.mono x) (r.mono x)
theorem RVs.length {M : Mm} {H : Hp} : ∀ {vs : List V} {ws : List W}, RVs M H vs ws → vs.length = ws.length
  | _, _, .nil => rfl
  | _, _, .cons _ r => by rw [List.length_cons, List.length_cons, r.length]
theorem RDs.length {M : Mm} {H : Hp} : ∀ {vs : List V} {ws : List D}, RDs M H vs ws → vs.length = ws.length
  | _, _, .nil => rfl
  | _, _, .cons _ r => by rw [List.length_cons, List.length_cons, r.length]
def RS (M : Mm) (H : Hp) (ρ : Env) (σ : L2.St) : Prop := ρ.length = σ.length ∧ ∀ (i : Nat) (w : W), ρ[i]? = some (some w) → ∃ v, σ[i]? = some (some v) ∧ RV M H v w
theorem RS.mono {M M' : Mm} {H H' : Hp} (x : ExtE M M' H H') {ρ : Env} {σ : L2.St} (r : RS M H ρ σ) : RS M' H' ρ σ := ⟨r.1, fun i w e => by
  obtain ⟨v, e1, q⟩ := r.2 i w e
  exact ⟨v, e1, q.mono x⟩⟩
theorem RS.set {M : Mm} {H : Hp} {ρ : Env} {σ : L2.St} (r : RS M H ρ σ) {i : Nat} {v : V} {w : W} (q : RV M H v w) : RS M H (ρ.set i (some w)) (σ.set i (some v)) := by
  refine ⟨by simp [r.1], fun j u e => ?_⟩
  by_cases hj : i = j
  · subst hj
    by_cases hi : i < ρ.length
    · rw [List.getElem?_set_self hi] at e
      cases e
      exact ⟨v, by rw [List.getElem?_set_self (by rw [← r.1]; exact hi)], q⟩
    · rw [List.getElem?_eq_none (by simpa using hi)] at e; cases e
  · rw [List.getElem?_set_ne hj] at e ⊢
    exact r.2 j u e
def obnd {α β : Type} (r : Option (α × Hh)) (k : α → Hh → Option (β × Hh)) : Option (β × Hh) := match r with
  | some (a, h) => k a h
  | none => none
@[simp] theorem obnd_some {α β : Type} (a : α) (h : Hh) (k : α → Hh → Option (β × Hh)) : obnd (some (a, h)) k = k a h := rfl
@[simp] theorem obnd_none {α β : Type} (k : α → Hh → Option (β × Hh)) : obnd none k = none := rfl
def Cont {α β : Type} (rel : Mm → Hp → β → α → Prop) (r : Option (α × Hh)) (M : Mm) (H : Hp) (Q : β → Hp → Prop) : Prop :=
  ∃ w h', r = some (w, h') ∧ ∀ M' H' v, ExtE M M' H H' → Rep M' H' h' → rel M' H' v w → Q v H'
theorem Cont.bind {α β γ δ : Type} {rel : Mm → Hp → β → α → Prop} {r : Option (γ × Hh)} {k : γ → Hh → Option (α × Hh)} {M : Mm} {H : Hp} {Q : β → Hp → Prop} (c : Cont rel (obnd r k) M H Q) :
    ∃ a h1, r = some (a, h1) ∧ ∀ M1 H1, ExtE M M1 H H1 → Cont rel (k a h1) M1 H1 Q := by
  obtain ⟨w, h', e, q⟩ := c
  cases r with
  | none => cases e
  | some p =>
    obtain ⟨a, h1⟩ := p
    exact ⟨a, h1, rfl, fun M1 H1 x => ⟨w, h', e, fun M' H' v y => q M' H' v (x.trans y)⟩⟩
theorem Cont.fin {α β : Type} {rel : Mm → Hp → β → α → Prop} {w : α} {h : Hh} {M : Mm} {H : Hp} {Q : β → Hp → Prop} (c : Cont rel (some (w, h)) M H Q) {M' : Mm} {H' : Hp} {v : β} (x : ExtE M M' H H') (r : Rep M' H' h) (q : rel M' H' v w) : Q v H' := by
  obtain ⟨w', h', e, k⟩ := c
  cases e
  exact k M' H' v x r q
def tX {α β : Type} (rel : Mm → Hp → β → α → Prop) (f : Env → Hh → Option (α × Hh)) : L2.St → Hp → (β → Hp → Prop) → Prop := fun σ H Q => ∃ M h ρ, Rep M H h ∧ RS M H ρ σ ∧ Cont rel (f ρ h) M H Q
abbrev EM := Env → Hh → Option (W × Hh)
abbrev tE : EM → TE := tX RV
abbrev BM := Env → Hh → Option (Bool × Hh)
abbrev tT : BM → TT := tX fun _ _ (b : Bool) (c : Bool) => b = c
abbrev AM := Env → Hh → Option (List W × Hh)
abbrev tA : AM → TA := tX RVs
abbrev OM := Env → Hh → Option (Option Int × Hh)
abbrev tO : OM → TO := tX fun _ _ (b : Option Int) (c : Option Int) => b = c
abbrev DE (X : Cx) (e : Expr) (f : EM) : Prop := PE X e (tE f)
abbrev DT (X : Cx) (e : Expr) (f : BM) : Prop := PT X e (tT f)
abbrev DA (X : Cx) (es : List Expr) (f : AM) : Prop := PA X es (tA f)
abbrev DK (X : Cx) (es : List Keyword) (f : AM) : Prop := PK X es (tA f)
theorem _root_.L2.PE.weak {X : Cx} {e : Expr} {t t' : TE} (h : PE X e t) (i : ∀ σ H Q, t' σ H Q → t σ H Q) : PE X e t' := ⟨fun pins s σ H Q I q => h.run pins s σ H Q I (i σ H Q q)⟩
theorem _root_.L2.PT.weak {X : Cx} {e : Expr} {t t' : TT} (h : PT X e t) (i : ∀ σ H Q, t' σ H Q → t σ H Q) : PT X e t' := ⟨fun pins s σ H Q I q => h.run pins s σ H Q I (i σ H Q q)⟩
theorem _root_.L2.PA.weak {X : Cx} {e : List Expr} {t t' : TA} (h : PA X e t) (i : ∀ σ H Q, t' σ H Q → t σ H Q) : PA X e t' := ⟨fun pos pins s σ H Q I q => h.run pos pins s σ H Q I (i σ H Q q)⟩
theorem _root_.L2.PK.weak {X : Cx} {e : List Keyword} {t t' : TA} (h : PK X e t) (i : ∀ σ H Q, t' σ H Q → t σ H Q) : PK X e t' := ⟨fun pos pins s σ H Q I q => h.run pos pins s σ H Q I (i σ H Q q)⟩
theorem _root_.L2.PS.weak {X : Cx} {e : Stmt} {t t' : TS} (h : PS X e t) (i : ∀ D σ H, t' D σ H → t D σ H) : PS X e t' := ⟨fun pins s σ H Q I q => h.run pins s σ H Q I (i Q σ H q)⟩
theorem _root_.L2.PSs.weak {X : Cx} {e : List Stmt} {t t' : TS} (h : PSs X e t) (i : ∀ D σ H, t' D σ H → t D σ H) : PSs X e t' := ⟨fun pins s σ H Q I q => h.run pins s σ H Q I (i Q σ H q)⟩
theorem _root_.L2.PG.weak {X : Cx} {e : Expr} {t t' : TG} (h : PG X e t) (i : ∀ v σ H Q, t' v σ H Q → t v σ H Q) : PG X e t' := ⟨fun pins s σ H v u Q I r q => h.run pins s σ H v u Q I r (i v σ H Q q)⟩
theorem _root_.L2.PI.weak {X : Cx} {tg e : Expr} {t t' : TI} (h : PI X tg e t) (i : ∀ σ H Q, t' σ H Q → t σ H Q) : PI X tg e t' := ⟨fun pins s σ H R I q => h.run pins s σ H R I (i σ H R q)⟩
section
variable {X : Cx}
def fVar (i : Nat) : EM := fun ρ h => match ρ[i]? with
  | some (some w) => some (w, h)
  | _ => none
theorem dv (i : Nat) {x : Str} {pos : Pos} (h : PE X (.Name x pos) (tVar i)) : DE X (.Name x pos) (fVar i) := h.weak fun σ H Q => by
  rintro ⟨M, h, ρ, r, rs, c⟩
  unfold fVar at c
  split at c
  · rename_i w e
    obtain ⟨v, e1, rv⟩ := rs.2 i w e
    exact ⟨v, e1, c.fin (.refl _ _) r rv⟩
  · obtain ⟨_, _, e, _⟩ := c; cases e
def fC (d : D) : EM := fun _ h => some (.dat d, h)
theorem d_const {e : Expr} {v : V} {d : D} (h : PE X e (tC v)) (q : ∀ M H, RD M H v d) : DE X e (fC d) := h.weak fun σ H Q => by
  rintro ⟨M, h, ρ, r, rs, c⟩
  exact c.fin (.refl _ _) r (q M H)
theorem d_int {i j pos} : DE X (.Constant (.int i) j pos) (fC (.int i)) := d_const pe_int fun _ _ => .int i
theorem d_bl {i j pos} : DE X (.Constant (.bool i) j pos) (fC (.bool i)) := d_const pe_bl fun _ _ => .bl i
theorem d_non {j pos} : DE X (.Constant .none j pos) (fC .none) := d_const pe_non fun _ _ => .non
theorem d_str {i j pos} : DE X (.Constant (.str i) j pos) (fC (.str i)) := d_const pe_str fun _ _ => .str i
def fNil : AM := fun _ h => some ([], h)
def fCons (f : EM) (g : AM) : AM := fun ρ h => obnd (f ρ h) fun w h1 => obnd (g ρ h1) fun ws h2 => some (w :: ws, h2)
theorem da_nil : DA X [] fNil := pa_nil.weak fun σ H Q => by
  rintro ⟨M, h, ρ, r, rs, c⟩
  exact c.fin (.refl _ _) r .nil
theorem cons_imp {f : EM} {g : AM} : ∀ σ H Q, tA (fCons f g) σ H Q → tCons (tE f) (tA g) σ H Q := fun σ H Q => by
  rintro ⟨M, h, ρ, r, rs, c⟩
  obtain ⟨w, h1, e1, c1⟩ := Cont.bind (δ := Unit) c
  refine ⟨M, h, ρ, r, rs, w, h1, e1, fun M1 H1 v x1 r1 v1 => ⟨M1, h1, ρ, r1, rs.mono x1, ?_⟩⟩
  obtain ⟨ws, h2, e2, c2⟩ := Cont.bind (δ := Unit) (c1 M1 H1 x1)
  exact ⟨ws, h2, e2, fun M2 H2 vs x2 r2 v2 => (c2 M2 H2 x2).fin (.refl _ _) r2 (.cons (v1.mono x2) v2)⟩
theorem da_cons {e : Expr} {es : List Expr} {f : EM} {g : AM} (he : DE X e f) (hr : DA X es g) (hs : starEach (e :: es) X.env = (false, eval e X.env) :: starEach es X.env := by rfl) : DA X (e :: es) (fCons f g) :=
  (pa_cons he hr hs).weak cons_imp
theorem dk_nil : DK X [] fNil := pk_nil.weak fun σ H Q => by
  rintro ⟨M, h, ρ, r, rs, c⟩
  exact c.fin (.refl _ _) r .nil
theorem dk_cons {nm : Option Str} {kpos : Pos} {e : Expr} {es : List Keyword} {f : EM} {g : AM} (he : DE X e f) (hr : DK X es g) : DK X (⟨nm, e, kpos⟩ :: es) (fCons f g) :=
  (pk_cons he hr).weak cons_imp
def Sem2 (r : R2) (sem : W → W → Hh → Option (W × Hh)) : Prop := ∀ (M : Mm) (H : Hp) (h : Hh) (x y : V) (wx wy : W) (Q : VK), Rep M H h → RV M H x wx → RV M H y wy → Cont RV (sem wx wy h) M H Q → r x y H Q
def f2 (sem : W → W → Hh → Option (W × Hh)) (f g : EM) : EM := fun ρ h => obnd (f ρ h) fun a h1 => obnd (g ρ h1) fun b h2 => sem a b h2
theorem op_imp {r : R2} {sem : W → W → Hh → Option (W × Hh)} {f g : EM} (hs : Sem2 r sem) : ∀ σ H Q, tE (f2 sem f g) σ H Q → tOp r (tE f) (tE g) σ H Q := fun σ H Q => by
  rintro ⟨M, h, ρ, r, rs, c⟩
  obtain ⟨w, h1, e1, c1⟩ := Cont.bind (δ := Unit) c
  refine ⟨M, h, ρ, r, rs, w, h1, e1, fun M1 H1 v x1 r1 v1 => ⟨M1, h1, ρ, r1, rs.mono x1, ?_⟩⟩
  obtain ⟨w2, h2, e2, c2⟩ := Cont.bind (δ := Unit) (c1 M1 H1 x1)
  exact ⟨w2, h2, e2, fun M2 H2 v2 x2 r2 q2 => hs M2 H2 h2 _ _ w w2 Q r2 (v1.mono x2) q2 (c2 M2 H2 x2)⟩
theorem d_op {a b : Expr} {op : Operator} {pos : Pos} {r : R2} {sem : W → W → Hh → Option (W × Hh)} {f g : EM} (ho : OpR X (binaryOp op) r) (hs : Sem2 r sem) (ha : DE X a f) (hb : DE X b g) : DE X (.BinOp a op b pos) (f2 sem f g) :=
  (pe_op ho ha hb).weak (op_imp hs)
theorem d_cmp {a b : Expr} {op : CmpOp} {pos : Pos} {r : R2} {sem : W → W → Hh → Option (W × Hh)} {f g : EM} (ho : OpR X (compareOp op) r) (hs : Sem2 r sem) (ha : DE X a f) (hb : DE X b g) (hm : behindInMarks op b = false) : DE X (.Compare a [op] [b] pos) (f2 sem f g) :=
  (pe_cmpR ho ha hb hm).weak (op_imp hs)
end
end DL
set_option maxRecDepth 100000
set_option maxHeartbeats 4000000
namespace DL
open PySem PySem.Spec PyProof.Rows L2
def deref (h : Hh) : W → Option D
  | .dat d => some d
  | .ref n => match h[n]? with
    | some (some (.lst ds)) => some (.list ds)
    | some (some (.dic es)) => some (.dict es)
    | some (some (.dit es)) => some (.dict ((.none, .none) :: es))
    | _ => none
  | .scr _ => none
  | .pack _ => none
  | .lock _ => none
  | .ins _ _ => none
  | .exc _ _ _ => none
@[simp] theorem deref_dat (h : Hh) (d : D) : deref h (.dat d) = some d := rfl
def RR (M : Mm) (H : Hp) (v : V) : D → Prop
  | .list ds => ∃ a xs, v = .ref a ∧ H a = some (.lst xs) ∧ RDs M H xs ds
  | .dict es => (∃ a kvs, v = .ref a ∧ H a = some (.dK kvs) ∧ RDk M H kvs es) ∨ ∃ a kvs es', es = (.none, .none) :: es' ∧ v = .ref a ∧ Rd H a (.dT kvs) ∧ RDt M H kvs es'
  | d => RD M H v d
theorem RD.rr {M : Mm} {H : Hp} {v : V} : ∀ {d : D}, RD M H v d → RR M H v d
  | .none, r => r
  | .bool _, r => r
  | .int _, r => r
  | .str _, r => r
  | .tuple _, r => r
  | .list _, .lst _ e r => ⟨_, _, rfl, e, r⟩
  | .dict _, .dic _ e r => .inl ⟨_, _, rfl, e, r⟩
  | .dict _, .dit _ e r => .inr ⟨_, _, _, rfl, rfl, .inr ⟨_, e⟩, r⟩
theorem deref_rr {M : Mm} {H : Hp} {h : Hh} {v : V} {w : W} {d : D} (rep : Rep M H h) (r : RV M H v w) (e : deref h w = some d) : RR M H v d := by
  cases w with
  | dat d' => cases e; exact r.rr
  | scr ns => cases e
  | pack its => cases e
  | lock its => cases e
  | ins C fs => cases e
  | exc k C fs => cases e
  | ref n =>
    obtain ⟨a, ea, rfl⟩ := r
    obtain ⟨o, ho, ro⟩ := rep.at_ n a ea
    simp only [deref, ho] at e
    cases o with
    | lst ds => cases e; obtain ⟨xs, h1, h2⟩ := ro; exact ⟨a, xs, rfl, h1, h2⟩
    | dic ds => cases e; obtain ⟨xs, h1, h2⟩ := ro; exact .inl ⟨a, xs, rfl, h1, h2⟩
    | dit ds => cases e; obtain ⟨xs, h1, h2⟩ := ro; exact .inr ⟨a, xs, _, rfl, rfl, .inl h1, h2⟩
    | tab q P => cases e
    | ins C fs => cases e
section
variable {M : Mm} {H : Hp} {h : Hh} {v : V}
theorem rr_int {i : Int} (r : RR M H v (.int i)) : v = .int i := by cases (show RD M H v _ from r); rfl
theorem rr_str {i : Str} (r : RR M H v (.str i)) : v = .str i := by cases (show RD M H v _ from r); rfl
theorem rr_bl {i : Bool} (r : RR M H v (.bool i)) : v = .bl i := by cases (show RD M H v _ from r); rfl
theorem rr_non (r : RR M H v .none) : v = .non := by cases (show RD M H v _ from r); rfl
theorem rr_tup {ds : List D} (r : RR M H v (.tuple ds)) : ∃ a xs, v = .ref a ∧ ¬ M.Has a ∧ TupAt H a xs ds ∧ RDs M H xs ds := by
  cases (show RD M H v _ from r) with
  | tup n e q => exact ⟨_, _, rfl, n, e, q⟩
theorem RDs.get : ∀ {xs : List V} {ds : List D} {i : Nat} {d : D}, RDs M H xs ds → ds[i]? = some d → ∃ v, xs[i]? = some v ∧ RD M H v d
  | _, _, _, _, .nil, e => by simp at e
  | _, _, 0, _, .cons r _, e => by simp at e; subst e; exact ⟨_, rfl, r⟩
  | _, _, i + 1, _, .cons _ t, e => by
    obtain ⟨u, h1, h2⟩ := RDs.get (i := i) t (by simpa using e)
    exact ⟨u, by simpa using h1, h2⟩
theorem RDs.app : ∀ {xs : List V} {ds : List D} {ys : List V} {es : List D}, RDs M H xs ds → RDs M H ys es → RDs M H (xs ++ ys) (ds ++ es)
  | _, _, _, _, .nil, q => q
  | _, _, _, _, .cons r t, q => .cons r (RDs.app t q)
theorem RDs.take : ∀ {xs : List V} {ds : List D} (n : Nat), RDs M H xs ds → RDs M H (xs.take n) (ds.take n)
  | _, _, 0, _ => .nil
  | _, _, _ + 1, .nil => .nil
  | _, _, n + 1, .cons r t => .cons r (RDs.take n t)
theorem RDs.drop : ∀ {xs : List V} {ds : List D} (n : Nat), RDs M H xs ds → RDs M H (xs.drop n) (ds.drop n)
  | _, _, 0, r => r
  | _, _, _ + 1, .nil => .nil
  | _, _, n + 1, .cons _ t => RDs.drop n t
theorem RDs.rev : ∀ {xs : List V} {ds : List D}, RDs M H xs ds → RDs M H xs.reverse ds.reverse
  | _, _, .nil => .nil
  | _, _, .cons r t => by rw [List.reverse_cons, List.reverse_cons]; exact RDs.app (RDs.rev t) (.cons r .nil)
theorem RDs.set : ∀ {xs : List V} {ds : List D} (n : Nat) {v : V} {d : D}, RDs M H xs ds → RD M H v d → RDs M H (xs.set n v) (ds.set n d)
  | _, _, _, _, _, .nil, _ => .nil
  | _, _, 0, _, _, .cons r t, q => .cons q t
  | _, _, n + 1, _, _, .cons r t, q => .cons r (RDs.set n t q)
theorem RDs.erase : ∀ {xs : List V} {ds : List D} (n : Nat), RDs M H xs ds → RDs M H (xs.eraseIdx n) (ds.eraseIdx n)
  | _, _, _, .nil => .nil
  | _, _, 0, .cons r t => t
  | _, _, n + 1, .cons r t => .cons r (RDs.erase n t)
theorem RDs.rep {xs : List V} {ds : List D} (r : RDs M H xs ds) : ∀ k : Nat, RDs M H (List.replicate k xs).flatten (List.replicate k ds).flatten
  | 0 => .nil
  | k + 1 => by rw [List.replicate_succ, List.replicate_succ, List.flatten_cons, List.flatten_cons]; exact RDs.app r (RDs.rep r k)
theorem RDs.atI {xs : List V} {ds : List D} {i : Int} {d : D} (r : RDs M H xs ds) (e : L2.atI ds i = some d) : ∃ v, L2.atI xs i = some v ∧ RD M H v d := by
  unfold L2.atI at e ⊢
  rw [r.length]
  cases q : ixN ds.length i with
  | none => rw [q] at e; cases e
  | some j => rw [q] at e; exact r.get e
end
def mkL (m : Bool) (ds : List D) (h : Hh) : Option (W × Hh) := if m = true then some (.ref h.length, h ++ [some (.lst ds)]) else some (.dat (.list ds), h)
@[simp] theorem mkL_false (ds : List D) (h : Hh) : mkL false ds h = some (.dat (.list ds), h) := rfl
@[simp] theorem mkL_true (ds : List D) (h : Hh) : mkL true ds h = some (.ref h.length, h ++ [some (.lst ds)]) := rfl
theorem mkL_fin {m : Bool} {ds : List D} {h : Hh} {M : Mm} {H : Hp} {Q : VK} {p : Addr} {xs : List V} (rep : Rep M H h) (n : H p = none) (r : RDs M H xs ds) (c : Cont RV (mkL m ds h) M H Q) : Q (.ref p) (upd H p (.lst xs)) := by
  cases m with
  | false => exact c.fin (ext_new n) (rep.upd_new n) (RD.lst (rep.new n) upd_same (r.mono (ext_new n).ext))
  | true => exact c.fin (ext_add n) (rep.add n ⟨xs, upd_same, r.mono (ext_add n).ext⟩) ⟨p, by simp [Mm.more, ← rep.len], rfl⟩
theorem mkT_fin {ds : List D} {h : Hh} {M : Mm} {H : Hp} {Q : VK} {p : Addr} {xs : List V} (rep : Rep M H h) (n : H p = none) (r : RDs M H xs ds) (hd : callD ds = false) (c : Cont RV (some (.dat (.tuple ds), h)) M H Q) : Q (.ref p) (upd H p (.tup xs)) :=
  c.fin (ext_new n) (rep.upd_new n) (RD.tup (rep.new n) (.inl ⟨hd, upd_same⟩) (r.mono (ext_new n).ext))
def bareO (b : Bool) (o : Obj) (xs : List V) : HO := if b = true then .frz o (.tup xs) else .tup xs
theorem mkB_fin {ds : List D} {h : Hh} {M : Mm} {H : Hp} {Q : VK} {p : Addr} {xs : List V} {o : Obj} (rep : Rep M H h) (n : H p = none) (r : RDs M H xs ds) (ho : o.dict = none) (c : Cont RV (some (.dat (.tuple ds), h)) M H Q) : Q (.ref p) (upd H p (bareO (callD ds) o xs)) := by
  cases hd : callD ds with
  | false => exact mkT_fin rep n r hd c
  | true => exact c.fin (ext_new n) (rep.upd_new n) (RD.tup (rep.new n) (.inr ⟨hd, o, ho, upd_same⟩) (r.mono (ext_new n).ext))
theorem bare_ok {P : Program} {w : World} {H : Hp} {h' : Heap} {a : Addr} {xs : List V} {o : Obj} (b : Bool) (e : h'.get? a = some o) (ok : ∀ G, ObjOk P w G h' a (.tup xs)) : ObjOk P w H h' a (bareO b o xs) := by
  cases b with
  | false => exact ok _
  | true => exact ⟨e, ok _⟩
theorem Cont.here {d : D} {h : Hh} {M : Mm} {H : Hp} {Q : VK} {v : V} (c : Cont RV (some (.dat d, h)) M H Q) (rep : Rep M H h) (r : RD M H v d) : Q v H := c.fin (.refl _ _) rep r
theorem Cont.no {α β : Type} {rel : Mm → Hp → β → α → Prop} {M : Mm} {H : Hp} {Q : β → Hp → Prop} (c : Cont rel none M H Q) : False := by obtain ⟨_, _, e, _⟩ := c; cases e
def ok (d : D) (h : Hh) : Option (W × Hh) := some (.dat d, h)
def addW (m : Bool) (x y : W) (h : Hh) : Option (W × Hh) := match deref h x, deref h y with
  | some (.int i), some (.int j) => ok (.int (i + j)) h
  | some (.str a), some (.str b) => if a.length + b.length ≤ sizeLine then ok (.str (a ++ b)) h else none
  | some (.tuple a), some (.tuple b) => if a.length + b.length ≤ sizeLine then ok (.tuple (a ++ b)) h else none
  | some (.list a), some (.list b) => if a.length + b.length ≤ sizeLine then mkL m (a ++ b) h else none
  | _, _ => none
section
variable {X : Cx}
def rCatB (K : PySem.W.Frag) : R2 := fun x y H Q => ∃ a b vs ws, x = .ref a ∧ y = .ref b ∧ SqT K H a vs ∧ SqT K H b ws ∧ vs.length + ws.length ≤ sizeLine ∧
  (vs = [] → Q (.ref b) H) ∧ (vs ≠ [] → ws = [] → Q (.ref a) H) ∧ (vs ≠ [] → ws ≠ [] → ∃ bb : Bool, ∀ p o, H p = none → o.dict = none → Q (.ref p) (upd H p (bareO bb o (vs ++ ws))))
theorem op_catB : OpR X (binaryOp .Add) (rCatB X.K) := by
  rintro pins s σ H x y v u Q I rx ry ⟨a, b, vs, ws, rfl, rfl, ha, hb, hz, f0, f1, f2⟩
  by_cases e : vs = [] ∨ ws = []
  · exact op_catA pins s σ H _ _ v u Q I rx ry ⟨a, b, vs, ws, rfl, rfl, ha, hb, hz, f0, f1, fun n1 n2 => (e.elim n1 n2).elim⟩
  · have n1 : vs ≠ [] := fun z => e (.inl z)
    have n2 : ws ≠ [] := fun z => e (.inr z)
    obtain ⟨bb, f⟩ := f2 n1 n2
    cases rx
    cases ry
    obtain ⟨l1, r1, p1, _⟩ := I.tuple ha
    obtain ⟨l2, r2, p2, _⟩ := I.tuple hb
    apply HT.cat_tup p1 p2 (fun z => n1 (r1.nil_iff.mp z)) (fun z => absurd (r2.nil_iff.mp z) n2)
    · intro _
      refine ⟨.ref s.heap.objs.size, _, I.laid (t' := s.toks) (o := bareO bb _ (vs ++ ws)) (fun _ _ q => Heap.get?_push_of_some _ q) (Nat.le_refl _) (bare_ok bb (Heap.get?_push_size _ rfl) fun G => ⟨?_, _, r1.append r2, IsTup.new _ _⟩), rfl, f _ _ (I.hok.fresh (Nat.le_refl _)) rfl⟩
      rw [List.length_append]
      exact hz
    · rw [← r1.length, ← r2.length]
      exact hz
theorem s_add (m : Bool) : Sem2 (fun x y H Q => rI0 (fun i j => .int (i + j)) x y H Q ∨ (∃ i j, x = .str i ∧ y = .str j ∧ i.length + j.length ≤ sizeLine ∧ Q (.str (i ++ j)) H) ∨ rCatB X.K x y H Q ∨ rCat x y H Q) (addW m) := by
  intro M H h x y wx wy Q rep rx ry c
  unfold addW at c
  split at c
  · rename_i i j h1 h2
    obtain rfl := rr_int (deref_rr rep rx h1)
    obtain rfl := rr_int (deref_rr rep ry h2)
    exact .inl ⟨i, j, rfl, rfl, c.here rep (.int _)⟩
  · rename_i i j h1 h2
    obtain rfl := rr_str (deref_rr rep rx h1)
    obtain rfl := rr_str (deref_rr rep ry h2)
    split at c
    · rename_i hz
      exact .inr (.inl ⟨i, j, rfl, rfl, hz, c.here rep (.str _)⟩)
    · exact c.no.elim
  · rename_i i j h1 h2
    obtain ⟨a, xs, rfl, na, ha, qa⟩ := rr_tup (deref_rr rep rx h1)
    obtain ⟨b, ys, rfl, nb, hb, qb⟩ := rr_tup (deref_rr rep ry h2)
    split at c
    · rename_i hz
      refine .inr (.inr (.inl ⟨a, b, xs, ys, rfl, rfl, .inl ha.rd, .inl hb.rd, by rw [qa.length, qb.length]; exact hz, fun e => ?_, fun _ e => ?_, fun _ _ => ⟨callD (i ++ j), fun p o np ho => ?_⟩⟩))
      · subst e; cases qa
        exact c.here rep (.tup nb hb qb)
      · subst e; cases qb; rw [List.append_nil] at c
        exact c.here rep (.tup na ha qa)
      · exact mkB_fin rep np (qa.app qb) ho c
    · exact c.no.elim
  · rename_i i j h1 h2
    obtain ⟨a, xs, rfl, ha, qa⟩ := deref_rr rep rx h1
    obtain ⟨b, ys, rfl, hb, qb⟩ := deref_rr rep ry h2
    split at c
    · rename_i hz
      exact .inr (.inr (.inr ⟨a, b, xs, ys, rfl, rfl, ha, hb, by rw [qa.length, qb.length]; exact hz, fun p np => mkL_fin rep np (qa.app qb) c⟩))
    · exact c.no.elim
  · exact c.no.elim
theorem d_add (m : Bool) {a b : Expr} {pos : Pos} {f g : EM} (ha : DE X a f) (hb : DE X b g) : DE X (.BinOp a .Add b pos) (f2 (addW m) f g) :=
  d_op (op_add.or (op_add_str.or (op_catB.or op_cat))) (s_add m) ha hb
def intW (C : Int → Int → Bool) (g : Int → Int → Int) (x y : W) (h : Hh) : Option (W × Hh) := match deref h x, deref h y with
  | some (.int i), some (.int j) => if C i j = true then ok (.int (g i j)) h else none
  | _, _ => none
theorem s_int {C : Int → Int → Prop} {Cb : Int → Int → Bool} {g : Int → Int → Int} (hc : ∀ i j, Cb i j = true → C i j) : Sem2 (rI C fun i j => .int (g i j)) (intW Cb g) := by
  intro M H h x y wx wy Q rep rx ry c
  unfold intW at c
  split at c
  · rename_i i j h1 h2
    obtain rfl := rr_int (deref_rr rep rx h1)
    obtain rfl := rr_int (deref_rr rep ry h2)
    split at c
    · rename_i hz
      exact ⟨i, j, rfl, rfl, hc i j hz, c.here rep (.int _)⟩
    · exact c.no.elim
  · exact c.no.elim
def subW := intW (fun _ _ => true) fun i j => i - j
def modW := intW (fun _ j => decide (0 < j)) fun i j => i % j
theorem d_mod {a b : Expr} {pos : Pos} {f g : EM} (ha : DE X a f) (hb : DE X b g) : DE X (.BinOp a .Mod b pos) (f2 modW f g) := d_op op_mod (s_int fun _ _ h => of_decide_eq_true h) ha hb
def divW := intW (fun _ j => decide (0 < j ∧ j < 1073741824)) fun i j => i / j
theorem d_div {a b : Expr} {pos : Pos} {f g : EM} (ha : DE X a f) (hb : DE X b g) : DE X (.BinOp a .FloorDiv b pos) (f2 divW f g) := d_op op_fdiv (s_int fun _ _ h => by simpa [CDiv] using h) ha hb
def powW := intW (fun i j => decide (0 ≤ j ∧ j ≤ 1000000 ∧ i.natAbs < 18446744073709551616)) fun i j => i ^ j.toNat
theorem d_pow {a b : Expr} {pos : Pos} {f g : EM} (ha : DE X a f) (hb : DE X b g) : DE X (.BinOp a .Pow b pos) (f2 powW f g) := d_op op_pow (s_int fun _ _ h => by simpa [CPow] using h) ha hb
def mulW (m : Bool) (x y : W) (h : Hh) : Option (W × Hh) := match deref h x, deref h y with
  | some (.int i), some (.int j) => if ((-18446744073709551616 < i && i < 18446744073709551616) || (-18446744073709551616 < j && j < 18446744073709551616)) = true then ok (.int (i * j)) h else none
  | some (.list a), some (.int k) => if (0 ≤ k && k < 1000000 && a.length * k.toNat ≤ sizeLine) = true then mkL m (List.replicate k.toNat a).flatten h else none
  | _, _ => none
theorem s_mul (m : Bool) : Sem2 (fun x y H Q => rI CMul (fun i j => .int (i * j)) x y H Q ∨ rRep x y H Q) (mulW m) := by
  intro M H h x y wx wy Q rep rx ry c
  unfold mulW at c
  split at c
  · rename_i i j h1 h2
    obtain rfl := rr_int (deref_rr rep rx h1)
    obtain rfl := rr_int (deref_rr rep ry h2)
    split at c
    · rename_i hz
      refine .inl ⟨i, j, rfl, rfl, ?_, c.here rep (.int _)⟩
      simpa [CMul] using hz
    · exact c.no.elim
  · rename_i i j h1 h2
    obtain ⟨a, xs, rfl, ha, qa⟩ := deref_rr rep rx h1
    obtain rfl := rr_int (deref_rr rep ry h2)
    split at c
    · rename_i hz
      simp only [Bool.and_eq_true, decide_eq_true_eq] at hz
      refine .inr ⟨a, j, xs, rfl, rfl, ha, by omega, by omega, by rw [qa.length]; exact hz.2, fun p np => mkL_fin rep np (qa.rep _) c⟩
    · exact c.no.elim
  · exact c.no.elim
theorem d_mul (m : Bool) {a b : Expr} {pos : Pos} {f g : EM} (ha : DE X a f) (hb : DE X b g) : DE X (.BinOp a .Mult b pos) (f2 (mulW m) f g) := d_op (op_mul.or op_rep) (s_mul m) ha hb
def fNeg (f : EM) : EM := fun ρ h => obnd (f ρ h) fun w h1 => match w with
  | .dat (.int i) => ok (.int (-i)) h1
  | _ => none
theorem d_neg {a : Expr} {pos : Pos} {f : EM} (ha : DE X a f) : DE X (.UnaryOp .USub a pos) (fNeg f) := (pe_un un_neg ha).weak fun σ H Q => by
  rintro ⟨M, h, ρ, r, rs, c⟩
  obtain ⟨w, h1, e1, c1⟩ := Cont.bind (δ := Unit) c
  refine ⟨M, h, ρ, r, rs, w, h1, e1, fun M1 H1 v x1 r1 v1 => ?_⟩
  have c2 := c1 M1 H1 x1
  split at c2
  · cases v1; exact ⟨_, rfl, c2.here r1 (.int _)⟩
  · exact c2.no.elim
def bok (b : Bool) (h : Hh) : Option (W × Hh) := some (.dat (.bool b), h)
def ltW (g : Int → Int → Bool) (k : List Nat → List Nat → Bool) (x y : W) (h : Hh) : Option (W × Hh) := match deref h x, deref h y with
  | some (.int i), some (.int j) => bok (g i j) h
  | some (.str i), some (.str j) => bok (k i.cps.toList j.cps.toList) h
  | _, _ => none
theorem s_lt {g : Int → Int → Bool} {k : List Nat → List Nat → Bool} : Sem2 (fun x y H Q => rI0 (fun i j => .bl (g i j)) x y H Q ∨ ∃ i j, x = .str i ∧ y = .str j ∧ Q (.bl (k i.cps.toList j.cps.toList)) H) (ltW g k) := by
  intro M H h x y wx wy Q rep rx ry c
  unfold ltW at c
  split at c
  · rename_i i j h1 h2
    obtain rfl := rr_int (deref_rr rep rx h1)
    obtain rfl := rr_int (deref_rr rep ry h2)
    exact .inl ⟨i, j, rfl, rfl, c.here rep (.bl _)⟩
  · rename_i i j h1 h2
    obtain rfl := rr_str (deref_rr rep rx h1)
    obtain rfl := rr_str (deref_rr rep ry h2)
    exact .inr ⟨i, j, rfl, rfl, c.here rep (.bl _)⟩
  · exact c.no.elim
def lt_W := ltW (fun i j => decide (i < j)) fun i j => decide (i < j)
def gt_W := ltW (fun i j => decide (j < i)) fun i j => decide (j < i)
def le_W := ltW (fun i j => decide (i ≤ j)) fun i j => !decide (j < i)
def ge_W := ltW (fun i j => decide (j ≤ i)) fun i j => !decide (i < j)
theorem d_lt {a b : Expr} {pos : Pos} {f g : EM} (ha : DE X a f) (hb : DE X b g) : DE X (.Compare a [.Lt] [b] pos) (f2 lt_W f g) := d_cmp (op_lt.or op_lt_str) s_lt ha hb (nomark _)
theorem d_ge {a b : Expr} {pos : Pos} {f g : EM} (ha : DE X a f) (hb : DE X b g) : DE X (.Compare a [.GtE] [b] pos) (f2 ge_W f g) := d_cmp (op_ge.or op_ge_str) s_lt ha hb (nomark _)
end
mutual
theorem RD.dp {K : PySem.W.Frag} {M : Mm} {H : Hp} : ∀ {v : V} {d : D}, RD M H v d → d.canLay0 = true → Dp K H v d
  | _, _, .non, _ => .non
  | _, _, .bl b, _ => .bl b
  | _, _, .int i, _ => .int i
  | _, _, .str x, _ => .str x
  | _, _, .tup _ e r, h => .tup e.sq (RDs.dp r (by simpa [PyData.canLay0] using h))
  | _, _, .lst _ e r, h => .lst (.of e) (RDs.dp r (by simpa [PyData.canLay0] using h))
  | _, _, .dic _ _ _, h => by simp [PyData.canLay0] at h
  | _, _, .dit _ _ _, h => by simp [PyData.canLay0] at h
theorem RDs.dp {K : PySem.W.Frag} {M : Mm} {H : Hp} : ∀ {v : List V} {d : List D}, RDs M H v d → PyData.canLayAll0 d = true → DpAll K H v d
  | _, _, .nil, _ => .nil
  | _, _, .cons a r, h => by
    simp only [PyData.canLayAll0, Bool.and_eq_true] at h
    exact .cons (RD.dp a h.1) (RDs.dp r h.2)
end
theorem rr_dp {K : PySem.W.Frag} {M : Mm} {H : Hp} {v : V} : ∀ {d : D}, RR M H v d → d.canLay0 = true → Dp K H v d
  | .none, r, h => RD.dp r h
  | .bool _, r, h => RD.dp r h
  | .int _, r, h => RD.dp r h
  | .str _, r, h => RD.dp r h
  | .tuple _, r, h => RD.dp r h
  | .list _, ⟨_, _, e, h1, h2⟩, h => by subst e; exact .lst (.of h1) (h2.dp (by simpa [PyData.canLay0] using h))
  | .dict _, _, h => by simp [PyData.canLay0] at h
def eqS : D → D → Option Bool
  | .int i, .int j => some (decide (i = j))
  | .str i, .str j => some (decide (i = j))
  | .bool i, .bool j => some (decide (i = j))
  | .none, .none => some true
  | .none, .int _ => some false
  | .none, .str _ => some false
  | .none, .bool _ => some false
  | .int _, .none => some false
  | .str _, .none => some false
  | .bool _, .none => some false
  | .int _, .str _ => some false
  | .str _, .int _ => some false
  | .bool _, .str _ => some false
  | .str _, .bool _ => some false
  | _, _ => none
theorem eqS_ok {M : Mm} {H : Hp} {x y : V} {a b : D} {r : Bool} (ra : RR M H x a) (rb : RR M H y b) (e : eqS a b = some r) : scal x y = true ∧ r = decide (x = y) := by
  cases a <;> cases b <;> simp only [eqS, Option.some.injEq, reduceCtorEq] at e <;> subst e <;> cases (show RD M H x _ from ra) <;> cases (show RD M H y _ from rb) <;> simp [scal]
def shp (d : D) : Bool := d.canLay0 && decide (d.depth ≤ 64)
def eqW (neg : Bool) (x y : W) (h : Hh) : Option (W × Hh) := match deref h x, deref h y with
  | some a, some b => match eqS a b with
    | some r => bok (if neg = true then !r else r) h
    | none => if shp a && shp b then bok (if neg = true then !PyData.eqv a b else PyData.eqv a b) h else none
  | _, _ => none
section
variable {X : Cx}
theorem s_eq : Sem2 (fun x y H Q => rEq x y H Q ∨ rEqD X.K x y H Q) (eqW false) := by
  intro M H h x y wx wy Q rep rx ry c
  unfold eqW at c
  split at c
  · rename_i a b h1 h2
    have ra := deref_rr rep rx h1
    have rb := deref_rr rep ry h2
    split at c
    · rename_i r e
      obtain ⟨e1, e2⟩ := eqS_ok ra rb e
      subst e2
      exact .inl ⟨e1, c.here rep (.bl _)⟩
    · split at c
      · rename_i hz
        rw [Bool.and_eq_true] at hz
        exact .inr ⟨a, b, rr_dp ra (SeqAt.canLay_of_shaped hz.1), rr_dp rb (SeqAt.canLay_of_shaped hz.2), hz.1, hz.2, c.here rep (.bl _)⟩
      · exact c.no.elim
  · exact c.no.elim
theorem s_ne : Sem2 (fun x y H Q => rNe x y H Q ∨ rNeD X.K x y H Q) (eqW true) := by
  intro M H h x y wx wy Q rep rx ry c
  unfold eqW at c
  split at c
  · rename_i a b h1 h2
    have ra := deref_rr rep rx h1
    have rb := deref_rr rep ry h2
    split at c
    · rename_i r e
      obtain ⟨e1, e2⟩ := eqS_ok ra rb e
      subst e2
      exact .inl ⟨e1, c.here rep (.bl _)⟩
    · split at c
      · rename_i hz
        rw [Bool.and_eq_true] at hz
        exact .inr ⟨a, b, rr_dp ra (SeqAt.canLay_of_shaped hz.1), rr_dp rb (SeqAt.canLay_of_shaped hz.2), hz.1, hz.2, c.here rep (.bl _)⟩
      · exact c.no.elim
  · exact c.no.elim
theorem d_eq {k : Nat} (hr : Room k X.A) {a b : Expr} {pos : Pos} {f g : EM} (ha : DE X a f) (hb : DE X b g) : DE X (.Compare a [.Eq] [b] pos) (f2 (eqW false) f g) := d_cmp (op_eq.or (op_eqD hr.units)) s_eq ha hb (nomark _)
def isW (neg : Bool) (x y : W) (h : Hh) : Option (W × Hh) := match x, y with
  | .dat (.bool a), .dat (.bool b) => bok (if neg = true then !decide (a = b) else decide (a = b)) h
  | .dat .none, .dat .none => bok (!neg) h
  | _, .dat .none => bok neg h
  | _, _ => none
theorem rv_non {M : Mm} {H : Hp} {w : W} (r : RV M H .non w) : w = .dat .none := by
  cases w with
  | dat d => cases (show RD M H _ d from r); rfl
  | ref n => obtain ⟨_, _, e⟩ := r; cases e
  | scr n => obtain ⟨_, _, e, _⟩ := r; cases e
  | pack its => obtain ⟨_, _, e, _⟩ := r; cases e
  | lock its => obtain ⟨_, _, _, e, _⟩ := r; cases e
  | ins C fs => obtain ⟨_, _, _, e, _⟩ := r; cases e
  | exc k C fs => obtain ⟨_, _, _, e, _⟩ := r; cases e
theorem s_is : Sem2 (fun x y H Q => (y = .non ∧ Q (.bl (decide (x = .non))) H) ∨ ∃ a b, x = .bl a ∧ y = .bl b ∧ Q (.bl (decide (a = b))) H) (isW false) := by
  intro M H h x y wx wy Q rep rx ry c
  unfold isW at c
  split at c
  · cases (show RD M H _ _ from rx); cases (show RD M H _ _ from ry)
    exact .inr ⟨_, _, rfl, rfl, c.here rep (.bl _)⟩
  · cases (show RD M H _ _ from rx); cases (show RD M H _ _ from ry)
    exact .inl ⟨rfl, c.here rep (.bl _)⟩
  · rename_i hn
    cases (show RD M H _ _ from ry)
    refine .inl ⟨rfl, ?_⟩
    have e : decide (x = V.non) = false := decide_eq_false fun z => by subst z; exact hn (rv_non rx)
    rw [e]
    exact c.here rep (.bl _)
  · exact c.no.elim
def fB (f : EM) : BM := fun ρ h => obnd (f ρ h) fun w h1 => match w with
  | .dat (.bool b) => some (b, h1)
  | _ => none
theorem test_imp {f : EM} : ∀ σ H Q, tT (fB f) σ H Q → tTest (tE f) σ H Q := fun σ H Q => by
  rintro ⟨M, h, ρ, r, rs, c⟩
  obtain ⟨w, h1, e1, c1⟩ := Cont.bind (δ := Unit) c
  refine ⟨M, h, ρ, r, rs, w, h1, e1, fun M1 H1 v x1 r1 v1 => ?_⟩
  have c2 := c1 M1 H1 x1
  split at c2
  · cases v1; exact ⟨_, rfl, c2.fin (.refl _ _) r1 rfl⟩
  · exact c2.no.elim
theorem dt_val {e : Expr} {f : EM} (h : DE X e f) (he : ∀ whole, isTrue e X.env whole = (do let v ← whole; standAt e.pos; holding [v] (truthy v)) := by intro _; rfl) : DT X e (fB f) := (pt_val h he).weak test_imp
theorem dt_of_cmp {a b : Expr} {op : CmpOp} {pos : Pos} {r : R2} {sem : W → W → Hh → Option (W × Hh)} {f g : EM} (ho : OpR X (compareOp op) r) (hs : Sem2 r sem) (ha : DE X a f) (hb : DE X b g) (hm : behindInMarks op b = false) : DT X (.Compare a [op] [b] pos) (fB (f2 sem f g)) :=
  (pt_cmpR ho ha hb hm).weak fun σ H Q q => by
    obtain ⟨M, h, ρ, r, rs, c⟩ := q
    obtain ⟨w, h1, e1, c1⟩ := Cont.bind (δ := Unit) c
    refine op_imp hs σ H _ ⟨M, h, ρ, r, rs, w, h1, e1, fun M1 H1 v x1 r1 v1 => ?_⟩
    have c2 := c1 M1 H1 x1
    split at c2
    · cases v1; exact ⟨_, rfl, c2.fin (.refl _ _) r1 rfl⟩
    · exact c2.no.elim
theorem t_lt {a b : Expr} {pos : Pos} {f g : EM} (ha : DE X a f) (hb : DE X b g) : DT X (.Compare a [.Lt] [b] pos) (fB (f2 lt_W f g)) := dt_of_cmp (op_lt.or op_lt_str) s_lt ha hb (nomark _)
theorem t_gt {a b : Expr} {pos : Pos} {f g : EM} (ha : DE X a f) (hb : DE X b g) : DT X (.Compare a [.Gt] [b] pos) (fB (f2 gt_W f g)) := dt_of_cmp (op_gt.or op_gt_str) s_lt ha hb (nomark _)
theorem t_eq {k : Nat} (hr : Room k X.A) {a b : Expr} {pos : Pos} {f g : EM} (ha : DE X a f) (hb : DE X b g) : DT X (.Compare a [.Eq] [b] pos) (fB (f2 (eqW false) f g)) := dt_of_cmp (op_eq.or (op_eqD hr.units)) s_eq ha hb (nomark _)
theorem t_ne {k : Nat} (hr : Room k X.A) {a b : Expr} {pos : Pos} {f g : EM} (ha : DE X a f) (hb : DE X b g) : DT X (.Compare a [.NotEq] [b] pos) (fB (f2 (eqW true) f g)) := dt_of_cmp (op_ne.or (op_neD hr.units)) s_ne ha hb (nomark _)
theorem t_is {a b : Expr} {pos : Pos} {f g : EM} (ha : DE X a f) (hb : DE X b g) : DT X (.Compare a [.Is] [b] pos) (fB (f2 (isW false) f g)) := dt_of_cmp (op_isN.or op_is_bl) s_is ha hb (nomark _)
def bAnd (f g : BM) : BM := fun ρ h => obnd (f ρ h) fun b h1 => if b = true then g ρ h1 else some (false, h1)
def bOr (f g : BM) : BM := fun ρ h => obnd (f ρ h) fun b h1 => if b = true then some (true, h1) else g ρ h1
def bNot (f : BM) : BM := fun ρ h => obnd (f ρ h) fun b h1 => some (!b, h1)
abbrev DW (X : Cx) (e : Expr) (f : BM) : Prop := PW X e (tT f)
theorem _root_.L2.PW.weak {X : Cx} {e : Expr} {t t' : TT} (h : PW X e t) (i : ∀ σ H Q, t' σ H Q → t σ H Q) : PW X e t' := ⟨fun wh pins s σ H Q I q => h.run wh pins s σ H Q I (i σ H Q q)⟩
theorem dw_and1 {a : Expr} {pos : Pos} {f : BM} (ha : DT X a f) : DW X (.BoolOp .And [a] pos) f := pw_and1 ha
theorem dw_or1 {a : Expr} {pos : Pos} {f : BM} (ha : DT X a f) : DW X (.BoolOp .Or [a] pos) f := pw_or1 ha
theorem dw_and {a b : Expr} {rest : List Expr} {pos : Pos} {f g : BM} (ha : DT X a f) (hb : DW X (.BoolOp .And (b :: rest) pos) g) : DW X (.BoolOp .And (a :: b :: rest) pos) (bAnd f g) := (pw_and ha hb).weak fun σ H Q => by
  rintro ⟨M, h, ρ, r, rs, c⟩
  obtain ⟨w, h1, e1, c1⟩ := Cont.bind (δ := Unit) c
  refine ⟨M, h, ρ, r, rs, w, h1, e1, fun M1 H1 v x1 r1 v1 => ?_⟩
  subst v1
  have c2 := c1 M1 H1 x1
  cases v with
  | true => exact iteT ⟨M1, h1, ρ, r1, rs.mono x1, c2⟩
  | false => exact iteF (c2.fin (.refl _ _) r1 rfl)
theorem dw_or {a b : Expr} {rest : List Expr} {pos : Pos} {f g : BM} (ha : DT X a f) (hb : DW X (.BoolOp .Or (b :: rest) pos) g) : DW X (.BoolOp .Or (a :: b :: rest) pos) (bOr f g) := (pw_or ha hb).weak fun σ H Q => by
  rintro ⟨M, h, ρ, r, rs, c⟩
  obtain ⟨w, h1, e1, c1⟩ := Cont.bind (δ := Unit) c
  refine ⟨M, h, ρ, r, rs, w, h1, e1, fun M1 H1 v x1 r1 v1 => ?_⟩
  subst v1
  have c2 := c1 M1 H1 x1
  cases v with
  | true => exact iteT (c2.fin (.refl _ _) r1 rfl)
  | false => exact iteF ⟨M1, h1, ρ, r1, rs.mono x1, c2⟩
theorem dt_not {a : Expr} {pos : Pos} {f : BM} (ha : DT X a f) : DT X (.UnaryOp .Not a pos) (bNot f) := (pt_not ha).weak fun σ H Q => by
  rintro ⟨M, h, ρ, r, rs, c⟩
  obtain ⟨w, h1, e1, c1⟩ := Cont.bind (δ := Unit) c
  refine ⟨M, h, ρ, r, rs, w, h1, e1, fun M1 H1 v x1 r1 v1 => ?_⟩
  subst v1
  exact (c1 M1 H1 x1).fin (.refl _ _) r1 rfl
def fAnd (f g : EM) : EM := fun ρ h => obnd (f ρ h) fun w h1 => match w with
  | .dat (.bool true) => g ρ h1
  | .dat (.bool false) => bok false h1
  | _ => none
def fOr (f g : EM) : EM := fun ρ h => obnd (f ρ h) fun w h1 => match w with
  | .dat (.bool true) => bok true h1
  | .dat (.bool false) => g ρ h1
  | _ => none
def fNot (f : EM) : EM := fun ρ h => obnd (f ρ h) fun w h1 => match w with
  | .dat (.bool b) => bok (!b) h1
  | _ => none
theorem d_one {op} {a : Expr} {pos : Pos} {f : EM} (ha : DE X a f) : DE X (.BoolOp op [a] pos) f := pe_one ha
theorem d_and {a b : Expr} {rest : List Expr} {pos : Pos} {f g : EM} (ha : DE X a f) (hb : DE X (.BoolOp .And (b :: rest) pos) g) : DE X (.BoolOp .And (a :: b :: rest) pos) (fAnd f g) := (pe_and ha hb).weak fun σ H Q => by
  rintro ⟨M, h, ρ, r, rs, c⟩
  obtain ⟨w, h1, e1, c1⟩ := Cont.bind (δ := Unit) c
  refine ⟨M, h, ρ, r, rs, w, h1, e1, fun M1 H1 v x1 r1 v1 => ?_⟩
  have c2 := c1 M1 H1 x1
  split at c2
  · cases v1; exact ⟨true, rfl, iteT ⟨M1, h1, ρ, r1, rs.mono x1, c2⟩⟩
  · cases v1; exact ⟨false, rfl, iteF (c2.here r1 (.bl _))⟩
  · exact c2.no.elim
def fIf (t : BM) (f g : EM) : EM := fun ρ h => obnd (t ρ h) fun b h1 => if b = true then f ρ h1 else g ρ h1
theorem d_if {c a b : Expr} {pos : Pos} {t : BM} {f g : EM} (hc : DT X c t) (ha : DE X a f) (hb : DE X b g) : DE X (.IfExp c a b pos) (fIf t f g) := (pe_ifExp hc ha hb).weak fun σ H Q => by
  rintro ⟨M, h, ρ, r, rs, c⟩
  obtain ⟨w, h1, e1, c1⟩ := Cont.bind (δ := Unit) c
  refine ⟨M, h, ρ, r, rs, w, h1, e1, fun M1 H1 v x1 r1 v1 => ?_⟩
  subst v1
  have c2 := c1 M1 H1 x1
  cases v with
  | true => exact iteT ⟨M1, h1, ρ, r1, rs.mono x1, c2⟩
  | false => exact iteF ⟨M1, h1, ρ, r1, rs.mono x1, c2⟩
end
end DL
set_option maxRecDepth 100000
set_option maxHeartbeats 4000000
namespace DL
open PySem PySem.Spec PyProof.Rows L2
def dKey : D → Option Key
  | .int i => some (.inl i)
  | .str s => some (.inr s)
  | _ => none
def dKeys : List D → Option (List Key)
  | [] => some []
  | d :: ds => match dKey d, dKeys ds with
    | some k, some ks => some (k :: ks)
    | _, _ => none
def tKey : D → Option (List Key)
  | .tuple ds => dKeys ds
  | _ => none
def getK (es : List (D × D)) (k : Key) : Option D := (es.find? fun e => decide (dKey e.1 = some k)).map (·.2)
def getT (es : List (D × D)) (k : List Key) : Option D := (es.find? fun e => decide (tKey e.1 = some k)).map (·.2)
def isT : List (D × D) → Bool
  | (.none, .none) :: _ => true
  | _ => false
def bareK : D → Bool
  | .tuple ds => callD ds
  | _ => false
def getD (es : List (D × D)) (k : D) : Option (Option D) := if isT es = true then (if bareK k = true then none else (tKey k).map (getT es.tail)) else (dKey k).map (getK es)
theorem dKey_kP (k : Key) : dKey (kP k) = some k := by cases k <;> rfl
theorem dKeys_kP : ∀ ks : List Key, dKeys (ks.map kP) = some ks
  | [] => rfl
  | k :: ks => by simp only [List.map_cons, dKeys, dKey_kP, dKeys_kP ks]
theorem kP_dKey {d : D} {k : Key} (e : dKey d = some k) : d = kP k := by
  cases d <;> simp only [dKey, Option.some.injEq, reduceCtorEq] at e <;> subst e <;> rfl
theorem kP_dKeys : ∀ {ds : List D} {ks : List Key}, dKeys ds = some ks → ds = ks.map kP
  | [], ks, e => by cases e; rfl
  | d :: ds, ks, e => by
    simp only [dKeys] at e
    split at e
    · rename_i k ks' h1 h2
      cases e
      rw [List.map_cons, ← kP_dKey h1, ← kP_dKeys h2]
    · cases e
section
variable {M : Mm} {H : Hp}
theorem rd_kP {v : V} {k : Key} (r : RD M H v (kP k)) : v = kV k := by
  cases k <;> (cases r; rfl)
theorem rds_kP : ∀ {vs : List V} {ks : List Key}, RDs M H vs (ks.map kP) → vs = ks.map kV
  | _, [], r => by cases r; rfl
  | _, k :: ks, r => by
    cases r with
    | cons a t => rw [List.map_cons, ← rd_kP a, ← rds_kP t]
def RDo (M : Mm) (H : Hp) : Option V → Option D → Prop
  | some v, some d => RD M H v d
  | none, none => True
  | _, _ => False
theorem RDk.val (k : Key) : ∀ {kvs : List (Key × V)} {es : List (D × D)}, RDk M H kvs es → RDo M H (valV kvs k) (getK es k)
  | _, _, .nil => trivial
  | _, _, .cons (k := j) r t => by
    by_cases e : j = k
    · subst e
      rw [valV_pos rfl]
      unfold getK
      simp only [List.find?_cons, dKey_kP, decide_true, Option.map_some]
      exact r
    · rw [valV_neg e]
      have ih := RDk.val k t
      unfold getK at ih ⊢
      simp only [List.find?_cons, dKey_kP, Option.some.injEq, e, decide_false]
      exact ih
theorem RDt.val (k : List Key) : ∀ {kvs : List (List Key × V)} {es : List (D × D)}, RDt M H kvs es → RDo M H (valV kvs k) (getT es k)
  | _, _, .nil => trivial
  | _, _, .cons (k := j) r t => by
    by_cases e : j = k
    · subst e
      rw [valV_pos rfl]
      unfold getT
      simp only [List.find?_cons, tKey, dKeys_kP, decide_true, Option.map_some]
      exact r
    · rw [valV_neg e]
      have ih := RDt.val k t
      unfold getT at ih ⊢
      simp only [List.find?_cons, tKey, dKeys_kP, Option.some.injEq, e, decide_false]
      exact ih
theorem isT_rdk : ∀ {kvs : List (Key × V)} {es : List (D × D)}, RDk M H kvs es → isT es = false
  | _, _, .nil => rfl
  | _, _, .cons (k := k) r t => by cases k <;> rfl
theorem get_ok {x y : V} {es : List (D × D)} {k : D} {o : Option D} (rx : RR M H x (.dict es)) (ry : RD M H y k) (e : getD es k = some o) : ∃ a ov, x = .ref a ∧ DGet H a y ov ∧ RDo M H ov o := by
  rcases rx with ⟨a, kvs, rfl, ha, r⟩ | ⟨a, kvs, es', rfl, rfl, ha, r⟩
  · unfold getD at e
    rw [isT_rdk r] at e
    simp only [Bool.false_eq_true, if_false, Option.map_eq_some_iff] at e
    obtain ⟨k', e1, e2⟩ := e
    have := kP_dKey e1
    subst this
    rw [rd_kP ry]
    exact ⟨a, _, rfl, DGet.k ha, e2 ▸ r.val k'⟩
  · unfold getD at e
    simp only [isT, if_true] at e
    split at e
    · cases e
    rename_i e0
    simp only [Option.map_eq_some_iff, List.tail_cons] at e
    obtain ⟨k', e1, e2⟩ := e
    cases k with
    | tuple ds =>
      have e0 : callD ds = false := by simpa [bareK] using e0
      have := kP_dKeys (show dKeys ds = some k' from e1)
      subst this
      cases ry with
      | tup _ hb rb =>
        have hb := hb.plain e0
        rw [rds_kP rb] at hb
        exact ⟨a, _, rfl, .inr ⟨_, _, _, ha, rfl, hb, rfl⟩, e2 ▸ r.val k'⟩
    | _ => cases e1
end
def idxW (x y : W) (h : Hh) : Option (W × Hh) := match x, y with
  | .scr ns, .dat (.int i) => match atI ns i with
    | some n => ok (.int n) h
    | none => none
  | x, .dat k => match deref h x, k with
    | some (.list ds), .int i => match atI ds i with
      | some d => ok d h
      | none => none
    | some (.tuple ds), .int i => match atI ds i with
      | some d => ok d h
      | none => none
    | some (.str z), .int i => if z.length ≤ sizeLine then match atI z.cps.toList i with
        | some c => ok (.str ⟨#[c]⟩) h
        | none => none
      else none
    | some (.dict es), k => match getD es k with
      | some (some d) => ok d h
      | _ => none
    | _, _ => none
  | _, _ => none
section
variable {X : Cx}
def rIxDict : R2 := fun x y H Q => ∃ a v, x = .ref a ∧ DGet H a y (some v) ∧ Q v H
theorem ix_dict (hu : X.A.units + 1 < cLine) : IxR X rIxDict := by
  intro value slice pins s σ H x y v u Q I rx ry q hs
  obtain ⟨a, z, rfl, g, q⟩ := q
  obtain rfl : v = Value.ref a := rx
  have tis := dict_typeIs I g
  unfold subscriptTail
  refine wpAny_bind ?_
  rw [getitemInPython_of_ne tis.not_modules]
  refine wpAny_bind (wpAny_specialOf tis F.slot_dict_getitem.lookup ?_)
  have gi := d_getItem (A := X.A) (E := X.xe) hu I g ry fun w' s3 I3 rw' => (⟨z, H, I3, rw', q⟩ : EP X pins σ Q w' s3)
  have done : wpAny (model X.prog X.w) X.A (subscripted slice false (.ref a) u) (fun r s₃ => wpAny (model X.prog X.w) X.A (letTemporaryGo value (.ref a) r >>= fun _ => pure r) (EP X pins σ Q) X.xe s₃) X.xe s := by
    rw [hs]; exact wpAny_operating (wpAny_mono gi (fun r s₃ k => wpAny_bind (wpAny_letTemporaryGo (wpAny_pure k))) fun _ _ k => k)
  first | exact wpAny_pure (wpAny_bind done) | exact wpAny_bind (wpAny_pure (wpAny_bind done)) | exact wpAny_bind done
theorem scr_atI {ns : List Int} {i : Int} {n : Int} (e : atI ns i = some n) : atI (ns.map V.int) i = some (.int n) := by
  unfold atI at e ⊢
  rw [List.length_map]
  cases q : ixN ns.length i with
  | none => rw [q] at e; cases e
  | some j => rw [q] at e; simp only [Option.bind_some] at e ⊢; rw [List.getElem?_map, e]; rfl
theorem s_idx : Sem2 (fun x y H Q => rIx X.K x y H Q ∨ rIxDict x y H Q) idxW := by
  intro M H h x y wx wy Q rep rx ry c
  unfold idxW at c
  split at c
  · rename_i ns i
    obtain ⟨a, o, rfl, _, ha⟩ := rx
    cases (show RD M H _ _ from ry)
    split at c
    · rename_i n e
      exact .inl (.inl ⟨a, _, i, _, rfl, rfl, .inl (.inr ⟨o, ha⟩), scr_atI e, c.here rep (.int _)⟩)
    · exact c.no.elim
  · split at c
    · rename_i ds i e1 hn
      obtain ⟨a, xs, rfl, ha, qa⟩ := deref_rr rep rx e1
      cases (show RD M H _ _ from ry)
      split at c
      · rename_i d e
        obtain ⟨v, ev, rv⟩ := qa.atI e
        exact .inl (.inl ⟨a, _, i, v, rfl, rfl, .of ha, ev, c.here rep rv⟩)
      · exact c.no.elim
    · rename_i ds i e1 hn
      obtain ⟨a, xs, rfl, _, ha, qa⟩ := rr_tup (deref_rr rep rx e1)
      cases (show RD M H _ _ from ry)
      split at c
      · rename_i d e
        obtain ⟨v, ev, rv⟩ := qa.atI e
        exact .inl (.inr (.inl ⟨a, _, i, v, rfl, rfl, ha.sq, ev, c.here rep rv⟩))
      · exact c.no.elim
    · rename_i z i e1 hn
      obtain rfl := rr_str (deref_rr rep rx e1)
      cases (show RD M H _ _ from ry)
      split at c
      · rename_i hz
        split at c
        · rename_i d e
          exact .inl (.inr (.inr ⟨z, i, d, rfl, rfl, hz, e, c.here rep (.str _)⟩))
        · exact c.no.elim
      · exact c.no.elim
    · rename_i es e1 hn
      split at c
      · rename_i d e
        obtain ⟨a, ov, rfl, g, ro⟩ := get_ok (deref_rr rep rx e1) ry e
        cases ov with
        | none => exact ro.elim
        | some v => exact .inr ⟨a, v, rfl, g, c.here rep ro⟩
      · exact c.no.elim
    · exact c.no.elim
  · exact c.no.elim
theorem d_idx {k : Nat} (hr : Room k X.A) {a b : Expr} {pos : Pos} {f g : EM} (ha : DE X a f) (hb : DE X b g) (hs : PlainIx b) : DE X (.Subscript a b pos) (f2 idxW f g) :=
  (pe_ix (ix_seq.or (ix_dict (hu_of hr))) ha hb hs).weak (op_imp s_idx)
def cutG {α : Type} (xs : List α) (lo hi : Option Int) : List α := (xs.drop (HT.sIx xs.length 0 lo)).take (HT.sIx xs.length xs.length hi - HT.sIx xs.length 0 lo)
theorem RDs.cut {M : Mm} {H : Hp} {xs : List V} {ds : List D} (r : RDs M H xs ds) (lo hi : Option Int) : RDs M H (cutV xs lo hi) (cutG ds lo hi) := by
  unfold cutV cutG
  rw [r.length]
  exact (r.drop _).take _
def oNone : OM := fun _ h => some (none, h)
def oSome (f : EM) : OM := fun ρ h => obnd (f ρ h) fun w h1 => match w with
  | .dat (.int i) => some (some i, h1)
  | _ => none
abbrev DO (X : Cx) (e : Option Expr) (f : OM) : Prop := PO X e (tO f)
theorem _root_.L2.PO.weak {X : Cx} {e : Option Expr} {t t' : TO} (h : PO X e t) (i : ∀ σ H Q, t' σ H Q → t σ H Q) : PO X e t' := ⟨fun pins s σ H Q I q => h.run pins s σ H Q I (i σ H Q q)⟩
theorem do_none : DO X none oNone := po_none.weak fun σ H Q => by
  rintro ⟨M, h, ρ, r, rs, c⟩
  exact c.fin (.refl _ _) r rfl
theorem do_some {e : Expr} {f : EM} (he : DE X e f) : DO X (some e) (oSome f) := (po_some he).weak fun σ H Q => by
  rintro ⟨M, h, ρ, r, rs, c⟩
  obtain ⟨w, h1, e1, c1⟩ := Cont.bind (δ := Unit) c
  refine ⟨M, h, ρ, r, rs, w, h1, e1, fun M1 H1 v x1 r1 v1 => ?_⟩
  have c2 := c1 M1 H1 x1
  split at c2
  · cases v1; exact ⟨_, rfl, c2.fin (.refl _ _) r1 rfl⟩
  · exact c2.no.elim
def cutW (m : Bool) (x : W) (lo hi : Option Int) (h : Hh) : Option (W × Hh) := match x with
  | .scr ns => mkL m ((cutG ns lo hi).map .int) h
  | x => match deref h x with
    | some (.list ds) => mkL m (cutG ds lo hi) h
    | some (.tuple ds) => ok (.tuple (cutG ds lo hi)) h
    | some (.str z) => if z.length ≤ sizeLine then ok (.str (cutS z lo hi)) h else none
    | _ => none
def fSl (m : Bool) (f : EM) (lo hi : OM) : EM := fun ρ h => obnd (f ρ h) fun w h1 => obnd (lo ρ h1) fun a h2 => obnd (hi ρ h2) fun b h3 => cutW m w a b h3
theorem cut_ints (ns : List Int) (lo hi : Option Int) {M : Mm} {H : Hp} : RDs M H (cutV (ns.map V.int) lo hi) ((cutG ns lo hi).map .int) := by
  have e : cutV (ns.map V.int) lo hi = (cutG ns lo hi).map V.int := by
    unfold cutV cutG
    rw [List.length_map, List.map_take, List.map_drop]
  rw [e]
  generalize cutG ns lo hi = l
  induction l with
  | nil => exact .nil
  | cons a t ih => exact .cons (.int a) ih
theorem cut_whole {α : Type} {xs : List α} {lo hi : Option Int} (e : HT.sIx xs.length 0 lo = 0 ∧ HT.sIx xs.length xs.length hi = xs.length) : cutG xs lo hi = xs := by
  unfold cutG
  rw [e.1, e.2]
  simp
def rSlB (K : PySem.W.Frag) : V → Option Int → Option Int → Hp → VK → Prop := fun x lo hi H Q => ∃ a vs, x = .ref a ∧ SqT K H a vs ∧
  ((HT.sIx vs.length 0 lo = 0 ∧ HT.sIx vs.length vs.length hi = vs.length → Q (.ref a) H) ∧ ∃ bb : Bool, ∀ p o, H p = none → o.dict = none → Q (.ref p) (upd H p (bareO bb o (cutV vs lo hi))))
theorem sl_tupB : SlR X (rSlB X.K) := by
  rintro pins s σ H x v vl vu lo hi sl Q I rx hs pl pu ⟨a, vs, rfl, hx, f1, bb, f2⟩
  by_cases hw : HT.sIx vs.length 0 lo = 0 ∧ HT.sIx vs.length vs.length hi = vs.length
  · exact sl_tupA pins s σ H _ v vl vu lo hi sl Q I rx hs pl pu ⟨a, vs, rfl, hx, f1, fun n => absurd hw n⟩
  · cases rx
    obtain ⟨l, r, ht, hz⟩ := I.tuple hx
    have hn : l.toArray.size = vs.length := by rw [List.size_toArray, r.length]
    refine ⟨"tuple", _, PyProof.Rows.slot_tuple_getitem.lookup, ht.typeIs, HT.getItem_tuple_cut ht hs pl pu (by rwa [hn]) ?_ (by rwa [hn])⟩
    rw [hn]
    exact ⟨.ref s.heap.objs.size, _, I.laid (t' := s.toks) (o := bareO bb _ (cutV vs lo hi)) (fun _ _ q => Heap.get?_push_of_some _ q) (Nat.le_refl _)
      (bare_ok bb (Heap.get?_push_size _ rfl) fun G => ⟨Nat.le_trans (cutV_length vs lo hi) hz, _, (r.drop _).take _, IsTup.new _ _⟩), rfl, f2 _ _ (I.hok.fresh (Nat.le_refl _)) rfl⟩
theorem d_slice (m : Bool) {a : Expr} {lo hi : Option Expr} {p2 pos : Pos} {f : EM} {fl fh : OM} (ha : DE X a f) (hl : DO X lo fl) (hh : DO X hi fh) : DE X (.Subscript a (.Slice lo hi none p2) pos) (fSl m f fl fh) :=
  (pe_slice (sl_list.or (sl_tupB.or sl_str)) ha hl hh).weak fun σ H Q => by
    rintro ⟨M, h, ρ, r, rs, c⟩
    obtain ⟨w, h1, e1, c1⟩ := Cont.bind (δ := Unit) c
    refine ⟨M, h, ρ, r, rs, w, h1, e1, fun M1 H1 v x1 r1 v1 => ⟨M1, h1, ρ, r1, rs.mono x1, ?_⟩⟩
    obtain ⟨w2, h2, e2, c2⟩ := Cont.bind (δ := Unit) (c1 M1 H1 x1)
    refine ⟨w2, h2, e2, fun M2 H2 v2 x2 r2 q2 => ⟨M2, h2, ρ, r2, (rs.mono x1).mono x2, ?_⟩⟩
    subst q2
    obtain ⟨w3, h3, e3, c3⟩ := Cont.bind (δ := Unit) (c2 M2 H2 x2)
    refine ⟨w3, h3, e3, fun M3 H3 v3 x3 r3 q3 => ?_⟩
    subst q3
    have c4 := c3 M3 H3 x3
    have v3' := (v1.mono x2).mono x3
    unfold cutW at c4
    split at c4
    · obtain ⟨b, o, rfl, _, hb⟩ := v3'
      exact .inl ⟨b, _, rfl, .inl (.inr ⟨o, hb⟩), fun p np => mkL_fin r3 np (cut_ints _ _ _) c4⟩
    · split at c4
      · rename_i ds e4
        obtain ⟨b, xs, rfl, hb, qb⟩ := deref_rr r3 v3' e4
        exact .inl ⟨b, xs, rfl, .of hb, fun p np => mkL_fin r3 np (qb.cut _ _) c4⟩
      · rename_i ds e4
        obtain ⟨b, xs, rfl, nb, hb, qb⟩ := rr_tup (deref_rr r3 v3' e4)
        refine .inr (.inl ⟨b, xs, rfl, hb.sq, fun e => ?_, _, fun p o np ho => mkB_fin r3 np (qb.cut _ _) ho c4⟩)
        rw [qb.length] at e
        rw [cut_whole e] at c4
        exact c4.here r3 (.tup nb hb qb)
      · rename_i z e4
        obtain rfl := rr_str (deref_rr r3 v3' e4)
        split at c4
        · rename_i hz
          exact .inr (.inr ⟨z, rfl, hz, c4.here r3 (.str _)⟩)
        · exact c4.no.elim
      · exact c4.no.elim
def dats : List W → Option (List D)
  | [] => some []
  | .dat d :: ws => (dats ws).map (d :: ·)
  | _ :: _ => none
@[simp] theorem dats_nil : dats [] = some [] := rfl
@[simp] theorem dats_cons (d : D) (ws : List W) : dats (.dat d :: ws) = (dats ws).map (d :: ·) := rfl
theorem rvs_dats {M : Mm} {H : Hp} : ∀ {vs : List V} {ws : List W} {ds : List D}, RVs M H vs ws → dats ws = some ds → RDs M H vs ds
  | _, _, _, .nil, e => by cases e; exact .nil
  | _, .dat d :: ws, _, .cons a t, e => by
    simp only [dats_cons, Option.map_eq_some_iff] at e
    obtain ⟨ds', e1, rfl⟩ := e
    exact .cons a (rvs_dats t e1)
  | _, .ref n :: ws, _, .cons a t, e => by cases e
  | _, .scr n :: ws, _, .cons a t, e => by cases e
  | _, .pack n :: ws, _, .cons a t, e => by cases e
  | _, .lock n :: ws, _, .cons a t, e => by cases e
  | _, .ins C fs :: ws, _, .cons a t, e => by cases e
  | _, .exc k C fs :: ws, _, .cons a t, e => by cases e
def lstW (m : Bool) (ws : List W) (h : Hh) : Option (W × Hh) := match dats ws with
  | some ds => if ds.length ≤ sizeLine then mkL m ds h else none
  | none => none
def tupW (ws : List W) (h : Hh) : Option (W × Hh) := match dats ws with
  | some ds => if ds.length ≤ sizeLine then ok (.tuple ds) h else none
  | none => none
def fA (sem : List W → Hh → Option (W × Hh)) (g : AM) : EM := fun ρ h => obnd (g ρ h) sem
theorem d_lst (m : Bool) {es : List Expr} {pos : Pos} {g : AM} (hg : DA X es g) : DE X (.List es pos) (fA (lstW m) g) := (pe_lst hg).weak fun σ H Q => by
  rintro ⟨M, h, ρ, r, rs, c⟩
  obtain ⟨w, h1, e1, c1⟩ := Cont.bind (δ := Unit) c
  refine ⟨M, h, ρ, r, rs, w, h1, e1, fun M1 H1 v x1 r1 v1 => ?_⟩
  have c2 := c1 M1 H1 x1
  unfold lstW at c2
  split at c2
  · rename_i ds e
    have q := rvs_dats v1 e
    split at c2
    · rename_i hz
      exact ⟨by rw [q.length]; exact hz, fun p np => mkL_fin r1 np q c2⟩
    · exact c2.no.elim
  · exact c2.no.elim
def tTupB (t : TA) : TE := fun σ H Q => t σ H fun xs H1 => xs.length ≤ sizeLine ∧ ∃ b : Bool, ∀ p o, H1 p = none → o.dict = none → Q (.ref p) (upd H1 p (bareO b o xs))
theorem pe_tupB {x1} {es : List Expr} {t : TA} {pos : Pos} (h : PA X es t) : PE X (.Tuple es x1 pos) (tTupB t) := by
  constructor
  intro pins s σ H Q I hq
  apply wpAny_Tuple_spliced
  refine thn (h.run pos pins s σ H _ I hq) fun us s1 ⟨xs, H1, I1, r, z, b, q⟩ => ⟨r.length ▸ z, ?_⟩
  have hn := I1.hok.fresh (Nat.le_refl s1.heap.objs.size)
  exact ⟨.ref s1.heap.objs.size, _, I1.laid (t' := s1.toks) (o := bareO b _ xs) (fun _ _ e => Heap.get?_push_of_some _ e) (Nat.le_refl _) (bare_ok b (Heap.get?_push_size _ rfl) fun G => ⟨z, us, r, IsTup.new _ _⟩), rfl, q _ _ hn rfl⟩
theorem d_tup {x1} {es : List Expr} {pos : Pos} {g : AM} (hg : DA X es g) : DE X (.Tuple es x1 pos) (fA tupW g) := (pe_tupB hg).weak fun σ H Q => by
  rintro ⟨M, h, ρ, r, rs, c⟩
  obtain ⟨w, h1, e1, c1⟩ := Cont.bind (δ := Unit) c
  refine ⟨M, h, ρ, r, rs, w, h1, e1, fun M1 H1 v x1 r1 v1 => ?_⟩
  have c2 := c1 M1 H1 x1
  unfold tupW at c2
  split at c2
  · rename_i ds e
    have q := rvs_dats v1 e
    split at c2
    · rename_i hz
      exact ⟨by rw [q.length]; exact hz, callD ds, fun p o np ho => mkB_fin r1 np q ho c2⟩
    · exact c2.no.elim
  · exact c2.no.elim
end
end DL
set_option maxRecDepth 100000
set_option maxHeartbeats 4000000
namespace DL
open PySem PySem.Spec PyProof.Rows L2
def SemA (r : List V → Hp → VK → Prop) (sem : List W → Hh → Option (W × Hh)) : Prop := ∀ (M : Mm) (H : Hp) (h : Hh) (vs : List V) (ws : List W) (Q : VK), Rep M H h → RVs M H vs ws → Cont RV (sem ws h) M H Q → r vs H Q
theorem call_imp {r : List V → Hp → VK → Prop} {sem : List W → Hh → Option (W × Hh)} {g : AM} (hs : SemA r sem) : ∀ σ H Q, tE (fA sem g) σ H Q → tCB r (tA g) σ H Q := fun σ H Q => by
  rintro ⟨M, h, ρ, r, rs, c⟩
  obtain ⟨w, h1, e1, c1⟩ := Cont.bind (δ := Unit) c
  exact ⟨M, h, ρ, r, rs, w, h1, e1, fun M1 H1 v x1 r1 v1 => hs M1 H1 h1 v w Q r1 v1 (c1 M1 H1 x1)⟩
section
variable {X : Cx}
theorem d_callB {x : Str} {p pos : Pos} {e : Expr} {es : List Expr} {id : String} {r : List V → Hp → VK → Prop} {sem : List W → Hh → Option (W × Hh)} {g : AM} (hc : CallR X (.builtin id) r) (hs : SemA r sem) (hm : X.mg x = none) (hv : bootBuiltins x = some (.builtin id)) (ha : DA X (e :: es) g)
    (hg : Gl X x := by rfl) (hn : x ≠ "__name__" := by decide) (hdb : (x == ("__debug__" : Str)) = false := by decide) (he : starEach (e :: es) X.env = (false, eval e X.env) :: starEach es X.env := by rfl) (hpl : (backTo pos (starEach es X.env)).any (·.1) = false := by rfl) :
    DE X (.Call (.Name x p) (e :: es) [] pos) (fA sem g) := (pe_callB hc hg hm hv ha hn hdb he hpl).weak (call_imp hs)
theorem d_callT {x : Str} {p pos : Pos} {e : Expr} {es : List Expr} {T : String} {r : List V → Hp → VK → Prop} {sem : List W → Hh → Option (W × Hh)} {g : AM} (hc : CallR X (.type T) r) (hs : SemA r sem) (hm : X.mg x = none) (hv : bootBuiltins x = some (.type T)) (ha : DA X (e :: es) g)
    (hg : Gl X x := by rfl) (hn : x ≠ "__name__" := by decide) (hdb : (x == ("__debug__" : Str)) = false := by decide) (he : starEach (e :: es) X.env = (false, eval e X.env) :: starEach es X.env := by rfl) (hpl : (backTo pos (starEach es X.env)).any (·.1) = false := by rfl) :
    DE X (.Call (.Name x p) (e :: es) [] pos) (fA sem g) := (pe_callTy hc hg hm hv ha hn hdb he hpl).weak (call_imp hs)
theorem rvs1 {M : Mm} {H : Hp} {vs : List V} {w : W} (r : RVs M H vs [w]) : ∃ v, vs = [v] ∧ RV M H v w := by
  cases r with
  | cons a t => cases t; exact ⟨_, rfl, a⟩
theorem rvs2 {M : Mm} {H : Hp} {vs : List V} {w u : W} (r : RVs M H vs [w, u]) : ∃ v v', vs = [v, v'] ∧ RV M H v w ∧ RV M H v' u := by
  cases r with
  | cons a t => cases t with
    | cons b t => cases t; exact ⟨_, _, rfl, a, b⟩
def lenW (ws : List W) (h : Hh) : Option (W × Hh) := match ws with
  | [.scr ns] => ok (.int ns.length) h
  | [w] => match deref h w with
    | some (.list ds) => ok (.int ds.length) h
    | some (.tuple ds) => ok (.int ds.length) h
    | some (.str z) => if z.length ≤ sizeLine then ok (.int z.length) h else none
    | some (.dict es) => if isT es = true then none else ok (.int es.length) h
    | _ => none
  | _ => none
theorem RDk.length {M : Mm} {H : Hp} : ∀ {kvs : List (Key × V)} {es : List (D × D)}, RDk M H kvs es → kvs.length = es.length
  | _, _, .nil => rfl
  | _, _, .cons _ r => by rw [List.length_cons, List.length_cons, r.length]
theorem s_len : SemA (fun xs H Q => (∃ x n, xs = [x] ∧ LenV X.K x H n ∧ Q (.int n) H) ∨ ∃ d kvs, xs = [.ref d] ∧ H d = some (.dK kvs) ∧ Q (.int (kvs.length : Nat)) H) lenW := by
  intro M H h vs ws Q rep rv c
  unfold lenW at c
  split at c
  · rename_i ns
    obtain ⟨v, rfl, r⟩ := rvs1 rv
    obtain ⟨a, o, rfl, _, ha⟩ := r
    exact .inl ⟨_, ns.length, rfl, .inl ⟨_, .inl (.inr ⟨o, ha⟩), by simp⟩, c.here rep (.int _)⟩
  · obtain ⟨v, rfl, r⟩ := rvs1 rv
    split at c
    · rename_i ds e
      obtain ⟨a, xs, rfl, ha, q⟩ := deref_rr rep r e
      exact .inl ⟨_, ds.length, rfl, .inl ⟨_, .of ha, q.length.symm⟩, c.here rep (.int _)⟩
    · rename_i ds e
      obtain ⟨a, xs, rfl, _, ha, q⟩ := rr_tup (deref_rr rep r e)
      exact .inl ⟨_, ds.length, rfl, .inr ⟨_, ha.sq, q.length.symm⟩, c.here rep (.int _)⟩
    · rename_i z e
      obtain rfl := rr_str (deref_rr rep r e)
      split at c
      · rename_i hz
        exact .inl ⟨_, z.length, rfl, ⟨hz, rfl⟩, c.here rep (.int _)⟩
      · exact c.no.elim
    · rename_i es e
      split at c
      · exact c.no.elim
      · rename_i ht
        rcases deref_rr rep r e with ⟨a, kvs, rfl, ha, q⟩ | ⟨a, kvs, es', rfl, rfl, ha, q⟩
        · rw [← q.length] at c
          exact .inr ⟨a, kvs, rfl, ha, c.here rep (.int _)⟩
        · exact absurd rfl ht
    · exact c.no.elim
  · exact c.no.elim
theorem d_len (hm : X.mg "len" = none) {p pos : Pos} {e : Expr} {g : AM} (ha : DA X [e] g) (hg : Gl X "len" := by rfl) (he : starEach [e] X.env = (false, eval e X.env) :: starEach [] X.env := by rfl) (hpl : (backTo pos (starEach [] X.env)).any (·.1) = false := by rfl) : DE X (.Call (.Name "len" p) [e] [] pos) (fA lenW g) :=
  d_callB (call_len.or call_lenD) s_len hm boot_len ha hg (by decide) (by decide) he hpl
def absW (ws : List W) (h : Hh) : Option (W × Hh) := match ws with
  | [.dat (.int i)] => ok (.int (if i < 0 then -i else i)) h
  | _ => none
theorem s_abs : SemA (fun xs H Q => ∃ i, xs = [.int i] ∧ Q (.int (if i < 0 then -i else i)) H) absW := by
  intro M H h vs ws Q rep rv c
  unfold absW at c
  split at c
  · obtain ⟨v, rfl, r⟩ := rvs1 rv
    cases (show RD M H _ _ from r)
    exact ⟨_, rfl, c.here rep (.int _)⟩
  · exact c.no.elim
def intC (ws : List W) (h : Hh) : Option (W × Hh) := match ws with
  | [.dat (.int i)] => ok (.int i) h
  | [.dat (.bool b)] => ok (.int (if b = true then 1 else 0)) h
  | _ => none
theorem s_intC : SemA (fun xs H Q => (∃ i, xs = [.int i] ∧ Q (.int i) H) ∨ ∃ k, xs = [.bl k] ∧ Q (.int (if k then 1 else 0)) H) intC := by
  intro M H h vs ws Q rep rv c
  unfold intC at c
  split at c
  · obtain ⟨v, rfl, r⟩ := rvs1 rv
    cases (show RD M H _ _ from r)
    exact .inl ⟨_, rfl, c.here rep (.int _)⟩
  · obtain ⟨v, rfl, r⟩ := rvs1 rv
    cases (show RD M H _ _ from r)
    exact .inr ⟨_, rfl, c.here rep (.int _)⟩
  · exact c.no.elim
def maxW (ws : List W) (h : Hh) : Option (W × Hh) := match ws with
  | [.dat (.int i), .dat (.int j)] => ok (.int (if j > i then j else i)) h
  | _ => none
def minW (ws : List W) (h : Hh) : Option (W × Hh) := match ws with
  | [.dat (.int i), .dat (.int j)] => ok (.int (if j < i then j else i)) h
  | _ => none
def bools : List D → Option (List Bool)
  | [] => some []
  | .bool b :: ds => (bools ds).map (b :: ·)
  | _ :: _ => none
def intsD : List D → Option (List Int)
  | [] => some []
  | .int b :: ds => (intsD ds).map (b :: ·)
  | _ :: _ => none
theorem rds_bools {M : Mm} {H : Hp} : ∀ {vs : List V} {ds : List D} {bs : List Bool}, RDs M H vs ds → bools ds = some bs → vs = bs.map V.bl
  | _, _, _, .nil, e => by cases e; rfl
  | _, .bool b :: ds, _, .cons a t, e => by
    simp only [bools, Option.map_eq_some_iff] at e
    obtain ⟨bs', e1, rfl⟩ := e
    cases a
    rw [List.map_cons, ← rds_bools t e1]
  | _, .none :: ds, _, .cons a t, e => by cases e
  | _, .int _ :: ds, _, .cons a t, e => by cases e
  | _, .str _ :: ds, _, .cons a t, e => by cases e
  | _, .list _ :: ds, _, .cons a t, e => by cases e
  | _, .tuple _ :: ds, _, .cons a t, e => by cases e
  | _, .dict _ :: ds, _, .cons a t, e => by cases e
def lW {α : Type} (cv : List D → Option (List α)) (k : List α → D) (ws : List W) (h : Hh) : Option (W × Hh) := match ws with
  | [w] => match deref h w with
    | some (.list ds) => match cv ds with
      | some bs => ok (k bs) h
      | none => none
    | _ => none
  | _ => none
def allW := lW bools fun bs => .bool (bs.all id)
def anyW := lW bools fun bs => .bool (bs.any id)
def sumW := lW intsD fun bs => .int bs.sum
theorem s_lW {α : Type} {cv : List D → Option (List α)} {k : List α → D} {kv : List α → V} {em : α → V} (h1 : ∀ {M : Mm} {H : Hp} {vs : List V} {ds : List D} {bs : List α}, RDs M H vs ds → cv ds = some bs → vs = bs.map em) (h2 : ∀ M H bs, RD M H (kv bs) (k bs)) :
    SemA (fun vs H Q => ∃ (a : Addr) (bs : List α), vs = [V.ref a] ∧ SqL X.K H a (bs.map em) ∧ Q (kv bs) H) (lW cv k) := by
  intro M H h vs ws Q rep rv c
  unfold lW at c
  split at c
  · obtain ⟨v, rfl, r⟩ := rvs1 rv
    split at c
    · rename_i ds e
      obtain ⟨a, xs, rfl, ha, q⟩ := deref_rr rep r e
      split at c
      · rename_i bs e2
        have e3 := h1 q e2
        subst e3
        exact ⟨a, bs, rfl, .of ha, c.here rep (h2 _ _ _)⟩
      · exact c.no.elim
    · exact c.no.elim
  · exact c.no.elim
theorem s_all : SemA (rAll X.K) allW := s_lW rds_bools fun _ _ _ => .bl _
def tupleW (ws : List W) (h : Hh) : Option (W × Hh) := match ws with
  | [w] => match deref h w with
    | some (.list ds) => ok (.tuple ds) h
    | some (.tuple ds) => ok (.tuple ds) h
    | _ => none
  | _ => none
def rTupB (K : PySem.W.Frag) : List V → Hp → VK → Prop := fun xs H Q => ∃ p ys, xs = [.ref p] ∧ ((SqL K H p ys ∧ ∃ b : Bool, ∀ l o, H l = none → o.dict = none → Q (.ref l) (upd H l (bareO b o ys))) ∨ (SqT K H p ys ∧ Q (.ref p) H))
theorem call_tupB : CallR X (.type "tuple") (rTupB X.K) := by
  intro pins s σ H xs us Q I r h
  obtain ⟨p, ys, rfl, h⟩ := h
  obtain ⟨u, rfl, rx⟩ := vals1 r
  cases rx
  rcases h with ⟨hq, b, q⟩ | ⟨hq, q⟩
  · obtain ⟨its, r', pl, hz⟩ := I.list hq
    have hlen := r'.length
    apply call_tuple_list pl.isList _ (by simp only [List.size_toArray] <;> omega)
    intro h' kp
    have I1 : Inv X pins σ H { s with heap := h' } := I.kept (t' := s.toks) kp
    exact ⟨.ref h'.objs.size, _, I1.laid (t' := s.toks) (o := bareO b _ ys) (fun _ _ e => Heap.get?_push_of_some _ e) (Nat.le_refl _) (bare_ok b (Heap.get?_push_size _ rfl) fun G => ⟨hz, its, r', IsTup.new _ _⟩), rfl, q _ _ (I1.hok.fresh (Nat.le_refl _)) rfl⟩
  · obtain ⟨its, r', pl, hz⟩ := I.tuple hq
    exact call_tuple_same pl ⟨.ref p, H, I, rfl, q⟩
theorem s_tuple : SemA (rTupB X.K) tupleW := by
  intro M H h vs ws Q rep rv c
  unfold tupleW at c
  split at c
  · obtain ⟨v, rfl, r⟩ := rvs1 rv
    split at c
    · rename_i ds e
      obtain ⟨a, xs, rfl, ha, q⟩ := deref_rr rep r e
      exact ⟨a, xs, rfl, .inl ⟨.of ha, callD ds, fun l o nl ho => mkB_fin rep nl q ho c⟩⟩
    · rename_i ds e
      obtain ⟨a, xs, rfl, na, ha, q⟩ := rr_tup (deref_rr rep r e)
      exact ⟨a, xs, rfl, .inr ⟨ha.sq, c.here rep (.tup na ha q)⟩⟩
    · exact c.no.elim
  · exact c.no.elim
def listW (m : Bool) (ws : List W) (h : Hh) : Option (W × Hh) := match ws with
  | [w] => match deref h w with
    | some (.list ds) => mkL m ds h
    | some (.tuple ds) => mkL m ds h
    | _ => none
  | _ => none
theorem s_list (m : Bool) : SemA (fun xs H Q => ∃ p ys, xs = [.ref p] ∧ (SqL X.K H p ys ∨ SqT X.K H p ys) ∧ ∀ l, H l = none → Q (.ref l) (upd H l (.lst ys))) (listW m) := by
  intro M H h vs ws Q rep rv c
  unfold listW at c
  split at c
  · obtain ⟨v, rfl, r⟩ := rvs1 rv
    split at c
    · rename_i ds e
      obtain ⟨a, xs, rfl, ha, q⟩ := deref_rr rep r e
      exact ⟨a, xs, rfl, .inl (.of ha), fun l nl => mkL_fin rep nl q c⟩
    · rename_i ds e
      obtain ⟨a, xs, rfl, na, ha, q⟩ := rr_tup (deref_rr rep r e)
      exact ⟨a, xs, rfl, .inr ha.sq, fun l nl => mkL_fin rep nl q c⟩
    · exact c.no.elim
  · exact c.no.elim
def putK' (es : List (D × D)) (k : Key) (v : D) : List (D × D) := if (getK es k).isSome = true then es.map (fun e => if dKey e.1 = some k then (e.1, v) else e) else es ++ [(kP k, v)]
def pairsK : List D → Option (List (Key × D))
  | [] => some []
  | .tuple [k, v] :: ds => match dKey k, pairsK ds with
    | some k, some r => some ((k, v) :: r)
    | _, _ => none
  | _ :: _ => none
def mergeD (es : List (D × D)) (ps : List (Key × D)) : List (D × D) := ps.foldl (fun acc p => putK' acc p.1 p.2) es
section
variable {M : Mm} {H : Hp}
theorem RDo.some_iff {o : Option V} {p : Option D} (r : RDo M H o p) : o.isSome = p.isSome := by
  cases o <;> cases p <;> first | rfl | exact r.elim
theorem RDk.snoc {k : Key} {v : V} {d : D} (q : RD M H v d) : ∀ {kvs : List (Key × V)} {es : List (D × D)}, RDk M H kvs es → RDk M H (kvs ++ [(k, v)]) (es ++ [(kP k, d)])
  | _, _, .nil => .cons q .nil
  | _, _, .cons a t => .cons a (RDk.snoc q t)
theorem RDk.repl {k : Key} {v : V} {d : D} (q : RD M H v d) : ∀ {kvs : List (Key × V)} {es : List (D × D)}, RDk M H kvs es → RDk M H (kvs.map fun kv => if kv.1 = k then (kv.1, v) else kv) (es.map fun e => if dKey e.1 = some k then (e.1, d) else e)
  | _, _, .nil => .nil
  | _, _, .cons (k := j) a t => by
    simp only [List.map_cons, dKey_kP, Option.some.injEq]
    by_cases e : j = k
    · rw [if_pos e, if_pos e]; exact .cons q (RDk.repl q t)
    · rw [if_neg e, if_neg e]; exact .cons a (RDk.repl q t)
theorem RDk.put {kvs : List (Key × V)} {es : List (D × D)} (r : RDk M H kvs es) (k : Key) {v : V} {d : D} (q : RD M H v d) : RDk M H (putK kvs k v) (putK' es k d) := by
  unfold putK putK'
  rw [valV_any, (r.val k).some_iff]
  split
  · exact r.repl q
  · exact r.snoc q
theorem RDk.merge : ∀ {ps : List (Key × V)} {qs : List (Key × D)} {kvs : List (Key × V)} {es : List (D × D)}, Paired (fun p q => p.1 = q.1 ∧ RD M H p.2 q.2) ps qs → RDk M H kvs es → RDk M H (mergeK kvs ps) (mergeD es qs)
  | _, _, _, _, .nil, r => r
  | (k, v) :: ps, (k', d) :: qs, kvs, es, .cons ⟨e, q⟩ t, r => by
    have e' : k = k' := e
    subst e'
    show RDk M H (mergeK (putK kvs k v) ps) (mergeD (putK' es k d) qs)
    exact RDk.merge t (r.put k q)
theorem pairs_ok : ∀ {xs : List V} {ds : List D} {qs : List (Key × D)}, RDs M H xs ds → pairsK ds = some qs → ∃ (ps : List Addr) (kvs : List (Key × V)), xs = ps.map V.ref ∧ Paired (fun p kv => Rd H p (.tup [kV kv.1, kv.2])) ps kvs ∧ Paired (fun (p : Key × V) (q : Key × D) => p.1 = q.1 ∧ RD M H p.2 q.2) kvs qs
  | _, [], _, r, e => by
    cases e; cases r
    exact ⟨[], [], rfl, .nil, .nil⟩
  | _, d :: ds, qs, r, e => by
    unfold pairsK at e
    split at e
    · cases e
      rename_i h1
      cases h1
    · rename_i k v ds' h0
      cases h0
      split at e
      · rename_i k' r' e1 e2
        cases e
        cases r with
        | cons a t =>
          obtain ⟨ps, kvs, hx, h1, h2⟩ := pairs_ok t e2
          have := kP_dKey e1
          subst this
          cases a with
          | tup n ha ra =>
            cases ra with
            | cons rk rr =>
              cases rr with
              | cons rv rr =>
                cases rr
                have ha := ha.rd
                rw [rd_kP rk] at ha
                exact ⟨_ :: ps, (k', _) :: kvs, by rw [hx]; rfl, .cons ha h1, .cons ⟨rfl, rv⟩ h2⟩
      · cases e
    · cases e
end
def mkK (m : Bool) (es : List (D × D)) (h : Hh) : Option (W × Hh) := if m = true then some (.ref h.length, h ++ [some (.dic es)]) else some (.dat (.dict es), h)
theorem mkK_fin {m : Bool} {es : List (D × D)} {h : Hh} {M : Mm} {H : Hp} {Q : VK} {p : Addr} {kvs : List (Key × V)} (rep : Rep M H h) (n : H p = none) (r : RDk M H kvs es) (c : Cont RV (mkK m es h) M H Q) : Q (.ref p) (upd H p (.dK kvs)) := by
  cases m with
  | false => exact c.fin (ext_new n) (rep.upd_new n) (RD.dic (rep.new n) upd_same (r.mono (ext_new n).ext))
  | true => exact c.fin (ext_add n) (rep.add n ⟨kvs, upd_same, r.mono (ext_add n).ext⟩) ⟨p, by simp [Mm.more, ← rep.len], rfl⟩
def dictW (m : Bool) (ws : List W) (h : Hh) : Option (W × Hh) := match ws with
  | [w] => match deref h w with
    | some (.list ds) => match pairsK ds with
      | some qs => mkK m (mergeD [] qs) h
      | none => none
    | some (.dict es) => if isT es = true then none else mkK m es h
    | _ => none
  | _ => none
section
variable {X : Cx}
theorem s_dict (m : Bool) : SemA (fun xs H Q => (∃ (a : Addr) (ps : List Addr) (kvs : List (Key × V)), xs = [.ref a] ∧ SqL X.K H a (ps.map V.ref) ∧ Paired (fun p kv => SqT X.K H p [kV kv.1, kv.2]) ps kvs ∧
    ∀ p, H p = none → Q (.ref p) (upd H p (.dK (mergeK [] kvs)))) ∨ ∃ (a : Addr) (kvs : List (Key × V)), xs = [.ref a] ∧ Rd H a (.dK kvs) ∧ ∀ p, H p = none → Q (.ref p) (upd H p (.dK kvs))) (dictW m) := by
  intro M H h vs ws Q rep rv c
  unfold dictW at c
  split at c
  · obtain ⟨v, rfl, r⟩ := rvs1 rv
    split at c
    · rename_i ds e
      obtain ⟨a, xs, rfl, ha, q⟩ := deref_rr rep r e
      split at c
      · rename_i qs e2
        obtain ⟨ps, kvs, rfl, h1, h2⟩ := pairs_ok q e2
        exact .inl ⟨a, ps, kvs, rfl, .of ha, Paired.mapP h1 fun _ _ z => .inl z, fun p np => mkK_fin rep np (RDk.merge h2 .nil) c⟩
      · exact c.no.elim
    · rename_i es e
      split at c
      · exact c.no.elim
      · rename_i ht
        rcases deref_rr rep r e with ⟨a, kvs, rfl, ha, q⟩ | ⟨a, kvs, es', rfl, rfl, ha, q⟩
        · exact .inr ⟨a, kvs, rfl, .of ha, fun p np => mkK_fin rep np q c⟩
        · exact absurd rfl ht
    · exact c.no.elim
  · exact c.no.elim
def tyN : D → String
  | .none => "NoneType"
  | .bool _ => "bool"
  | .int _ => "int"
  | .str _ => "str"
  | .list _ => "list"
  | .tuple _ => "tuple"
  | .dict _ => "dict"
def isN (n t : String) : Bool := decide (n = t) || (decide (n = "bool") && decide (t = "int"))
def isT1 (t : String) (d : D) : Bool := isN (tyN d) t
theorem kitN : ∀ n ∈ ["NoneType", "bool", "int", "str", "list", "tuple", "dict"], ∀ t ∈ ["bool", "int", "str", "list", "tuple", "dict"], kitB n t = some (isN n t) := by decide +kernel
theorem rr_ty {K : PySem.W.Frag} {M : Mm} {H : Hp} {v : V} : ∀ {d : D}, (∀ es, d = .dict ((.none, .none) :: es) → False) → RR M H v d → TyX K H v (.type (tyN d))
  | .none, _, r => by rw [rr_non r]; exact .base .non
  | .bool b, _, r => by rw [rr_bl r]; exact .base (.bl b)
  | .int b, _, r => by rw [rr_int r]; exact .base (.int b)
  | .str b, _, r => by rw [rr_str r]; exact .base (.str b)
  | .list b, _, ⟨a, xs, e, h, _⟩ => by rw [e]; exact .base (.lst h)
  | .tuple b, _, r => by
    obtain ⟨a, xs, e, _, h, _⟩ := rr_tup r
    rw [e]
    rcases h with ⟨_, h⟩ | ⟨_, o, _, h⟩
    · exact .base (.tup h)
    · exact .fTuple h
  | .dict b, _, .inl ⟨a, xs, e, h, _⟩ => by rw [e]; exact .base (.dK h)
  | .dict b, n0, .inr ⟨a, xs, es, e0, e, h, _⟩ => by subst e0; exact (n0 _ rfl).elim
theorem kit1 (t : String) (ht : t = "int" ∨ t = "bool" ∨ t = "str" ∨ t = "list" ∨ t = "tuple" ∨ t = "dict") (d : D) : kitB (tyN d) t = some (isT1 t d) := by
  refine kitN (tyN d) ?_ t ?_
  · cases d <;> simp [tyN]
  · rcases ht with rfl | rfl | rfl | rfl | rfl | rfl <;> simp
def isiW (ts : List String) (w : W) (h : Hh) : Option (W × Hh) := match deref h w with
  | some (.dict ((.none, .none) :: _)) => none
  | some d => bok (ts.any fun t => isT1 t d) h
  | none => none
def f1 (sem : W → Hh → Option (W × Hh)) (f : EM) : EM := fun ρ h => obnd (f ρ h) sem
theorem d_isi (hm : X.mg "isinstance" = none) {t : Str} {T : String} (hmt : X.mg t = none) (hv : bootBuiltins t = some (.type T)) (ht : T = "int" ∨ T = "bool" ∨ T = "str" ∨ T = "list" ∨ T = "tuple" ∨ T = "dict") {p pt pos : Pos} {e : Expr} {f : EM} (he : DE X e f)
    (hg : Gl X "isinstance" := by rfl) (hgt : Gl X t := by rfl) (hnt : t ≠ "__name__" := by decide) (hdt : (t == ("__debug__" : Str)) = false := by decide)
    (h1 : starEach [e, .Name t pt] X.env = (false, eval e X.env) :: starEach [.Name t pt] X.env := by rfl) (h2 : starEach [.Name t pt] X.env = (false, eval (.Name t pt) X.env) :: starEach [] X.env := by rfl)
    (hpl : (backTo pos (starEach [.Name t pt] X.env)).any (·.1) = false := by rfl) : DE X (.Call (.Name "isinstance" p) [e, .Name t pt] [] pos) (f1 (isiW [T]) f) :=
  (pe_callB call_isi hg hm boot_isinstance (pa_cons he (pa_cons (pe_bltn (v := .ty T) hgt hmt hv rfl hnt hdt) pa_nil h2) h1) (by decide) (by decide) h1 hpl).weak fun σ H Q => by
    rintro ⟨M, h, ρ, r, rs, c⟩
    obtain ⟨w, h1, e1, c1⟩ := Cont.bind (δ := Unit) c
    refine ⟨M, h, ρ, r, rs, w, h1, e1, fun M1 H1 v x1 r1 v1 => ?_⟩
    have c2 := c1 M1 H1 x1
    unfold isiW at c2
    split at c2
    · exact c2.no.elim
    · rename_i d n0 e
      have q := c2.here r1 (.bl _)
      refine ⟨v, .ty T, _, _, _, rfl, .ty T, (rr_ty n0 (deref_rr r1 v1 e)), kit_ty (kit1 T ht d), ?_⟩
      simpa using q
    · exact c2.no.elim
theorem d_isi2 (hm : X.mg "isinstance" = none) {t t' : Str} {T T' : String} (hmt : X.mg t = none) (hv : bootBuiltins t = some (.type T)) (ht : T = "int" ∨ T = "bool" ∨ T = "str" ∨ T = "list" ∨ T = "tuple" ∨ T = "dict") (hmt' : X.mg t' = none) (hv' : bootBuiltins t' = some (.type T')) (ht' : T' = "int" ∨ T' = "bool" ∨ T' = "str" ∨ T' = "list" ∨ T' = "tuple" ∨ T' = "dict") {p pt pt' ptt pos : Pos} {kt} {e : Expr} {f : EM} (he : DE X e f)
    (hg : Gl X "isinstance" := by rfl) (hgt : Gl X t := by rfl) (hnt : t ≠ "__name__" := by decide) (hdt : (t == ("__debug__" : Str)) = false := by decide) (hgt' : Gl X t' := by rfl) (hnt' : t' ≠ "__name__" := by decide) (hdt' : (t' == ("__debug__" : Str)) = false := by decide)
    (h1 : starEach [e, .Tuple [.Name t pt, .Name t' pt'] kt ptt] X.env = (false, eval e X.env) :: starEach [.Tuple [.Name t pt, .Name t' pt'] kt ptt] X.env := by rfl)
    (h2 : starEach [.Tuple [.Name t pt, .Name t' pt'] kt ptt] X.env = (false, eval (.Tuple [.Name t pt, .Name t' pt'] kt ptt) X.env) :: starEach [] X.env := by rfl)
    (h3 : starEach [.Name t pt, .Name t' pt'] X.env = (false, eval (.Name t pt) X.env) :: starEach [.Name t' pt'] X.env := by rfl) (h4 : starEach [.Name t' pt'] X.env = (false, eval (.Name t' pt') X.env) :: starEach [] X.env := by rfl)
    (hpl : (backTo pos (starEach [.Tuple [.Name t pt, .Name t' pt'] kt ptt] X.env)).any (·.1) = false := by rfl) : DE X (.Call (.Name "isinstance" p) [e, .Tuple [.Name t pt, .Name t' pt'] kt ptt] [] pos) (f1 (isiW [T, T']) f) :=
  (pe_callB call_isiT hg hm boot_isinstance (pa_cons he (pa_cons (pe_tup (pa_cons (pe_bltn (v := .ty T) hgt hmt hv rfl hnt hdt) (pa_cons (pe_bltn (v := .ty T') hgt' hmt' hv' rfl hnt' hdt') pa_nil h4) h3)) pa_nil h2) h1) (by decide) (by decide) h1 hpl).weak fun σ H Q => by
    rintro ⟨M, h, ρ, r, rs, c⟩
    obtain ⟨w, h1, e1, c1⟩ := Cont.bind (δ := Unit) c
    refine ⟨M, h, ρ, r, rs, w, h1, e1, fun M1 H1 v x1 r1 v1 => ⟨by show 2 ≤ sizeLine; decide, fun tp ntp => ?_⟩⟩
    have c2 := c1 M1 H1 x1
    unfold isiW at c2
    split at c2
    · exact c2.no.elim
    · rename_i d n0 e
      have r2 := r1.upd_new (o := .tup [.ty T, .ty T']) ntp
      have q := c2.fin (v := .bl _) (ext_new ntp) r2 (.bl _)
      refine ⟨v, tp, [.ty T, .ty T'], _, [.type T, .type T'], _, rfl, upd_same, .cons (.ty T) (.cons (.ty T') .nil), (rr_ty n0 (deref_rr r2 (v1.mono (ext_new ntp)) e)), ?_, q⟩
      refine kitAny_cons (kit_ty (kit1 T ht d)) (fun hb => kitAny_cons (r := isT1 T' d) (kit_ty (kit1 T' ht' d)) (fun hb' => by rw [hb']; rfl) (fun hb' => hb') |>.trans ?_) (fun hb => ?_)
      · simp [hb]
      · simp [hb]
    · exact c2.no.elim
end
end
end DL
set_option maxRecDepth 100000
set_option maxHeartbeats 4000000
namespace DL
open PySem PySem.Spec PyProof.Rows L2
def flatD : D → Bool
  | .none => true
  | .bool _ => true
  | .int _ => true
  | .str _ => true
  | _ => false
theorem rd_flat {M : Mm} {H : Hp} {v : V} {d : D} (r : RD M H v d) (f : flatD d = true) : flatV v = true := by
  cases d <;> first | (cases r; rfl) | cases f
theorem rds_flat {M : Mm} {H : Hp} : ∀ {vs : List V} {ds : List D}, RDs M H vs ds → ds.all flatD = true → vs.all flatV = true
  | _, _, .nil, _ => rfl
  | _, _, .cons a t, f => by
    rw [List.all_cons, Bool.and_eq_true] at f
    rw [List.all_cons, rd_flat a f.1, rds_flat t f.2]; rfl
theorem eqV_eqv {M : Mm} {H : Hp} {x y : V} {a b : D} (ra : RD M H x a) (rb : RD M H y b) (fa : flatD a = true) (fb : flatD b = true) : eqV x y = PyData.eqv a b := by
  cases a <;> cases b <;> first | (exfalso; simp [flatD] at fa; done) | (exfalso; simp [flatD] at fb; done) | (cases ra; cases rb; simp [eqV, PyData.eqv])
theorem inV_eq {M : Mm} {H : Hp} {x : V} {d : D} (r : RD M H x d) (f : flatD d = true) : ∀ {vs : List V} {ds : List D}, RDs M H vs ds → ds.all flatD = true → inV x vs = ds.any fun y => PyData.eqv y d
  | _, _, .nil, _ => rfl
  | _, _, .cons a t, q => by
    rw [List.all_cons, Bool.and_eq_true] at q
    have ih := inV_eq r f t q.2
    unfold inV at ih ⊢
    rw [List.any_cons, List.any_cons, ih, eqV_eqv a r q.1 f]
def inW (neg : Bool) (x y : W) (h : Hh) : Option (W × Hh) := match x with
  | .dat d => match deref h y with
    | some (.dict es) => match getD es d with
      | some o => bok (if neg = true then !o.isSome else o.isSome) h
      | none => none
    | some (.list ds) => if (flatD d && ds.all flatD) = true then bok (if neg = true then !ds.any (fun z => PyData.eqv z d) else ds.any fun z => PyData.eqv z d) h
      else if (shp d && shp (.list ds)) = true then bok (if neg = true then !ds.any (fun z => PyData.eqv z d) else ds.any fun z => PyData.eqv z d) h else none
    | some (.tuple ds) => if (flatD d && ds.all flatD) = true then bok (if neg = true then !ds.any (fun z => PyData.eqv z d) else ds.any fun z => PyData.eqv z d) h else none
    | some (.str z) => match d with
      | .str ⟨⟨[c]⟩⟩ => bok (if neg = true then !decide (c ∈ z.cps.toList) else decide (c ∈ z.cps.toList)) h
      | _ => none
    | _ => none
  | _ => none
section
variable {X : Cx}
def rInDict (neg : Bool) : R2 := fun y x H Q => ∃ a o, x = .ref a ∧ DGet H a y o ∧ Q (.bl (if neg = true then !o.isSome else o.isSome)) H
theorem op_inDict (hu : X.A.units + 1 < cLine) : OpR X (compareOp .In) (rInDict false) := by
  intro pins s σ H x y v u Q I rx ry q
  obtain ⟨a, o, rfl, g, q⟩ := q
  obtain rfl : u = Value.ref a := ry
  exact d_in hu I g rx fun s' I' => ⟨.bl _, H, I', rfl, q⟩
theorem op_notInDict (hu : X.A.units + 1 < cLine) : OpR X (compareOp .NotIn) (rInDict true) := by
  intro pins s σ H x y v u Q I rx ry q
  obtain ⟨a, o, rfl, g, q⟩ := q
  obtain rfl : u = Value.ref a := ry
  exact d_notIn hu I g rx fun s' I' => ⟨.bl _, H, I', rfl, q⟩
def rInA (K : PySem.W.Frag) (neg : Bool) : R2 := fun x y H Q => rIn K neg x y H Q ∨ rInDict neg x y H Q ∨
  (∃ d ds, Dp K H x d ∧ Dp K H y (.list ds) ∧ SeqAt.shaped d = true ∧ SeqAt.shaped (.list ds) = true ∧ Q (.bl (if neg = true then !ds.any (fun z => PyData.eqv z d) else ds.any fun z => PyData.eqv z d)) H) ∨
  ∃ c z, x = .str ⟨#[c]⟩ ∧ y = .str z ∧ Q (.bl (if neg = true then !decide (c ∈ z.cps.toList) else decide (c ∈ z.cps.toList))) H
theorem o_in {k : Nat} (hr : Room k X.A) : OpR X (compareOp .In) (rInA X.K false) :=
  op_in_seq.or ((op_inDict (hu_of hr)).or ((op_inD (Nat.lt_of_le_of_lt (Nat.add_le_add_left (by decide) _) (show X.A.units + 200 < cLine by have := hr.un; omega))).or op_in_sign))
theorem o_notin {k : Nat} (hr : Room k X.A) : OpR X (compareOp .NotIn) (rInA X.K true) :=
  op_notIn_seq.or ((op_notInDict (hu_of hr)).or ((op_notInD (Nat.lt_of_le_of_lt (Nat.add_le_add_left (by decide) _) (show X.A.units + 200 < cLine by have := hr.un; omega))).or op_notIn_sign))
theorem s_in (neg : Bool) : Sem2 (rInA X.K neg) (inW neg) := by
  intro M H h x y wx wy Q rep rx ry c
  unfold inW at c
  split at c
  · rename_i d
    split at c
    · rename_i es e
      split at c
      · rename_i o eo
        obtain ⟨a, ov, rfl, g, ro⟩ := get_ok (deref_rr rep ry e) rx eo
        refine .inr (.inl ⟨a, ov, rfl, g, ?_⟩)
        rw [ro.some_iff]
        exact c.here rep (.bl _)
      · exact c.no.elim
    · rename_i ds e
      obtain ⟨a, xs, rfl, ha, q⟩ := deref_rr rep ry e
      split at c
      · rename_i hz
        rw [Bool.and_eq_true] at hz
        refine .inl ⟨a, xs, rfl, .inl (.of ha), rd_flat rx hz.1, rds_flat q hz.2, ?_⟩
        rw [inV_eq rx hz.1 q hz.2]
        cases neg <;> exact c.here rep (.bl _)
      · split at c
        · rename_i hz
          rw [Bool.and_eq_true] at hz
          exact .inr (.inr (.inl ⟨d, ds, RD.dp rx (SeqAt.canLay_of_shaped hz.1), rr_dp (deref_rr rep ry e) (SeqAt.canLay_of_shaped hz.2), hz.1, hz.2, c.here rep (.bl _)⟩))
        · exact c.no.elim
    · rename_i ds e
      obtain ⟨a, xs, rfl, _, ha, q⟩ := rr_tup (deref_rr rep ry e)
      split at c
      · rename_i hz
        rw [Bool.and_eq_true] at hz
        refine .inl ⟨a, xs, rfl, .inr ha.sq, rd_flat rx hz.1, rds_flat q hz.2, ?_⟩
        rw [inV_eq rx hz.1 q hz.2]
        cases neg <;> exact c.here rep (.bl _)
      · exact c.no.elim
    · rename_i z e
      obtain rfl := rr_str (deref_rr rep ry e)
      split at c
      · rename_i ch
        cases (show RD M H _ _ from rx)
        exact .inr (.inr (.inr ⟨ch, z, rfl, rfl, c.here rep (.bl _)⟩))
      · exact c.no.elim
    · exact c.no.elim
  · exact c.no.elim
theorem d_in' {k : Nat} (hr : Room k X.A) {a b : Expr} {pos : Pos} {f g : EM} (ha : DE X a f) (hb : DE X b g) (hm : behindInMarks .In b = false := by rfl) : DE X (.Compare a [.In] [b] pos) (f2 (inW false) f g) := d_cmp (o_in hr) (s_in false) ha hb hm
theorem t_in {k : Nat} (hr : Room k X.A) {a b : Expr} {pos : Pos} {f g : EM} (ha : DE X a f) (hb : DE X b g) (hm : behindInMarks .In b = false := by rfl) : DT X (.Compare a [.In] [b] pos) (fB (f2 (inW false) f g)) := dt_of_cmp (o_in hr) (s_in false) ha hb hm
theorem t_notin {k : Nat} (hr : Room k X.A) {a b : Expr} {pos : Pos} {f g : EM} (ha : DE X a f) (hb : DE X b g) (hm : behindInMarks .NotIn b = false := by rfl) : DT X (.Compare a [.NotIn] [b] pos) (fB (f2 (inW true) f g)) := dt_of_cmp (o_notin hr) (s_in true) ha hb hm
theorem collect_grown {prog : Program} {w : World} {A : Around} {E : Value → Shared → Prop} {s : Shared} {Q : List Value → Shared → Prop} (it : Addr) {T : String} {o : Obj} {its : Array Value} {n : Nat} (hT : T = "list" ∨ T = "tuple") (ho : s.heap.get? it = some o) (hc : o.cls = .type T) (hd : o.data = .seq its n) (hsz : its.size ≤ sizeLine)
    (hQ : ∀ h', s.heap.objs.size ≤ h'.objs.size → (∀ b o', s.heap.get? b = some o' → h'.get? b = some o') → Q its.toList { s with heap := h' }) : wpAny (model prog w) A (collect (.ref it)) Q E s := by
  let g0 : Heap := s.heap.push { cls := .type "list", data := .seq ([] : List Value).toArray }
  let g1 : Heap := g0.update s.heap.objs.size (Obj.mapSeq (· ++ its))
  have a0 : g0.get? s.heap.objs.size = some { cls := .type "list", data := .seq #[] 0 } := Heap.get?_push_size _ rfl
  have a1 : g1.get? s.heap.objs.size = _ := Heap.get?_update_self (Obj.mapSeq (· ++ its)) a0 rfl
  have last : wpAny (model prog w) A (match Value.ref s.heap.objs.size with
      | Value.ref a => do
        match (← load a).data with
          | Data.seq xs _ => pure xs.toList
          | _ => unsupported "internal:collect"
      | _ => unsupported "internal:collect") Q E { s with heap := g1 } := by
    show wpAny _ A (load s.heap.objs.size >>= _) _ _ _
    refine wpAny_bind (wpAny_load a1 (wpAny_pure ?_))
    have e : ((#[] : Array Value) ++ its).toList = its.toList := by simp
    show Q ((#[] : Array Value) ++ its).toList _
    rw [e]
    refine hQ g1 ?_ fun b o' hb => (Heap.get?_update_other _ _ (Nat.ne_of_gt (Heap.lt_size hb))).trans (Heap.get?_push_of_some _ hb)
    show _ ≤ (g0.update s.heap.objs.size (Obj.mapSeq (· ++ its))).objs.size
    rw [Heap.size_update, size_push']
    exact Nat.le_succ _
  unfold collect
  refine wpAny_bind (wpAny_runValue (codeAny_builtin F.entry_proto_collect ?_))
  rw [Around.under_plainId F.plain_proto_collect _]
  show wpAny _ A.in1 (newList [] >>= fun l => again (.builtin "list.__iadd__" ⟨[l, .ref it], []⟩)) _ _ s
  refine wpAny_bind (wpAny_newObj_type (wpAny_pure ⟨plainId_quiet F.plain_list_iadd _, codeAny_builtin F.entry_list_iadd ?_⟩))
  rw [Around.under_plainId F.plain_list_iadd _]
  show wpAny _ A.in1 (Builtin.List.listExtendWith (.ref s.heap.objs.size) (.ref it) (.ref s.heap.objs.size)) _ _ _
  refine wpAny_mono (wpAny_extend_seq (hsz := hsz) (A := A) (R := fun r s' => r = .ok (.ret (.ref s.heap.objs.size)) ∧ s' = { s with heap := g1 }) (s := { s with heap := g0 }) _ it _ 0 hT a0 (Heap.get?_push_of_some _ ho) hc hd ⟨rfl, rfl⟩) (fun fin s' q => ?_) fun e s' q => absurd q.1 (by simp)
  cases fin with
  | done f => obtain ⟨e, rfl⟩ := q; cases e; exact last
  | again c' => exact ⟨q.1, codeAny_mono q.2 fun r s2 hr => by obtain ⟨rfl, rfl⟩ := hr; exact last⟩
theorem sorted_any {prog : Program} {w : World} {A : Around} {E : Value → Shared → Prop} {s : Shared} {x : Value} {β : Type} {R : Value → β → Prop} {vs : List Value} {bs : List β} {enc : β → PyData} {Q : Value → Shared → Prop}
    (hcol : ∀ (Q' : List Value → Shared → Prop), (∀ h', s.heap.objs.size ≤ h'.objs.size → (∀ b o, s.heap.get? b = some o → h'.get? b = some o) → Q' vs { s with heap := h' }) → wpAny (model prog w) A.in1 (collect x) Q' E s)
    (e : PySem.W.EachIs R vs bs) (er : PySem.W.EachIs (fun v b => ∃ as, Reads s.heap v (enc b) as) vs bs) (hal : PySem.W.AllAlike (bs.map enc)) (hk : PySem.W.Sortable (bs.map enc)) (hL : bs.length ≤ sizeLine) (hu : ∀ b, b ∈ bs → A.units + 2 + (enc b).depth < cLine)
    (h : ∀ out p c h', (∀ b o, s.heap.get? b = some o → h'.get? b = some o) → s.heap.objs.size ≤ p → h'.get? p = some (seqObj "list" (List.toArray out) c) → PySem.W.EachIs R out (bs.mergeSort (PySem.W.dataLe false enc)) → Q (.ref p) { s with heap := h' }) :
    wpAny (model prog w) A (call (.builtin "sorted") [x]) Q E s := by
  refine call_function_entry_kw kind_sorted plain_sorted entry_sorted (args_sorted1 _) ?_
  have hv : vs.length ≤ sizeLine := by rw [e.length]; exact hL
  unfold Builtin.«sorted»
  refine wpAny_bind (m := checkCount "sorted" 1 1 _) (wpAny_pure (wpAny_bind (hcol _ fun g hg kg => wpAny_bind (wpAny_newList ?_ hv))))
  have at_ : (g.push (seqObj "list" vs.toArray 0)).get? g.objs.size = some (seqObj "list" vs.toArray 0) := Heap.get?_push_size _ rfl
  have up : ∀ b o, s.heap.get? b = some o → b ≠ g.objs.size ∧ (g.push (seqObj "list" vs.toArray 0)).get? b = some o := fun b o q => ⟨Nat.ne_of_lt (Heap.lt_size (kg b o q)), Heap.get?_push_of_some _ (kg b o q)⟩
  have er' : PySem.W.EachIs (fun v b => ∃ as, Reads (PySem.W.sortingHeap (g.push (seqObj "list" vs.toArray 0)) g.objs.size vs) v (enc b) as) vs bs := er.mono fun _ _ ⟨as, r⟩ => ⟨as, PyProof.Rows.Reads.keeps (fun b o q => PySem.W.sortingHeap_old (up b o q).1 (up b o q).2) r⟩
  refine wpAny_bind (wpAny_holding (wpAny_call_entry_kw slot_list_sort ⟨_, at_, rfl⟩ entry_list_sort ?_ (args_list_sort _)))
  refine PySem.W.list_sort_vals (s := { s with heap := g.push (seqObj "list" vs.toArray 0) }) at_ (PySem.W.SortsAt.data (s := { s with heap := PySem.W.sortingHeap (g.push (seqObj "list" vs.toArray 0)) g.objs.size vs }) (PySem.W.each_map (R := fun v d => ∃ as, Reads (PySem.W.sortingHeap (g.push (seqObj "list" vs.toArray 0)) g.objs.size vs) v d as) enc er') hal hk (PySem.W.bound_map (A := A.in1.in1) hu)) hv ?_
  refine ⟨_, rfl, wpAny_pure ⟨_, rfl, ?_⟩⟩
  obtain ⟨c, hc⟩ := sortedHeap_at (vs := vs) (out := (PySem.W.sortVals (PySem.W.dataKind (PySem.W.sortingHeap (g.push (seqObj "list" vs.toArray 0)) g.objs.size vs) (bs.map enc)) false vs vs).toArray) at_
  exact h _ _ c _ (fun b o q => by rw [sortedHeap_old (up b o q).1 (Heap.lt_size (up b o q).2)]; exact (up b o q).2) hg hc (PySem.W.sortVals_data false e er' hal)
def rSortedA (K : PySem.W.Frag) : List V → Hp → VK → Prop := fun vs H Q => ∃ (a : Addr) (bs : List (V × D)), vs = [.ref a] ∧ (SqL K H a (bs.map (·.1)) ∨ SqT K H a (bs.map (·.1))) ∧ (∀ b ∈ bs, Dp K H b.1 b.2) ∧ PySem.W.AllAlike (bs.map (·.2)) ∧ PySem.W.Sortable (bs.map (·.2)) ∧
  (∀ b ∈ bs, b.2.depth ≤ 64) ∧ ∀ p, H p = none → Q (.ref p) (upd H p (.lst ((bs.mergeSort (PySem.W.dataLe false (·.2))).map (·.1))))
theorem each_zip {I : Prop} {s : Shared} {K : PySem.W.Frag} {H : Hp} (rd : ∀ (d : D) (v : V) (u : Value), Dp K H v d → RelV v u → ∃ as, Reads s.heap u d as) : ∀ {bs : List (V × D)} {its : List Value}, Vals (bs.map (·.1)) its → (∀ b ∈ bs, Dp K H b.1 b.2) →
    PySem.W.EachIs (fun (u : Value) (b : V × D) => RelV b.1 u) its bs ∧ PySem.W.EachIs (fun (u : Value) (b : V × D) => ∃ as, Reads s.heap u b.2 as) its bs
  | [], _, r, _ => by cases r; exact ⟨.nil, .nil⟩
  | b :: bs, _, r, q => by
    cases r with
    | cons r1 r2 =>
      obtain ⟨h1, h2⟩ := each_zip (I := I) rd r2 fun b hb => q b (List.mem_cons_of_mem _ hb)
      exact ⟨.cons r1 h1, .cons (rd _ _ _ (q b List.mem_cons_self) r1) h2⟩
theorem each_vals : ∀ {out : List Value} {bs : List (V × D)}, PySem.W.EachIs (fun (u : Value) (b : V × D) => RelV b.1 u) out bs → Vals (bs.map (·.1)) out
  | _, _, .nil => .nil
  | _, _, .cons a t => .cons a (each_vals t)
theorem cr_sortedA {k : Nat} (hr : Room k X.A) : CallR X (.builtin "sorted") (rSortedA X.K) := by
  intro pins s σ H vs us Q I rv q
  obtain ⟨a, bs, rfl, hs, hd, hal, hk, hdep, q⟩ := q
  obtain rfl := Vals.ref1 rv
  obtain ⟨its, T, o, n, vl, ho, hc, hdat, hT, hz⟩ : ∃ (its : List Value) (T : String) (o : Obj) (n : Nat), Vals (bs.map (·.1)) its ∧ s.heap.get? a = some o ∧ o.cls = .type T ∧ o.data = .seq its.toArray n ∧ (T = "list" ∨ T = "tuple") ∧ (bs.map (·.1)).length ≤ sizeLine := by
    rcases hs with hs | hs
    · obtain ⟨its, vl, ⟨o, n, h1, h2, _, h3⟩, hz⟩ := I.list hs
      exact ⟨its, "list", o, n, vl, h1, h2, h3, .inl rfl, hz⟩
    · obtain ⟨its, vl, ⟨o, h1, h2, n, h3⟩, hz⟩ := I.tuple hs
      exact ⟨its, "tuple", o, n, vl, h1, h2, h3, .inr rfl, hz⟩
  have hl : bs.length ≤ sizeLine := by rw [List.length_map] at hz; exact hz
  obtain ⟨e1, e2⟩ := each_zip (I := True) (fun d v u => Dp.reads I d v u) vl hd
  refine sorted_any (x := .ref a) (vs := its) (bs := bs) (enc := (·.2)) (fun Q' k => collect_grown a hT ho hc hdat (by have := vl.length; simp only [List.size_toArray]; omega) fun h' hz kh => k h' hz kh) e1 e2 hal hk hl (fun b hb => by have := hr.un; have := hdep b hb; show X.A.units + 2 + b.2.depth < cLine; omega) fun out p c h' kp hp hD eo => ?_
  have vo := each_vals eo
  have hlen : ((bs.mergeSort (PySem.W.dataLe false (·.2))).map (·.1)).length ≤ sizeLine := by rw [List.length_map, List.length_mergeSort]; exact hl
  exact ⟨.ref p, upd H p (.lst ((bs.mergeSort (PySem.W.dataLe false (·.2))).map (·.1))), I.laid (t' := s.toks) kp hp ⟨hlen, out, c, vo, hD⟩, rfl, q p (I.hok.fresh hp)⟩
noncomputable def sortD (ds : List D) : List D := ds.mergeSort (PySem.W.dataLe false fun d => d)
def sortable (ds : List D) : Bool := (ds.all fun d => ds.all fun e => PySem.W.alike d e) && ((ds.all fun d => match d with | .tuple (_ :: _) => true | _ => false) || (ds.all fun d => match d with | .none => false | .tuple _ => false | _ => true)) && ds.all shp
noncomputable def sortW (m : Bool) (ws : List W) (h : Hh) : Option (W × Hh) := match ws with
  | [w] => match deref h w with
    | some (.list ds) => if sortable ds = true then mkL m (sortD ds) h else none
    | some (.tuple ds) => if sortable ds = true then mkL m (sortD ds) h else none
    | _ => none
  | _ => none
theorem rds_zip {M : Mm} {H : Hp} : ∀ {xs : List V} {ds : List D}, RDs M H xs ds → ∃ bs : List (V × D), xs = bs.map (·.1) ∧ ds = bs.map (·.2) ∧ ∀ b ∈ bs, RD M H b.1 b.2
  | _, _, .nil => ⟨[], rfl, rfl, fun b hb => by cases hb⟩
  | x :: xs, d :: ds, .cons a t => by
    obtain ⟨bs, e1, e2, q⟩ := rds_zip t
    refine ⟨(x, d) :: bs, by rw [e1]; rfl, by rw [e2]; rfl, fun b hb => ?_⟩
    rcases List.mem_cons.mp hb with rfl | hb
    · exact a
    · exact q b hb
theorem zip_rds {M : Mm} {H : Hp} : ∀ {bs : List (V × D)}, (∀ b ∈ bs, RD M H b.1 b.2) → RDs M H (bs.map (·.1)) (bs.map (·.2))
  | [], _ => .nil
  | b :: bs, q => .cons (q b List.mem_cons_self) (zip_rds fun c hc => q c (List.mem_cons_of_mem _ hc))
theorem sortable_ok {ds : List D} (h : sortable ds = true) : PySem.W.AllAlike ds ∧ PySem.W.Sortable ds ∧ ∀ d ∈ ds, shp d = true := by
  unfold sortable at h
  simp only [Bool.and_eq_true, Bool.or_eq_true, List.all_eq_true] at h
  obtain ⟨⟨h1, h2⟩, h3⟩ := h
  refine ⟨fun d hd d' hd' => h1 d hd d' hd', ?_, h3⟩
  rcases h2 with h2 | h2
  · refine .inl fun d hd => ?_
    have q := h2 d hd
    split at q
    · exact ⟨_, _, rfl⟩
    · cases q
  · refine .inr fun d hd => ⟨fun e => ?_, fun xs e => ?_⟩
    · subst e; exact absurd (h2 _ hd) (by simp)
    · subst e; exact absurd (h2 _ hd) (by simp)
theorem sort_imp {M : Mm} {H : Hp} {xs : List V} {ds : List D} {a : Addr} {m : Bool} {h : Hh} {Q : VK} (rep : Rep M H h) (q : RDs M H xs ds) (hs : SqL X.K H a xs ∨ SqT X.K H a xs) (hz : sortable ds = true) (c : Cont RV (mkL m (sortD ds) h) M H Q) : rSortedA X.K [.ref a] H Q := by
  obtain ⟨bs, rfl, rfl, qb⟩ := rds_zip q
  obtain ⟨h1, h2, h3⟩ := sortable_ok hz
  have h3' : ∀ b ∈ bs, shp b.2 = true := fun b hb => h3 _ (List.mem_map.mpr ⟨b, hb, rfl⟩)
  refine ⟨a, bs, rfl, hs, fun b hb => RD.dp (qb b hb) (SeqAt.canLay_of_shaped (h3' b hb)), h1, h2, fun b hb => SeqAt.depth_of_shaped (h3' b hb), fun p np => ?_⟩
  have e : sortD (bs.map (·.2)) = (bs.mergeSort (PySem.W.dataLe false (·.2))).map (·.2) := (PySem.W.sort_maps (r := PySem.W.dataLe false fun b : V × D => b.2) (s := PySem.W.dataLe false fun d : D => d) (fun b : V × D => b.2) (l := bs) fun _ _ _ _ => rfl).symm
  rw [e] at c
  exact mkL_fin rep np (zip_rds fun b hb => qb b ((List.mergeSort_perm bs _).mem_iff.mp hb)) c
theorem s_sorted (m : Bool) : SemA (rSortedA X.K) (sortW m) := by
  intro M H h vs ws Q rep rv c
  unfold sortW at c
  split at c
  · obtain ⟨v, rfl, r⟩ := rvs1 rv
    split at c
    · rename_i ds e
      obtain ⟨a, xs, rfl, ha, q⟩ := deref_rr rep r e
      split at c
      · rename_i hz
        exact sort_imp rep q (.inl (.of ha)) hz c
      · exact c.no.elim
    · rename_i ds e
      obtain ⟨a, xs, rfl, _, ha, q⟩ := rr_tup (deref_rr rep r e)
      split at c
      · rename_i hz
        exact sort_imp rep q (.inr ha.sq) hz c
      · exact c.no.elim
    · exact c.no.elim
  · exact c.no.elim
def isL (w : W) (h : Hh) : Bool := match deref h w with
  | some (.list _) => true
  | _ => false
def fM (chk : W → Hh → Bool) (sem : W → List W → Hh → Option (W × Hh)) (f : EM) (g : AM) : EM := fun ρ h => obnd (f ρ h) fun w h1 => if chk w h1 = true then obnd (g ρ h1) fun ws h2 => sem w ws h2 else none
def SemM (r : V → List V → Hp → VK → Prop) (sem : W → List W → Hh → Option (W × Hh)) : Prop := ∀ (M : Mm) (H : Hp) (h : Hh) (x : V) (w : W) (vs : List V) (ws : List W) (Q : VK), Rep M H h → RV M H x w → RVs M H vs ws → Cont RV (sem w ws h) M H Q → r x vs H Q
theorem isL_ty {K : PySem.W.Frag} {M : Mm} {H : Hp} {h : Hh} {v : V} {w : W} (rep : Rep M H h) (r : RV M H v w) (e : isL w h = true) : tyV K "list" v H := by
  unfold isL at e
  split at e
  · rename_i ds q
    obtain ⟨a, xs, rfl, ha, _⟩ := deref_rr rep r q
    exact .inl ⟨rfl, _, .of ha⟩
  · cases e
theorem meth_imp {K : PySem.W.Frag} {r : V → List V → Hp → VK → Prop} {sem : W → List W → Hh → Option (W × Hh)} {f : EM} {g : AM} (hs : SemM r sem) : ∀ σ H Q, tE (fM isL sem f g) σ H Q → tBM K "list" r (tE f) (tA g) σ H Q := fun σ H Q => by
  rintro ⟨M, h, ρ, r, rs, c⟩
  obtain ⟨w, h1, e1, c1⟩ := Cont.bind (δ := Unit) c
  refine ⟨M, h, ρ, r, rs, w, h1, e1, fun M1 H1 v x1 r1 v1 => ?_⟩
  have c2 := c1 M1 H1 x1
  split at c2
  · rename_i hl
    refine ⟨isL_ty r1 v1 hl, M1, h1, ρ, r1, rs.mono x1, ?_⟩
    obtain ⟨w2, h2, e2, c3⟩ := Cont.bind (δ := Unit) c2
    exact ⟨w2, h2, e2, fun M2 H2 v2 x2 r2 q2 => hs M2 H2 h2 _ w _ w2 Q r2 (v1.mono x2) q2 (c3 M2 H2 x2)⟩
  · exact c2.no.elim
theorem meth0_imp {K : PySem.W.Frag} {r : V → List V → Hp → VK → Prop} {sem : W → List W → Hh → Option (W × Hh)} {f : EM} (hs : SemM r sem) : ∀ σ H Q, tE (fM isL sem f fNil) σ H Q → tBM0 K "list" r (tE f) σ H Q := fun σ H Q => by
  rintro ⟨M, h, ρ, r, rs, c⟩
  obtain ⟨w, h1, e1, c1⟩ := Cont.bind (δ := Unit) c
  refine ⟨M, h, ρ, r, rs, w, h1, e1, fun M1 H1 v x1 r1 v1 => ?_⟩
  have c2 := c1 M1 H1 x1
  split at c2
  · rename_i hl
    exact ⟨isL_ty r1 v1 hl, hs M1 H1 h1 _ w _ [] Q r1 v1 .nil c2⟩
  · exact c2.no.elim
def lstAt (h : Hh) (n : Nat) : Option (List D) := match h[n]? with
  | some (some (.lst ds)) => some ds
  | _ => none
theorem lstAt_ok {M : Mm} {H : Hp} {h : Hh} {n : Nat} {ds : List D} {a : Addr} (rep : Rep M H h) (e : lstAt h n = some ds) (ea : M.m[n]? = some (some a)) : ∃ xs, H a = some (.lst xs) ∧ RDs M H xs ds := by
  obtain ⟨o, ho, ro⟩ := rep.at_ n a ea
  unfold lstAt at e
  rw [ho] at e
  cases o with
  | lst ds' => cases e; exact ro
  | dic _ => cases e
  | dit _ => cases e
  | tab _ _ => cases e
  | ins _ _ => cases e
def setL (h : Hh) (n : Nat) (ds : List D) (r : D) : Option (W × Hh) := some (.dat r, h.set n (some (.lst ds)))
theorem setL_fin {M : Mm} {H : Hp} {h : Hh} {n : Nat} {a : Addr} {ds : List D} {d : D} {ys : List V} {v : V} {Q : VK} (rep : Rep M H h) (ea : M.m[n]? = some (some a)) (q : RDs M H ys ds) (rv : RD M H v d) (c : Cont RV (setL h n ds d) M H Q) : Q v (upd H a (.lst ys)) :=
  c.fin (ext_set ea) (rep.set ea ⟨ys, upd_same, q.mono (ext_set ea).ext⟩) (rv.mono (ext_set ea).ext)
def appendW (w : W) (ws : List W) (h : Hh) : Option (W × Hh) := match w, ws with
  | .ref n, [.dat d] => match lstAt h n with
    | some ds => if ds.length < sizeLine then setL h n (ds ++ [d]) .none else none
    | none => none
  | _, _ => none
theorem s_append : SemM rAppend appendW := by
  intro M H h x w vs ws Q rep rx rv c
  unfold appendW at c
  split at c
  · rename_i n d
    obtain ⟨a, ea, rfl⟩ := rx
    obtain ⟨v, rfl, r⟩ := rvs1 rv
    split at c
    · rename_i ds e
      obtain ⟨xs, ha, q⟩ := lstAt_ok rep e ea
      split at c
      · rename_i hz
        exact ⟨a, xs, v, rfl, rfl, ha, by rw [q.length]; exact hz, setL_fin rep ea (q.app (.cons r .nil)) .non c⟩
      · exact c.no.elim
    · exact c.no.elim
  · exact c.no.elim
def insertW (w : W) (ws : List W) (h : Hh) : Option (W × Hh) := match w, ws with
  | .ref n, [.dat (.int i), .dat d] => match lstAt h n with
    | some ds => if ds.length < sizeLine ∧ 0 ≤ i ∧ i < 1000000 then setL h n (ds.take i.toNat ++ [d] ++ ds.drop i.toNat) .none else none
    | none => none
  | _, _ => none
def popAtW (w : W) (ws : List W) (h : Hh) : Option (W × Hh) := match w, ws with
  | .ref n, [.dat (.int i)] => match lstAt h n with
    | some ds => if 0 ≤ i ∧ i < 1000000 then match ds[i.toNat]? with
        | some d => setL h n (ds.eraseIdx i.toNat) d
        | none => none
      else none
    | none => none
  | _, _ => none
theorem s_popAt : SemM rPopAt popAtW := by
  intro M H h x w vs ws Q rep rx rv c
  unfold popAtW at c
  split at c
  · rename_i n i
    obtain ⟨a, ea, rfl⟩ := rx
    obtain ⟨v, rfl, r⟩ := rvs1 rv
    cases (show RD M H _ _ from r)
    split at c
    · rename_i ds e
      obtain ⟨xs, ha, q⟩ := lstAt_ok rep e ea
      split at c
      · rename_i hz
        split at c
        · rename_i d ed
          obtain ⟨y, ey, ry⟩ := q.get ed
          have hlt : i < xs.length := by have := lt_of_get ey; omega
          exact ⟨a, xs, i, i.toNat, y, rfl, rfl, ha, by omega, by omega, seqIndex_of hz.1 hlt, ey, setL_fin rep ea (q.erase _) ry c⟩
        · exact c.no.elim
      · exact c.no.elim
    · exact c.no.elim
  · exact c.no.elim
def popW (w : W) (ws : List W) (h : Hh) : Option (W × Hh) := match w, ws with
  | .ref n, [] => match lstAt h n with
    | some ds => match ds[ds.length - 1]? with
        | some d => setL h n ds.dropLast d
        | none => none
    | none => none
  | _, _ => none
theorem RDs.dropLast {M : Mm} {H : Hp} {xs : List V} {ds : List D} (q : RDs M H xs ds) : RDs M H xs.dropLast ds.dropLast := by
  rw [List.dropLast_eq_take, List.dropLast_eq_take, q.length]; exact q.take _
theorem s_pop : SemM rPop popW := by
  intro M H h x w vs ws Q rep rx rv c
  unfold popW at c
  split at c
  · rename_i n
    obtain ⟨a, ea, rfl⟩ := rx
    cases rv
    split at c
    · rename_i ds e
      obtain ⟨xs, ha, q⟩ := lstAt_ok rep e ea
      split at c
      · rename_i d ed
        obtain ⟨y, ey, ry⟩ := q.get ed
        exact ⟨a, xs, y, rfl, rfl, ha, by rw [q.length]; exact ey, setL_fin rep ea q.dropLast ry c⟩
      · exact c.no.elim
    · exact c.no.elim
  · exact c.no.elim
end
end DL
set_option maxRecDepth 100000
set_option maxHeartbeats 4000000
namespace DL
open PySem PySem.Spec PyProof.Rows L2
abbrev TM := W → Env → Hh → Option Env
abbrev TMs := List D → Env → Hh → Option Env
def tGd (ts : List Nat) (g : TM) : TG := fun v σ H Q => ∃ M h ρ w ρ', Rep M H h ∧ RS M H ρ σ ∧ RV M H v w ∧ g w ρ h = some ρ' ∧ ∀ σ' : L2.St, RS M H ρ' σ' → σ'.length = σ.length → (∀ j, j ∉ ts → σ'[j]? = σ[j]?) → Q σ' H
def tGds (ts : List Nat) (g : TMs) : TGs := fun vs σ H Q => ∃ M h ρ ds ρ', Rep M H h ∧ RS M H ρ σ ∧ RDs M H vs ds ∧ g ds ρ h = some ρ' ∧ ∀ σ' : L2.St, RS M H ρ' σ' → σ'.length = σ.length → (∀ j, j ∉ ts → σ'[j]? = σ[j]?) → Q σ' H
abbrev DG (X : Cx) (tg : Expr) (ts : List Nat) (g : TM) : Prop := PG X tg (tGd ts g)
abbrev DGs (X : Cx) (tgs : List Expr) (ts : List Nat) (g : TMs) : Prop := PGs X tgs (tGds ts g)
theorem _root_.L2.PGs.weak {X : Cx} {e : List Expr} {t t' : TGs} (h : PGs X e t) (i : ∀ v σ H Q, t' v σ H Q → t v σ H Q) : PGs X e t' := ⟨fun pins s σ H v u Q I r q => h.run pins s σ H v u Q I r (i v σ H Q q)⟩
def gN (i : Nat) : TM := fun w ρ _ => some (ρ.set i (some w))
def gE : TMs := fun ds ρ _ => match ds with
  | [] => some ρ
  | _ => none
def gC (g : TM) (k : TMs) : TMs := fun ds ρ h => match ds with
  | d :: ds => match g (.dat d) ρ h with
    | some ρ' => k ds ρ' h
    | none => none
  | [] => none
def gT (n : Nat) (k : TMs) : TM := fun w ρ h => match deref h w with
  | some (.tuple ds) => if ds.length = n then k ds ρ h else none
  | some (.list ds) => if ds.length = n then k ds ρ h else none
  | _ => none
section
variable {X : Cx}
theorem dg_name (i : Nat) {x : Str} {pos : Pos} (h : PG X (.Name x pos) (gName i)) : DG X (.Name x pos) [i] (gN i) := h.weak fun v σ H Q => by
  rintro ⟨M, h, ρ, w, ρ', r, rs, rv, e, q⟩
  cases e
  exact q _ (rs.set rv) (by simp) fun j hj => List.getElem?_set_ne (fun z => hj (by simp [z]))
theorem dgs_nil : DGs X [] [] gE := pgs_nil.weak fun v σ H Q => by
  rintro ⟨M, h, ρ, ds, ρ', r, rs, rv, e, q⟩
  unfold gE at e
  split at e
  · cases e; cases rv; exact ⟨rfl, q σ rs rfl fun _ _ => rfl⟩
  · cases e
theorem dgs_cons {tg : Expr} {tgs : List Expr} {ts ts' : List Nat} {g : TM} {k : TMs} (h1 : DG X tg ts g) (h2 : DGs X tgs ts' k) (hs : (assignEach (tg :: tgs) X.env).map (·.2) = assign tg X.env :: (assignEach tgs X.env).map (·.2) := by rfl) : DGs X (tg :: tgs) (ts ++ ts') (gC g k) :=
  (pgs_cons h1 h2 hs).weak fun v σ H Q => by
    rintro ⟨M, h, ρ, ds, ρ', r, rs, rv, e, q⟩
    unfold gC at e
    split at e
    · rename_i d ds'
      split at e
      · rename_i ρ1 e1
        cases rv with
        | cons a t =>
          refine ⟨_, _, rfl, M, h, ρ, .dat d, ρ1, r, rs, a, e1, fun σ1 rs1 l1 o1 => ⟨M, h, ρ1, ds', ρ', r, rs1, t, e, fun σ2 rs2 l2 o2 => q σ2 rs2 (l2.trans l1) fun j hj => ?_⟩⟩
          rw [o2 j (fun z => hj (List.mem_append_right _ z)), o1 j (fun z => hj (List.mem_append_left _ z))]
      · cases e
    · cases e
theorem _root_.L2.PG.or {tg : Expr} {t t' : TG} (h : PG X tg t) (h' : PG X tg t') : PG X tg (fun v σ H Q => t v σ H Q ∨ t' v σ H Q) := ⟨fun pins s σ H v u Q I r q => q.elim (h.run pins s σ H v u Q I r) (h'.run pins s σ H v u Q I r)⟩
theorem dg_tup {tgs : List Expr} {k : Nat} {pos : Pos} {ts : List Nat} {g : TMs} {n : Nat} (hc : X.calm = true) (h : DGs X tgs ts g) (hn : (assignEach tgs X.env).length = n := by rfl) (hst : (assignEach tgs X.env).findIdx? (·.1) = none := by rfl) : DG X (.Tuple tgs k pos) ts (gT n g) :=
  ((pg_tup hc h hn hst).or (pg_unl hc h hn hst)).weak fun v σ H Q => by
    rintro ⟨M, h, ρ, w, ρ', r, rs, rv, e, q⟩
    unfold gT at e
    split at e
    · rename_i ds ed
      obtain ⟨a, xs, rfl, _, ha, qa⟩ := rr_tup (deref_rr r rv ed)
      split at e
      · rename_i hz
        exact .inl ⟨a, xs, rfl, ha.sq, by rw [qa.length]; exact hz, M, h, ρ, ds, ρ', r, rs, qa, e, q⟩
      · cases e
    · rename_i ds ed
      obtain ⟨a, xs, rfl, ha, qa⟩ := deref_rr r rv ed
      split at e
      · rename_i hz
        exact .inr ⟨a, xs, rfl, .of ha, by rw [qa.length]; exact hz, M, h, ρ, ds, ρ', r, rs, qa, e, q⟩
      · cases e
    · cases e
end
theorem Rep.grow {M : Mm} {H H' : Hp} {h : Hh} (r : Rep M H h) (s : Same H H') : Rep M H' h ∧ ExtE M M H H' := by
  have x : ExtE M M H H' := ⟨rfl, fun a o e => ⟨o, s a o e⟩, fun a o e _ => s a o e, fun _ m => .inl m, Nat.le_refl _, fun _ _ => rfl⟩
  refine ⟨⟨fun a m => ?_, r.len, r.inj, fun i a e => ?_, r.dead⟩, x⟩
  · obtain ⟨h1, o, e, ht⟩ := r.us a m
    exact ⟨h1, o, s a o e, ht⟩
  · obtain ⟨u, hu, ro⟩ := r.at_ i a e
    obtain ⟨z, hz⟩ := ro.some_
    exact ⟨u, hu, ro.move x.ext (by rw [hz]; exact s a z hz)⟩
theorem new_out {M : Mm} {H : Hp} (tr : ∀ a, M.Has a → ∃ o, H a = some o ∧ tpO o = false) {T : Addr} (n : H T = none) : ¬ M.Has T := fun z => by
  obtain ⟨o, e, _⟩ := tr T z
  rw [n] at e; cases e
theorem grow_ext {M : Mm} {H H' : Hp} (s : Same H H') : Ext M M H H' := ⟨fun _ m => .inl m, fun a o e => ⟨o, s a o e⟩, fun a o e _ => s a o e, fun _ m => .inl m, Nat.le_refl _, fun _ _ => .inl rfl⟩
def ItD (M : Mm) (H : Hp) (J : It) (ds : List D) : Prop := ∀ M1 H1, Ext M M1 H H1 → (∀ a, M1.Has a → ∃ o, H1 a = some o ∧ tpO o = false) → (∀ (i : Nat) (d : D), ds[i]? = some d → J.go i H1 ∧ ∀ x H2, J.yld i H1 x H2 → Same H1 H2 ∧ RD M1 H2 x d) ∧ J.stop ds.length H1
abbrev IM := Env → Hh → Option (List D × Hh)
def tI (g : IM) : TI := fun σ H R => ∃ M h ρ ds h', Rep M H h ∧ RS M H ρ σ ∧ g ρ h = some (ds, h') ∧ ∀ M' H' J, ExtE M M' H H' → Rep M' H' h' → ItD M' H' J ds → R J H'
abbrev DI (X : Cx) (tg it : Expr) (g : IM) : Prop := PI X tg it (tI g)
theorem _root_.L2.PI.or {X : Cx} {tg e : Expr} {t t' : TI} (h : PI X tg e t) (h' : PI X tg e t') : PI X tg e (fun σ H R => t σ H R ∨ t' σ H R) := ⟨fun pins s σ H R I q => q.elim (h.run pins s σ H R I) (h'.run pins s σ H R I)⟩
theorem same_refl' {H : Hp} : Same H H := fun _ _ e => e
theorem same_new {H : Hp} {p : Addr} {o : HO} (n : H p = none) : Same H (upd H p o) := fun b x e => by rw [upd_ne (ne_of_none e n)]; exact e
theorem itd_list {K : PySem.W.Frag} {M : Mm} {H : Hp} {a : Addr} {xs : List V} {ds : List D} (n : ¬ M.Has a) (ha : H a = some (.lst xs)) (q : RDs M H xs ds) : ItD M H (Itl K a) ds := fun M1 H1 x tr => by
  have ha1 := x.st n ha
  have q1 := q.mono x
  refine ⟨fun i d e => ?_, ⟨xs, .of ha1, by rw [q.length]; exact Nat.le_refl _⟩⟩
  obtain ⟨v, ev, rv⟩ := q1.get e
  refine ⟨⟨xs, v, .of ha1, ev⟩, fun y H2 hy => ?_⟩
  obtain ⟨e2, hy⟩ := hy
  subst e2
  have := hy xs (.of ha1)
  rw [ev] at this; cases this
  exact ⟨same_refl', rv⟩
theorem itd_tup {K : PySem.W.Frag} {M : Mm} {H : Hp} {a : Addr} {xs : List V} {ds : List D} (n : ¬ M.Has a) (ha : TupAt H a xs ds) (q : RDs M H xs ds) : ItD M H (Itt K a) ds := fun M1 H1 x tr => by
  have ha1 := (ha.to fun _ z => x.st n z).sq (K := K)
  have q1 := q.mono x
  refine ⟨fun i d e => ?_, ⟨xs, ha1, by rw [q.length]; exact Nat.le_refl _⟩⟩
  obtain ⟨v, ev, rv⟩ := q1.get e
  refine ⟨⟨xs, v, ha1, ev⟩, fun y H2 hy => ?_⟩
  obtain ⟨e2, hy⟩ := hy
  subst e2
  have := hy xs ha1
  rw [ev] at this; cases this
  exact ⟨same_refl', rv⟩
def seqI (f : EM) : IM := fun ρ h => obnd (f ρ h) fun w h1 => match w with
  | .dat (.list ds) => some (ds, h1)
  | .dat (.tuple ds) => some (ds, h1)
  | _ => none
section
variable {X : Cx} {tg : Expr}
theorem di_seq {e : Expr} {f : EM} (he : DE X e f) : DI X tg e (seqI f) := ((pi_list he).or (pi_tup he)).weak fun σ H R => by
  rintro ⟨M, h, ρ, ds, h', r, rs, e, q⟩
  unfold seqI at e
  cases ef : f ρ h with
  | none => rw [ef] at e; cases e
  | some p =>
    obtain ⟨w, h1⟩ := p
    rw [ef] at e
    simp only [obnd_some] at e
    split at e
    · cases e
      refine .inl ⟨M, h, ρ, r, rs, _, _, ef, fun M1 H1 v x1 r1 v1 => ?_⟩
      cases (show RD M1 H1 v _ from v1) with
      | lst n ha qa => exact ⟨_, rfl, ⟨_, .of ha⟩, q M1 H1 _ x1 r1 (itd_list n ha qa)⟩
    · cases e
      refine .inr ⟨M, h, ρ, r, rs, _, _, ef, fun M1 H1 v x1 r1 v1 => ?_⟩
      cases (show RD M1 H1 v _ from v1) with
      | tup n ha qa => exact ⟨_, rfl, ⟨_, ha.sq⟩, q M1 H1 _ x1 r1 (itd_tup n ha qa)⟩
    · cases e
def rngD (lo : Int) (n : Nat) : List D := (List.range n).map fun (i : Nat) => .int (lo + (i : Int))
theorem rngD_get {lo : Int} {n i : Nat} {d : D} (e : (rngD lo n)[i]? = some d) : i < n ∧ d = .int (lo + i) := by
  unfold rngD at e
  rw [List.getElem?_map] at e
  cases q : (List.range n)[i]? with
  | none => rw [q] at e; cases e
  | some j =>
    rw [q] at e
    obtain ⟨h1, h2⟩ := List.getElem?_eq_some_iff.mp q
    rw [List.length_range] at h1
    rw [List.getElem_range] at h2
    subst h2
    exact ⟨h1, by simpa using e.symm⟩
theorem itd_rng {M : Mm} {H : Hp} {lo : Int} {n : Nat} : ItD M H (Itr lo n) (rngD lo n) := fun M1 H1 x tr => by
  refine ⟨fun i d e => ?_, ?_⟩
  · obtain ⟨h1, rfl⟩ := rngD_get e
    exact ⟨h1, fun y H2 hy => by obtain ⟨e1, e2⟩ := hy; subst e1 e2; exact ⟨same_refl', .int _⟩⟩
  · show n ≤ _
    simp [rngD]
def rng1I (g : AM) : IM := fun ρ h => obnd (g ρ h) fun ws h1 => match ws with
  | [.dat (.int j)] => if -1000000000 ≤ j ∧ j ≤ 1000000000 then some (rngD 0 j.toNat, h1) else none
  | _ => none
def rng2I (g : AM) : IM := fun ρ h => obnd (g ρ h) fun ws h1 => match ws with
  | [.dat (.int i), .dat (.int j)] => if -1000000000 ≤ i ∧ i ≤ 1000000000 ∧ -1000000000 ≤ j ∧ j ≤ 1000000000 then some (rngD i (j - i).toNat, h1) else none
  | _ => none
theorem di_rng1 (hm : X.mg "range" = none) {a : Expr} {p pos : Pos} {g : AM} (ha : DA X [a] g) (hg : Gl X "range" := by rfl) (hs : starEach [a] X.env = [(false, eval a X.env)] := by rfl) : DI X tg (.Call (.Name "range" p) [a] [] pos) (rng1I g) := (pi_range1 hg hm ha hs).weak fun σ H R => by
  rintro ⟨M, h, ρ, ds, h', r, rs, e, q⟩
  unfold rng1I at e
  cases ef : g ρ h with
  | none => rw [ef] at e; cases e
  | some p =>
    obtain ⟨ws, h1⟩ := p
    rw [ef] at e
    simp only [obnd_some] at e
    split at e
    · split at e
      · rename_i hz
        cases e
        refine ⟨M, h, ρ, r, rs, _, _, ef, fun M1 H1 v x1 r1 v1 => ?_⟩
        obtain ⟨v, rfl, rv⟩ := rvs1 v1
        cases (show RD M1 H1 v _ from rv)
        exact ⟨_, rfl, by omega, by omega, q M1 H1 _ x1 r1 itd_rng⟩
      · cases e
    · cases e
def enumD : Nat → List D → List D
  | _, [] => []
  | i, d :: ds => .tuple [.int (i : Int), d] :: enumD (i + 1) ds
theorem enumD_get : ∀ {ds : List D} {k i : Nat} {d : D}, (enumD k ds)[i]? = some d → ∃ e, ds[i]? = some e ∧ d = .tuple [.int ((k + i : Nat) : Int), e]
  | [], _, _, _, e => by simp [enumD] at e
  | e :: ds, k, 0, d, h => by simp [enumD] at h; exact ⟨e, rfl, by rw [← h]; rfl⟩
  | e :: ds, k, i + 1, d, h => by
    obtain ⟨e', h1, h2⟩ := enumD_get (ds := ds) (k := k + 1) (i := i) (d := d) (by simpa [enumD] using h)
    exact ⟨e', by simpa using h1, by rw [h2, show k + 1 + i = k + (i + 1) by omega]⟩
theorem enumD_len : ∀ (k : Nat) (ds : List D), (enumD k ds).length = ds.length
  | _, [] => rfl
  | k, d :: ds => by simp [enumD, enumD_len (k + 1) ds]
theorem itd_enum {K : PySem.W.Frag} {M : Mm} {H : Hp} {a : Addr} {xs : List V} {ds : List D} (n : ¬ M.Has a) (ha : H a = some (.lst xs)) (q : RDs M H xs ds) : ItD M H (Ite K a) (enumD 0 ds) := fun M1 H1 x tr => by
  have ha1 := x.st n ha
  have q1 := q.mono x
  refine ⟨fun i d e => ?_, ⟨xs, .of ha1, by rw [q.length, enumD_len]; exact Nat.le_refl _⟩⟩
  obtain ⟨d', e', rfl⟩ := enumD_get e
  obtain ⟨v, ev, rv⟩ := q1.get e'
  refine ⟨⟨xs, v, .of ha1, ev⟩, fun y H2 hy => ?_⟩
  obtain ⟨T, z, rfl, nT, rfl, hz⟩ := hy
  have := hz xs (.of ha1)
  rw [ev] at this; cases this
  refine ⟨same_new nT, .tup (fun z => new_out tr nT z) (.inl ⟨rfl, upd_same⟩) (.cons ?_ (.cons (rv.mono (grow_ext (same_new nT))) .nil))⟩
  rw [Nat.zero_add]; exact .int _
def zipD : List D → List D → List D
  | x :: xs, y :: ys => .tuple [x, y] :: zipD xs ys
  | _, _ => []
theorem zipD_get : ∀ {xs ys : List D} {i : Nat} {d : D}, (zipD xs ys)[i]? = some d → ∃ x y, xs[i]? = some x ∧ ys[i]? = some y ∧ d = .tuple [x, y]
  | [], _, _, _, e => by simp [zipD] at e
  | _ :: _, [], _, _, e => by simp [zipD] at e
  | x :: xs, y :: ys, 0, d, e => by simp [zipD] at e; exact ⟨x, y, rfl, rfl, e.symm⟩
  | x :: xs, y :: ys, i + 1, d, e => by
    obtain ⟨a, b, h1, h2, h3⟩ := zipD_get (xs := xs) (ys := ys) (i := i) (d := d) (by simpa [zipD] using e)
    exact ⟨a, b, by simpa using h1, by simpa using h2, h3⟩
def notCall : D → Bool
  | .tuple l => !callD l
  | _ => true
def zipOk (xs ys : List D) : Bool := (zipD xs ys).all notCall
theorem zipOk_get {xs ys : List D} {i : Nat} {l : List D} (ok : zipOk xs ys = true) (e : (zipD xs ys)[i]? = some (.tuple l)) : callD l = false := by
  have := List.all_eq_true.mp ok _ (List.mem_of_getElem? e)
  simpa [notCall] using this
theorem zipD_len : ∀ (xs ys : List D), (zipD xs ys).length = min xs.length ys.length
  | [], _ => by simp [zipD]
  | _ :: _, [] => by simp [zipD]
  | x :: xs, y :: ys => by simp only [zipD, List.length_cons, zipD_len xs ys]; omega
theorem itd_zip {K : PySem.W.Frag} {M : Mm} {H : Hp} {a b : Addr} {xs ys : List V} {ds es : List D} (n : ¬ M.Has a) (ha : H a = some (.lst xs)) (q : RDs M H xs ds) (n' : ¬ M.Has b) (hb : H b = some (.lst ys)) (q' : RDs M H ys es) (ok : zipOk ds es = true) : ItD M H (Itz K a b) (zipD ds es) := fun M1 H1 x tr => by
  have ha1 := x.st n ha
  have hb1 := x.st n' hb
  refine ⟨fun i d e => ?_, ⟨xs, ys, .of ha1, .of hb1, by rw [q.length, q'.length, zipD_len]; omega⟩⟩
  obtain ⟨d1, d2, e1, e2, rfl⟩ := zipD_get e
  obtain ⟨v, ev, rv⟩ := (q.mono x).get e1
  obtain ⟨v', ev', rv'⟩ := (q'.mono x).get e2
  refine ⟨⟨xs, ys, v, v', .of ha1, .of hb1, ev, ev'⟩, fun y H2 hy => ?_⟩
  obtain ⟨T, z, z', rfl, nT, rfl, hz, hz'⟩ := hy
  have t1 := hz xs (.of ha1)
  rw [ev] at t1; cases t1
  have t2 := hz' ys (.of hb1)
  rw [ev'] at t2; cases t2
  exact ⟨same_new nT, .tup (fun z => new_out tr nT z) (.inl ⟨zipOk_get ok e, upd_same⟩) (.cons (rv.mono (grow_ext (same_new nT))) (.cons (rv'.mono (grow_ext (same_new nT))) .nil))⟩
theorem itd_zipT {K : PySem.W.Frag} {M : Mm} {H : Hp} {a b : Addr} {xs ys : List V} {ds es : List D} (n : ¬ M.Has a) (ha : TupAt H a xs ds) (q : RDs M H xs ds) (n' : ¬ M.Has b) (hb : TupAt H b ys es) (q' : RDs M H ys es) (ok : zipOk ds es = true) : ItD M H (RZ.ItzT K a b) (zipD ds es) := fun M1 H1 x tr => by
  have ha1 := (ha.to fun _ z => x.st n z).sq (K := K)
  have hb1 := (hb.to fun _ z => x.st n' z).sq (K := K)
  refine ⟨fun i d e => ?_, ⟨xs, ys, ha1, hb1, by rw [q.length, q'.length, zipD_len]; omega⟩⟩
  obtain ⟨d1, d2, e1, e2, rfl⟩ := zipD_get e
  obtain ⟨v, ev, rv⟩ := (q.mono x).get e1
  obtain ⟨v', ev', rv'⟩ := (q'.mono x).get e2
  refine ⟨⟨xs, ys, v, v', ha1, hb1, ev, ev'⟩, fun y H2 hy => ?_⟩
  obtain ⟨T, z, z', rfl, nT, rfl, hz, hz'⟩ := hy
  have t1 := hz xs ha1
  rw [ev] at t1; cases t1
  have t2 := hz' ys hb1
  rw [ev'] at t2; cases t2
  exact ⟨same_new nT, .tup (fun z => new_out tr nT z) (.inl ⟨zipOk_get ok e, upd_same⟩) (.cons (rv.mono (grow_ext (same_new nT))) (.cons (rv'.mono (grow_ext (same_new nT))) .nil))⟩
def zipI (g : AM) : IM := fun ρ h => obnd (g ρ h) fun ws h1 => match ws with
  | [.dat (.list ds), .dat (.list es)] => if zipOk ds es = true then some (zipD ds es, h1) else none
  | [.dat (.tuple ds), .dat (.tuple es)] => if zipOk ds es = true then some (zipD ds es, h1) else none
  | _ => none
theorem di_zip (hm : X.mg "zip" = none) {e e2 : Expr} {elts : List Expr} {kk : Nat} {p pos tpos : Pos} {g : AM} (ha : DA X [e, e2] g) (hg : Gl X "zip" := by rfl) (hs : starEach [e, e2] X.env = (false, eval e X.env) :: starEach [e2] X.env := by rfl) (hpl : (backTo pos (starEach [e2] X.env)).any (·.1) = false := by rfl) :
    DI X (.Tuple elts kk tpos) (.Call (.Name "zip" p) [e, e2] [] pos) (zipI g) := (RZ.pi_zipA hg hm ha hs hpl).weak fun σ H R => by
  rintro ⟨M, h, ρ, ds, h', r, rs, e, q⟩
  unfold zipI at e
  cases ef : g ρ h with
  | none => rw [ef] at e; cases e
  | some p =>
    obtain ⟨ws, h1⟩ := p
    rw [ef] at e
    simp only [obnd_some] at e
    split at e
    · split at e
      rotate_left
      · cases e
      rename_i ok
      cases e
      refine ⟨M, h, ρ, r, rs, _, _, ef, fun M1 H1 v x1 r1 v1 => ?_⟩
      obtain ⟨v, v', rfl, rv, rv'⟩ := rvs2 v1
      cases (show RD M1 H1 v _ from rv) with
      | lst n ha qa =>
        cases (show RD M1 H1 v' _ from rv') with
        | lst n' hb qb => exact ⟨_, _, _, _, rfl, .inl ⟨.of ha, .of hb, q M1 H1 _ x1 r1 (itd_zip n ha qa n' hb qb ok)⟩⟩
    · split at e
      rotate_left
      · cases e
      rename_i ok
      cases e
      refine ⟨M, h, ρ, r, rs, _, _, ef, fun M1 H1 v x1 r1 v1 => ?_⟩
      obtain ⟨v, v', rfl, rv, rv'⟩ := rvs2 v1
      cases (show RD M1 H1 v _ from rv) with
      | tup n ha qa =>
        cases (show RD M1 H1 v' _ from rv') with
        | tup n' hb qb => exact ⟨_, _, _, _, rfl, .inr ⟨ha.sq, hb.sq, q M1 H1 _ x1 r1 (itd_zipT n ha qa n' hb qb ok)⟩⟩
    · cases e
def signs (z : Str) : List D := z.cps.toList.map fun c => .str ⟨#[c]⟩
def strI (f : EM) : IM := fun ρ h => obnd (f ρ h) fun w h1 => match w with
  | .dat (.str z) => some (signs z, h1)
  | _ => none
end
end DL
set_option maxRecDepth 100000
set_option maxHeartbeats 4000000
namespace DL
open PySem PySem.Spec PyProof.Rows L2
def wipeE (ρ : Env) : List Nat → Env
  | [] => ρ
  | v :: vs => (wipeE ρ vs).set v none
theorem RS.none_at {M : Mm} {H : Hp} {ρ : Env} {σ : L2.St} (r : RS M H ρ σ) (i : Nat) : RS M H (ρ.set i none) (σ.set i none) := by
  refine ⟨by simp [r.1], fun j u e => ?_⟩
  by_cases hj : i = j
  · subst hj
    by_cases hi : i < ρ.length
    · rw [List.getElem?_set_self hi] at e; cases e
    · rw [List.getElem?_eq_none (by simpa using hi)] at e; cases e
  · rw [List.getElem?_set_ne hj] at e ⊢
    exact r.2 j u e
theorem RS.wipe {M : Mm} {H : Hp} {ρ : Env} {σ : L2.St} (r : RS M H ρ σ) : ∀ vs : List Nat, RS M H (wipeE ρ vs) (L2.wipe σ vs)
  | [] => r
  | v :: vs => (RS.wipe r vs).none_at v
theorem wipe_get (σ : L2.St) : ∀ (vs : List Nat) (j : Nat), (L2.wipe σ vs)[j]? = if j ∈ vs ∧ j < σ.length then some none else σ[j]?
  | [], j => by simp [L2.wipe]
  | v :: vs, j => by
    unfold L2.wipe
    by_cases hj : v = j
    · subst hj
      by_cases hl : v < σ.length
      · rw [List.getElem?_set_self (by rw [L2.wipe_length]; exact hl), if_pos ⟨List.mem_cons_self, hl⟩]
      · rw [List.getElem?_eq_none (by rw [List.length_set, L2.wipe_length]; omega), if_neg (fun z => hl z.2), List.getElem?_eq_none (by omega)]
    · rw [List.getElem?_set_ne hj, wipe_get σ vs j]
      have : j ∈ v :: vs ↔ j ∈ vs := by simp [Ne.symm hj]
      simp only [this]
theorem wipe_of {σ σ2 : L2.St} {ts vs : List Nat} (hl : σ2.length = σ.length) (ho : ∀ j, j ∉ ts → σ2[j]? = (L2.wipe σ vs)[j]?) (hs : ∀ j ∈ ts, j ∈ vs) : L2.wipe σ2 vs = L2.wipe σ vs := by
  refine List.ext_getElem? fun j => ?_
  rw [wipe_get, wipe_get, hl]
  by_cases h : j ∈ vs ∧ j < σ.length
  · rw [if_pos h, if_pos h]
  · rw [if_neg h, if_neg h]
    by_cases hj : j ∈ vs
    · have : σ.length ≤ j := Nat.le_of_not_lt fun z => h ⟨hj, z⟩
      rw [List.getElem?_eq_none (by omega), List.getElem?_eq_none this]
    · rw [ho j fun z => hj (hs j z), wipe_get, if_neg h]
def lcL (k : TM) (t : BM) (f : EM) (ρ : Env) : List D → Hh → Option (List D × Hh)
  | [], h => some ([], h)
  | d :: ds, h => match k (.dat d) ρ h with
    | some ρ1 => obnd (t ρ1 h) fun b h2 => if b = true then obnd (f ρ1 h2) fun w h3 => match w with
        | .dat d' => obnd (lcL k t f ρ ds h3) fun r h4 => some (d' :: r, h4)
        | _ => none
      else lcL k t f ρ ds h2
    | none => none
def fLc (m : Bool) (gi : IM) (k : TM) (t : BM) (f : EM) (vs : List Nat) : EM := fun ρ h => obnd (gi ρ h) fun ds h1 => obnd (lcL k t f (wipeE ρ vs) ds h1) fun r h2 => if r.length ≤ sizeLine then mkL m r h2 else none
def bYes : BM := fun _ h => some (true, h)
abbrev DTs (X : Cx) (ifs : List Expr) (t : BM) : Prop := PTs X ifs (tT t)
section
variable {X : Cx}
theorem _root_.L2.PTs.weak {X : Cx} {e : List Expr} {t t' : TT} (h : PTs X e t) (i : ∀ σ H Q, t' σ H Q → t σ H Q) : PTs X e t' := ⟨fun pins s σ H Q I q => h.run pins s σ H Q I (i σ H Q q)⟩
theorem dts_nil : DTs X [] bYes := pts_nil.weak fun σ H Q => by
  rintro ⟨M, h, ρ, r, rs, c⟩
  exact c.fin (.refl _ _) r rfl
theorem dts_one {c : Expr} {t : BM} (h : DT X c t) : DTs X [c] t := pts_one h
end
def Mm.made (M : Mm) (p : Addr) : Mm := ⟨p :: M.u, M.m⟩
theorem ext_made {M : Mm} {H : Hp} {p : Addr} {o : HO} (n : H p = none) : Ext M (M.made p) H (upd H p o) :=
  ⟨fun a m => by
    rcases List.mem_cons.mp m with rfl | m
    · exact .inr n
    · exact .inl m, trk_upd, fun a u e _ => by rw [upd_ne (ne_of_none e n)]; exact e, fun _ m => .inl m, Nat.le_refl _, fun _ _ => .inl rfl⟩
theorem Rep.make {M : Mm} {H : Hp} {h : Hh} (r : Rep M H h) {p : Addr} {o : HO} (n : H p = none) (ho : tpO o = false := by rfl) : Rep (M.made p) (upd H p o) h := by
  refine ⟨fun a m => ?_, r.len, r.inj, fun i a e => ?_, r.dead⟩
  · rcases List.mem_cons.mp m with rfl | m
    · exact ⟨fun z => r.new n (.inr z), o, upd_same, ho⟩
    · obtain ⟨h1, u, e, ht⟩ := r.us a m
      exact ⟨h1, u, by rw [upd_ne (ne_of_none e n)]; exact e, ht⟩
  · obtain ⟨u, hu, ro⟩ := r.at_ i a e
    obtain ⟨z, hz⟩ := ro.some_
    exact ⟨u, hu, ro.move (ext_made n) (upd_ne (ne_of_none hz n))⟩
mutual
theorem RD.off {M : Mm} {H : Hp} {p : Addr} {o : HO} (hp : p ∈ M.u) : ∀ {v : V} {d : D}, RD M H v d → RD M (upd H p o) v d
  | _, _, .non => .non
  | _, _, .bl b => .bl b
  | _, _, .int i => .int i
  | _, _, .str s => .str s
  | _, _, .tup n e r => .tup n (e.to fun _ q => by rw [upd_ne (fun z => n (.inl (by rw [z]; exact hp)))]; exact q) (RDs.off hp r)
  | _, _, .lst n e r => .lst n (by rw [upd_ne (fun z => n (.inl (by rw [z]; exact hp)))]; exact e) (RDs.off hp r)
  | _, _, .dic n e r => .dic n (by rw [upd_ne (fun z => n (.inl (by rw [z]; exact hp)))]; exact e) (RDk.off hp r)
  | _, _, .dit n e r => .dit n (by rw [upd_ne (fun z => n (.inl (by rw [z]; exact hp)))]; exact e) (RDt.off hp r)
theorem RDs.off {M : Mm} {H : Hp} {p : Addr} {o : HO} (hp : p ∈ M.u) : ∀ {v : List V} {d : List D}, RDs M H v d → RDs M (upd H p o) v d
  | _, _, .nil => .nil
  | _, _, .cons a r => .cons (RD.off hp a) (RDs.off hp r)
theorem RDk.off {M : Mm} {H : Hp} {p : Addr} {o : HO} (hp : p ∈ M.u) : ∀ {v : List (Key × V)} {d : List (D × D)}, RDk M H v d → RDk M (upd H p o) v d
  | _, _, .nil => .nil
  | _, _, .cons a r => .cons (RD.off hp a) (RDk.off hp r)
theorem RDt.off {M : Mm} {H : Hp} {p : Addr} {o : HO} (hp : p ∈ M.u) : ∀ {v : List (List Key × V)} {d : List (D × D)}, RDt M H v d → RDt M (upd H p o) v d
  | _, _, .nil => .nil
  | _, _, .cons a r => .cons (RD.off hp a) (RDt.off hp r)
end
theorem RO.off {M : Mm} {H : Hp} {p a : Addr} {o : HO} {m : MO} (hp : p ∈ M.u) (hn : a ≠ p) (r : RO M H a m) : RO M (upd H p o) a m := by
  cases m with
  | lst ds => obtain ⟨xs, h, r⟩ := r; exact ⟨xs, by rw [upd_ne hn]; exact h, r.off hp⟩
  | dic ds => obtain ⟨xs, h, r⟩ := r; exact ⟨xs, by rw [upd_ne hn]; exact h, r.off hp⟩
  | dit ds => obtain ⟨xs, h, r⟩ := r; exact ⟨xs, by rw [upd_ne hn]; exact h, r.off hp⟩
  | ins C fs => obtain ⟨dx, gs, h, r⟩ := r; exact ⟨dx, gs, by rw [upd_ne hn]; exact h, r.to fun _ _ => RD.off hp⟩
  | tab q P =>
    obtain ⟨z, ps, h, t, r⟩ := r
    refine ⟨z, ps, by rw [upd_ne hn]; exact h, t, fun pos cv hc => ?_⟩
    obtain ⟨c, e1, n, e2⟩ := r pos cv hc
    exact ⟨c, e1, n, by rw [upd_ne (fun z => n (.inl (by rw [z]; exact hp)))]; exact e2⟩
theorem Rep.off {M : Mm} {H : Hp} {h : Hh} (r : Rep M H h) {p : Addr} {o : HO} (hp : p ∈ M.u) (ho : tpO o = false := by rfl) : Rep M (upd H p o) h := by
  refine ⟨fun a m => ?_, r.len, r.inj, fun i a e => ?_, r.dead⟩
  · obtain ⟨h1, u, e, ht⟩ := r.us a m
    refine ⟨h1, ?_⟩
    by_cases z : a = p
    · subst z; exact ⟨o, upd_same, ho⟩
    · exact ⟨u, by rw [upd_ne z]; exact e, ht⟩
  · obtain ⟨u, hu, ro⟩ := r.at_ i a e
    exact ⟨u, hu, ro.off hp fun z => (r.us p hp).1 (by rw [← z]; exact List.mem_of_getElem? e)⟩
theorem RV.off {M : Mm} {H : Hp} {p : Addr} {o : HO} {v : V} (hp : p ∈ M.u) : ∀ {w : W}, RV M H v w → RV M (upd H p o) v w
  | .dat _, r => RD.off hp r
  | .ref _, r => r
  | .scr _, ⟨a, u, e, n, q⟩ => ⟨a, u, e, n, by rw [upd_ne (fun z => n (.inl (by rw [z]; exact hp)))]; exact q⟩
  | .pack _, ⟨a, u, e, n, q, r⟩ => ⟨a, u, e, n, by rw [upd_ne (fun z => n (.inl (by rw [z]; exact hp)))]; exact q, r.move (fun _ _ z => z) fun _ _ => RD.off hp⟩
  | .lock _, ⟨a, u, kvs, e, n, q, r⟩ => ⟨a, u, kvs, e, n, by rw [upd_ne (fun z => n (.inl (by rw [z]; exact hp)))]; exact q, r.off hp⟩
  | .ins _ _, ⟨a, u, gs, e, n, q, r⟩ => ⟨a, u, gs, e, n, by rw [upd_ne (fun z => n (.inl (by rw [z]; exact hp)))]; exact q, r.to fun _ _ => RD.off hp⟩
  | .exc _ _ _, ⟨a, d, gs, e, r⟩ => ⟨a, d, gs, e, r.to (fun _ _ _ n => n) (fun b _ q _ n => by rw [upd_ne (fun z => n (.inl (by rw [z]; exact hp)))]; exact q) fun _ _ => RD.off hp⟩
theorem RS.off {M : Mm} {H : Hp} {ρ : Env} {σ : L2.St} {p : Addr} {o : HO} (hp : p ∈ M.u) (r : RS M H ρ σ) : RS M (upd H p o) ρ σ := ⟨r.1, fun i w e => by
  obtain ⟨v, e1, q⟩ := r.2 i w e
  exact ⟨v, e1, q.off hp⟩⟩
theorem RV.moveu {M M' : Mm} {H H' : Hp} (x : Ext M M' H H') (hm : M'.m = M.m) {v : V} : ∀ {w : W}, RV M H v w → RV M' H' v w
  | .dat _, r => RD.mono x r
  | .ref n, ⟨a, e, r⟩ => ⟨a, by rw [hm]; exact e, r⟩
  | .scr ns, ⟨a, o, e, n, q⟩ => ⟨a, o, e, x.out n q, x.st n q⟩
  | .pack its, ⟨a, xs, e, n, q, r⟩ => ⟨a, xs, e, x.out n q, x.st n q, r.move (fun i b z => by rw [hm]; exact z) fun _ _ => RD.mono x⟩
  | .lock es, ⟨a, o, kvs, e, n, q, r⟩ => ⟨a, o, kvs, e, x.out n q, x.st n q, r.mono x⟩
  | .ins _ _, ⟨a, o, gs, e, n, q, r⟩ => ⟨a, o, gs, e, x.out n q, x.st n q, r.to fun _ _ => RD.mono x⟩
  | .exc _ _ _, ⟨a, d, gs, e, r⟩ => ⟨a, d, gs, e, r.to (fun _ _ q n => x.out n q) (fun _ _ q _ n => x.st n q) fun _ _ => RD.mono x⟩
theorem RS.moveu {M M' : Mm} {H H' : Hp} (x : Ext M M' H H') (hm : M'.m = M.m) {ρ : Env} {σ : L2.St} (r : RS M H ρ σ) : RS M' H' ρ σ := ⟨r.1, fun i w e => by
  obtain ⟨v, e1, q⟩ := r.2 i w e
  exact ⟨v, e1, q.moveu x hm⟩⟩
mutual
theorem RD.sub {M M' : Mm} {H : Hp} (x : ∀ a, M'.Has a → M.Has a) : ∀ {v : V} {d : D}, RD M H v d → RD M' H v d
  | _, _, .non => .non
  | _, _, .bl b => .bl b
  | _, _, .int i => .int i
  | _, _, .str s => .str s
  | _, _, .tup n e r => .tup (fun z => n (x _ z)) e (RDs.sub x r)
  | _, _, .lst n e r => .lst (fun z => n (x _ z)) e (RDs.sub x r)
  | _, _, .dic n e r => .dic (fun z => n (x _ z)) e (RDk.sub x r)
  | _, _, .dit n e r => .dit (fun z => n (x _ z)) e (RDt.sub x r)
theorem RDs.sub {M M' : Mm} {H : Hp} (x : ∀ a, M'.Has a → M.Has a) : ∀ {v : List V} {d : List D}, RDs M H v d → RDs M' H v d
  | _, _, .nil => .nil
  | _, _, .cons a r => .cons (RD.sub x a) (RDs.sub x r)
theorem RDk.sub {M M' : Mm} {H : Hp} (x : ∀ a, M'.Has a → M.Has a) : ∀ {v : List (Key × V)} {d : List (D × D)}, RDk M H v d → RDk M' H v d
  | _, _, .nil => .nil
  | _, _, .cons a r => .cons (RD.sub x a) (RDk.sub x r)
theorem RDt.sub {M M' : Mm} {H : Hp} (x : ∀ a, M'.Has a → M.Has a) : ∀ {v : List (List Key × V)} {d : List (D × D)}, RDt M H v d → RDt M' H v d
  | _, _, .nil => .nil
  | _, _, .cons a r => .cons (RD.sub x a) (RDt.sub x r)
end
theorem RO.sub {M M' : Mm} {H : Hp} {a : Addr} {m : MO} (x : ∀ a, M'.Has a → M.Has a) (r : RO M H a m) : RO M' H a m := by
  cases m with
  | lst ds => obtain ⟨xs, h, r⟩ := r; exact ⟨xs, h, r.sub x⟩
  | dic ds => obtain ⟨xs, h, r⟩ := r; exact ⟨xs, h, r.sub x⟩
  | dit ds => obtain ⟨xs, h, r⟩ := r; exact ⟨xs, h, r.sub x⟩
  | ins C fs => obtain ⟨dx, gs, h, r⟩ := r; exact ⟨dx, gs, h, r.to fun _ _ => RD.sub x⟩
  | tab q P =>
    obtain ⟨z, ps, h, t, r⟩ := r
    refine ⟨z, ps, h, t, fun pos cv hc => ?_⟩
    obtain ⟨c, e1, n, e2⟩ := r pos cv hc
    exact ⟨c, e1, fun z => n (x _ z), e2⟩
theorem less_has {u : List Addr} {m : List (Option Addr)} {p : Addr} : ∀ b, Mm.Has ⟨u, m⟩ b → Mm.Has ⟨p :: u, m⟩ b := fun b z => by
  rcases z with z | z
  · exact .inl (List.mem_cons_of_mem _ z)
  · exact .inr z
theorem Rep.told {u : List Addr} {m : List (Option Addr)} {p : Addr} {H : Hp} {h : Hh} (r : Rep ⟨p :: u, m⟩ H h) : Rep ⟨u, m⟩ H h :=
  ⟨fun a z => r.us a (List.mem_cons_of_mem _ z), r.len, r.inj, fun i a e => by
    obtain ⟨o, h1, h2⟩ := r.at_ i a e
    exact ⟨o, h1, h2.sub less_has⟩, r.dead⟩
theorem Rep.owned {u : List Addr} {m : List (Option Addr)} {p : Addr} {H : Hp} {h : Hh} {o : MO} (r : Rep ⟨p :: u, m⟩ H h) (hp : p ∉ u) (ro : RO ⟨p :: u, m⟩ H p o) : Rep ⟨u, m ++ [some p]⟩ H (h ++ [some o]) := by
  have hpm : some p ∉ m := (r.us p List.mem_cons_self).1
  have hsub : ∀ b, Mm.Has ⟨u, m ++ [some p]⟩ b → Mm.Has ⟨p :: u, m⟩ b := fun b z => by
    rcases z with z | z
    · exact .inl (List.mem_cons_of_mem _ z)
    · rcases List.mem_append.mp z with z | z
      · exact .inr z
      · have : b = p := by simpa using z
        rw [this]; exact .inl List.mem_cons_self
  have rl : m.length = h.length := r.len
  have cases_ : ∀ (i : Nat) (z : Option Addr), (m ++ [some p])[i]? = some z → (i < m.length ∧ m[i]? = some z) ∨ (i = m.length ∧ z = some p) := fun i z e => by
    by_cases hi : i < m.length
    · rw [List.getElem?_append_left hi] at e
      exact .inl ⟨hi, e⟩
    · rw [List.getElem?_append_right (by omega)] at e
      by_cases h0 : i - m.length = 0
      · rw [h0] at e
        exact .inr ⟨by omega, by simpa using e.symm⟩
      · rw [List.getElem?_eq_none (by simp; omega)] at e
        cases e
  refine ⟨fun a z => ?_, by simp [rl], fun i j a e1 e2 => ?_, fun i a e => ?_, fun i e => ?_⟩
  · obtain ⟨h1, q⟩ := r.us a (List.mem_cons_of_mem _ z)
    refine ⟨fun y => ?_, q⟩
    rcases List.mem_append.mp y with y | y
    · exact h1 y
    · have : a = p := by simpa using y
      rw [this] at z; exact hp z
  · rcases cases_ i _ e1 with ⟨h1, e1⟩ | ⟨h1, e1⟩ <;> rcases cases_ j _ e2 with ⟨h2, e2⟩ | ⟨h2, e2⟩
    · exact r.inj i j a e1 e2
    · cases e2; exact absurd (List.mem_of_getElem? e1) hpm
    · cases e1; exact absurd (List.mem_of_getElem? e2) hpm
    · omega
  · rcases cases_ i _ e with ⟨h1, e1⟩ | ⟨h1, e1⟩
    · obtain ⟨z, hz, q⟩ := r.at_ i a e1
      exact ⟨z, by rw [List.getElem?_append_left (by rw [← rl]; exact h1)]; exact hz, q.sub hsub⟩
    · cases e1
      subst h1
      exact ⟨o, by rw [rl]; simp, ro.sub hsub⟩
  · rcases cases_ i _ e with ⟨h1, e1⟩ | ⟨h1, e1⟩
    · rw [List.getElem?_append_left (by rw [← rl]; exact h1)]
      exact r.dead i e1
    · cases e1
theorem ExtE.reu {M M' : Mm} {H H' : Hp} (x : ExtE M M' H H') (u : List Addr) : ExtE ⟨u, M.m⟩ ⟨u, M'.m⟩ H H' := ⟨rfl, x.trk, x.stab, x.fresh, x.len, x.pre⟩
theorem ExtE.beside {M M' : Mm} {H H' : Hp} {p : Addr} {o : HO} (x : ExtE M M' H H') (n : H p = none) : ExtE M M' H (upd H' p o) :=
  ⟨x.same, fun a u e => by obtain ⟨u', e'⟩ := x.trk a u e; exact trk_upd a u' e', fun a u e na => by rw [upd_ne (ne_of_none e n)]; exact x.stab a u e na, x.fresh, x.len, x.pre⟩
theorem ExtE.into {M : Mm} {m : List (Option Addr)} {H H' : Hp} {p : Addr} (x : ExtE M ⟨M.u, m⟩ H H') (n : H p = none) : Ext M ⟨p :: M.u, m⟩ H H' :=
  ⟨fun a z => by
    rcases List.mem_cons.mp z with rfl | z
    · exact .inr n
    · exact .inl z, x.trk, x.stab, x.fresh, x.len, fun i hi => .inl (x.pre i hi)⟩
theorem lc_imp {gi : IM} {k : TM} {t : BM} {f : EM} {ts vs : List Nat} {m : Bool} (hs : ∀ j ∈ ts, j ∈ vs) : ∀ σ H Q, tE (fLc m gi k t f vs) σ H Q → tLc (tI gi) (tGd ts k) (tT t) (tE f) vs σ H Q := fun σ H Q => by
  rintro ⟨M, h, ρ, r, rs, c⟩
  obtain ⟨ds, h1, e1, c1⟩ := Cont.bind (δ := Unit) c
  refine ⟨M, h, ρ, ds, h1, r, rs, e1, fun M1 H1 J x1 r1 it D nD => ?_⟩
  obtain ⟨out, h2, e2, c2⟩ := Cont.bind (δ := Unit) (c1 M1 H1 x1)
  have x0 := ext_made (M := M1) (o := .lst []) nD
  have r0 := r1.make (o := .lst []) nD
  have rs0 : RS (M1.made D) (upd H1 D (.lst [])) (wipeE ρ vs) (L2.wipe σ vs) := ((rs.mono x1).moveu x0 rfl).wipe vs
  let P : Nat → Hp → Prop := fun i Hi => ∃ mi hi acc dacc rest, ExtE M1 ⟨M1.u, mi⟩ H1 Hi ∧ Rep ⟨D :: M1.u, mi⟩ Hi hi ∧ RS ⟨D :: M1.u, mi⟩ Hi (wipeE ρ vs) (L2.wipe σ vs) ∧ Hi D = some (.lst acc) ∧ RDs ⟨D :: M1.u, mi⟩ Hi acc dacc ∧ lcL k t f (wipeE ρ vs) (ds.drop i) hi = some (rest, h2) ∧ dacc ++ rest = out
  have outlen : out.length ≤ sizeLine := by
    have c3 := c2 M1 H1 (.refl _ _)
    by_cases hz : out.length ≤ sizeLine
    · exact hz
    · rw [if_neg hz] at c3; exact c3.no.elim
  refine ⟨fun i n Hi => n + i = ds.length ∧ P i Hi, ⟨ds.length, by omega, M1.m, h1, [], [], out, (ExtE.refl M1 H1).beside nD, r0, rs0, upd_same, .nil, by rw [List.drop_zero]; exact e2, rfl⟩, fun i n Hi w => ?_⟩
  obtain ⟨hn, mi, hi, acc, dacc, rest, xi, ri, rsi, hD, qa, el, eo⟩ := w
  have inD : D ∈ (⟨D :: M1.u, mi⟩ : Mm).u := List.mem_cons_self
  have itx := xi.into nD
  obtain ⟨ity, its⟩ := it _ Hi itx fun a ha => ri.tracked ha
  by_cases hlt : i < ds.length
  · refine .inr ?_
    have ed : ds[i]? = some ds[i] := List.getElem?_eq_getElem hlt
    obtain ⟨go, yl⟩ := ity i _ ed
    rw [List.drop_eq_getElem_cons hlt] at el
    refine ⟨go, P (i + 1), fun H' p => ⟨n - 1, by omega, by omega, p⟩, fun x H2 hy => ?_⟩
    obtain ⟨sm, rx⟩ := yl x H2 hy
    obtain ⟨ri2, xi2⟩ := ri.grow sm
    unfold lcL at el
    split at el
    · rename_i ρ1 ek
      refine ⟨_, hi, wipeE ρ vs, .dat ds[i], ρ1, ri2, rsi.mono xi2, rx, ek, fun σ2 rs2 l2 o2 => ⟨wipe_of (by rw [l2, L2.wipe_length]) o2 hs, ?_⟩⟩
      cases et : t ρ1 hi with
      | none => rw [et] at el; cases el
      | some pr =>
        obtain ⟨b, h3⟩ := pr
        rw [et] at el
        simp only [obnd_some] at el
        refine ⟨_, hi, ρ1, ri2, rs2, b, h3, et, fun M3 H3 b' x3 r3 eb => ?_⟩
        subst eb
        obtain ⟨u3, m3⟩ := M3
        obtain rfl : u3 = D :: M1.u := x3.same
        have xi3 : ExtE M1 ⟨M1.u, m3⟩ H1 H3 := xi.trans ((xi2.trans x3).reu M1.u)
        have hD3 : H3 D = some (.lst acc) := x3.stab _ _ (sm _ _ hD) fun z => (ri.us D inD).1 z
        cases b' with
        | false =>
          simp only [Bool.false_eq_true, if_false] at el
          exact iteF ⟨m3, h3, acc, dacc, rest, xi3, r3, (rsi.mono xi2).mono x3, hD3, (qa.mono xi2.ext).mono x3.ext, el, eo⟩
        | true =>
          simp only [if_true] at el
          refine iteT ?_
          cases ef : f ρ1 h3 with
          | none => rw [ef] at el; cases el
          | some pr =>
            obtain ⟨w, h4⟩ := pr
            rw [ef] at el
            simp only [obnd_some] at el
            refine ⟨_, h3, ρ1, r3, rs2.mono x3, w, h4, ef, fun M4 H4 y x4 r4 ry => ?_⟩
            obtain ⟨u4, m4⟩ := M4
            obtain rfl : u4 = D :: M1.u := x4.same
            have hD4 : H4 D = some (.lst acc) := x4.stab _ _ hD3 fun z => (r3.us D List.mem_cons_self).1 z
            split at el
            · rename_i d'
              cases er : lcL k t f (wipeE ρ vs) (ds.drop (i + 1)) h4 with
              | none => rw [er] at el; cases el
              | some pr =>
                obtain ⟨rest', h5⟩ := pr
                rw [er] at el
                simp only [obnd_some, Option.some.injEq, Prod.mk.injEq] at el
                obtain ⟨e5, e6⟩ := el
                subst e5 e6
                have q4 := ((qa.mono xi2.ext).mono x3.ext).mono x4.ext
                have hlen : acc.length < sizeLine := by
                  have h7 := congrArg List.length eo
                  rw [List.length_append, List.length_cons] at h7
                  rw [qa.length]; omega
                have in4 : D ∈ (⟨D :: M1.u, m4⟩ : Mm).u := List.mem_cons_self
                exact ⟨acc, hD4, hlen, m4, h4, acc ++ [y], dacc ++ [d'], rest', (xi3.trans (x4.reu M1.u)).beside nD, r4.off in4, (((rsi.mono xi2).mono x3).mono x4).off in4, upd_same, (q4.off in4).app (.cons (RD.off in4 ry) .nil), er, by rw [List.append_assoc]; exact eo⟩
            · cases el
    · cases el
  · refine .inl ?_
    have hi' : i = ds.length := by omega
    subst hi'
    rw [List.drop_length] at el
    cases el
    rw [List.append_nil] at eo
    subst eo
    refine ⟨its, ?_⟩
    have c3 := c2 M1 H1 (.refl _ _)
    rw [if_pos outlen] at c3
    have nu : D ∉ M1.u := fun z => r1.new nD (.inl z)
    have nm : some D ∉ mi := (ri.us D inD).1
    cases m with
    | false =>
      exact c3.fin xi ri.told (RD.lst (fun z => z.elim nu nm) hD (qa.sub less_has))
    | true =>
      refine c3.fin (M' := ⟨M1.u, mi ++ [some D]⟩) ⟨rfl, xi.trk, xi.stab, fun a z => ?_, Nat.le_trans xi.len (by simp), fun j hj => ?_⟩ (ri.owned nu ⟨acc, hD, qa⟩) ⟨D, ?_, rfl⟩
      · rcases List.mem_append.mp z with z | z
        · exact xi.fresh a z
        · have : a = D := by simpa using z
          rw [this]; exact .inr nD
      · have hl : j < mi.length := Nat.lt_of_lt_of_le hj xi.len
        show (mi ++ [some D])[j]? = _
        rw [List.getElem?_append_left hl]; exact xi.pre j hj
      · show (mi ++ [some D])[h2.length]? = _
        rw [← show mi.length = h2.length from ri.len]; simp
section
variable {X : Cx}
theorem d_lc (m : Bool) {elt tg iter : Expr} {ifs : List Expr} {scope : Scope} {own : List (Str × Nat)} {pos : Pos} {gi : IM} {ts : List Nat} {k : TM} {t : BM} {f : EM} (hc : X.calm = true) (hN : X.N.Nodup) (hi : DI X tg iter gi) (ok : BlkOk X.N X.env.scope scope own)
    (hg : ∀ (s : Shared) (H : Hp) (C : Addr) (cl : List (Str × Addr)) (fp : List Addr), DG (X.blk s H scope (compEnvC scope cl C X.env) fp) tg ts k) (ht : ∀ (s : Shared) (H : Hp) (C : Addr) (cl : List (Str × Addr)) (fp : List Addr), DTs (X.blk s H scope (compEnvC scope cl C X.env) fp) ifs t)
    (he : ∀ (s : Shared) (H : Hp) (C : Addr) (cl : List (Str × Addr)) (fp : List Addr), DE (X.blk s H scope (compEnvC scope cl C X.env) fp) elt f) (hsub : ∀ j ∈ ts, j ∈ own.map (·.2)) (hs : ∀ x, foldedSetIterable iter X.env x = pure x := by intro _; rfl) :
    DE X (.ListComp elt [⟨tg, iter, ifs, 0⟩] scope pos) (fLc m gi k t f (own.map (·.2))) := (pe_lc hc hN hi ok hg ht he hs).weak (lc_imp hsub)
end
end DL
set_option maxRecDepth 100000
set_option maxHeartbeats 4000000
namespace DL
open PySem PySem.Spec PyProof.Rows L2
inductive Out where
  | nx (ρ : Env) | rt (w : W) | bk (ρ : Env) | ct (ρ : Env)
abbrev SM := Env → Hh → Option (Out × Hh)
def SPost (D : Ends) (M0 : Mm) (H0 : Hp) (r : Option (Out × Hh)) : Prop := match r with
  | some (.nx ρ, h) => ∀ M H σ, M.u = M0.u → Ext M0 M H0 H → Rep M H h → RS M H ρ σ → D.nx σ H
  | some (.rt w, h) => ∀ M H v, M.u = M0.u → Ext M0 M H0 H → Rep M H h → RV M H v w → D.rt v H
  | some (.bk ρ, h) => ∀ M H σ, M.u = M0.u → Ext M0 M H0 H → Rep M H h → RS M H ρ σ → D.bk σ H
  | some (.ct ρ, h) => ∀ M H σ, M.u = M0.u → Ext M0 M H0 H → Rep M H h → RS M H ρ σ → D.ct σ H
  | none => False
theorem SPost.mono {D : Ends} {M0 M1 : Mm} {H0 H1 : Hp} {r : Option (Out × Hh)} (p : SPost D M0 H0 r) (u : M1.u = M0.u) (x : Ext M0 M1 H0 H1) : SPost D M1 H1 r := by
  match r, p with
  | some (.nx ρ, h), p => exact fun M H σ e y => p M H σ (e.trans u) (x.trans y)
  | some (.rt w, h), p => exact fun M H σ e y => p M H σ (e.trans u) (x.trans y)
  | some (.bk ρ, h), p => exact fun M H σ e y => p M H σ (e.trans u) (x.trans y)
  | some (.ct ρ, h), p => exact fun M H σ e y => p M H σ (e.trans u) (x.trans y)
def tS (f : SM) : TS := fun D σ H => ∃ M h ρ, Rep M H h ∧ RS M H ρ σ ∧ SPost D M H (f ρ h)
abbrev DS (X : Cx) (st : Stmt) (f : SM) : Prop := PS X st (tS f)
abbrev DSs (X : Cx) (sts : List Stmt) (f : SM) : Prop := PSs X sts (tS f)
def sSeq (f g : SM) : SM := fun ρ h => match f ρ h with
  | some (.nx ρ1, h1) => g ρ1 h1
  | r => r
def sSkip : SM := fun ρ h => some (.nx ρ, h)
def sNever : SM := fun _ _ => none
section
variable {X : Cx}
theorem seq_imp {f g : SM} : ∀ D σ H, tS (sSeq f g) D σ H → tSeq (tS f) (tS g) D σ H := fun D σ H => by
  rintro ⟨M, h, ρ, r, rs, p⟩
  refine ⟨M, h, ρ, r, rs, ?_⟩
  unfold sSeq at p
  cases e : f ρ h with
  | none => rw [e] at p; exact p
  | some q =>
    obtain ⟨o, h1⟩ := q
    rw [e] at p
    cases o with
    | nx ρ1 => exact fun M1 H1 σ1 u x r1 rs1 => ⟨M1, h1, ρ1, r1, rs1, p.mono u x⟩
    | rt w => exact p
    | bk ρ1 => exact p
    | ct ρ1 => exact p
theorem ds_cons {st : Stmt} {sts : List Stmt} {f g : SM} (h1 : DS X st f) (h2 : DSs X sts g) : DSs X (st :: sts) (sSeq f g) := (pss_cons h1 h2).weak seq_imp
theorem ds_one {st : Stmt} {f : SM} (h1 : DS X st f) : DSs X [st] f := pss_one h1
theorem ds_nil : DSs X [] sSkip := pss_nil.weak fun D σ H => by
  rintro ⟨M, h, ρ, r, rs, p⟩
  exact p M H σ rfl (.refl _ _) r rs
theorem ds_never {st : Stmt} : DS X st sNever := ps_never.weak fun D σ H => by
  rintro ⟨M, h, ρ, r, rs, p⟩
  exact p
def sbnd {α : Type} (r : Option (α × Hh)) (k : α → Hh → Option (Out × Hh)) : Option (Out × Hh) := match r with
  | some (a, h) => k a h
  | none => none
@[simp] theorem sbnd_some {α : Type} (a : α) (h : Hh) (k : α → Hh → Option (Out × Hh)) : sbnd (some (a, h)) k = k a h := rfl
@[simp] theorem sbnd_none {α : Type} (k : α → Hh → Option (Out × Hh)) : sbnd none k = none := rfl
theorem SPost.bind {α : Type} {D : Ends} {M : Mm} {H : Hp} {r : Option (α × Hh)} {k : α → Hh → Option (Out × Hh)} (p : SPost D M H (sbnd r k)) : ∃ a h1, r = some (a, h1) ∧ SPost D M H (k a h1) := by
  cases r with
  | none => exact p.elim
  | some q => obtain ⟨a, h1⟩ := q; exact ⟨a, h1, rfl, p⟩
def sExpr (f : EM) : SM := fun ρ h => sbnd (f ρ h) fun _ h1 => some (.nx ρ, h1)
theorem ds_expr {e : Expr} {pos : Pos} {f : EM} (he : DE X e f) (hs : swapsWith e none pos.line X.env = pure false := by rfl) : DS X (.Expr e pos) (sExpr f) := (ps_expr he hs).weak fun D σ H => by
  rintro ⟨M, h, ρ, r, rs, p⟩
  obtain ⟨w, h1, e1, p1⟩ := p.bind
  exact ⟨M, h, ρ, r, rs, w, h1, e1, fun M1 H1 v x1 r1 v1 => p1 M1 H1 σ x1.same x1.ext r1 (rs.mono x1)⟩
def sRet (f : EM) : SM := fun ρ h => sbnd (f ρ h) fun w h1 => some (.rt w, h1)
theorem ds_ret {e : Expr} {pos : Pos} {f : EM} (he : DE X e f) : DS X (.Return (some e) pos) (sRet f) := (ps_ret he).weak fun D σ H => by
  rintro ⟨M, h, ρ, r, rs, p⟩
  obtain ⟨w, h1, e1, p1⟩ := p.bind
  exact ⟨M, h, ρ, r, rs, w, h1, e1, fun M1 H1 v x1 r1 v1 => p1 M1 H1 v x1.same x1.ext r1 v1⟩
def sRetN : SM := fun _ h => some (.rt (.dat .none), h)
def sIf (t : BM) (f g : SM) : SM := fun ρ h => sbnd (t ρ h) fun b h1 => if b = true then f ρ h1 else g ρ h1
theorem ds_if {c : Expr} {a b : List Stmt} {pos : Pos} {t : BM} {f g : SM} (hc : DT X c t) (ha : DSs X a f) (hb : DSs X b g) : DS X (.If c a b pos) (sIf t f g) := (ps_if hc ha hb).weak fun D σ H => by
  rintro ⟨M, h, ρ, r, rs, p⟩
  obtain ⟨w, h1, e1, p1⟩ := p.bind
  refine ⟨M, h, ρ, r, rs, w, h1, e1, fun M1 H1 v x1 r1 v1 => ?_⟩
  subst v1
  have p2 := p1.mono x1.same x1.ext
  cases v with
  | true => exact iteT ⟨M1, h1, ρ, r1, rs.mono x1, p2⟩
  | false => exact iteF ⟨M1, h1, ρ, r1, rs.mono x1, p2⟩
def sAsg (f : EM) (g : TM) : SM := fun ρ h => sbnd (f ρ h) fun w h1 => match g w ρ h1 with
  | some ρ1 => some (.nx ρ1, h1)
  | none => none
theorem asg_imp {f : EM} {g : TM} {ts : List Nat} : ∀ D σ H, tS (sAsg f g) D σ H → tAsg (tE f) (tGd ts g) D σ H := fun D σ H => by
  rintro ⟨M, h, ρ, r, rs, p⟩
  obtain ⟨w, h1, e1, p1⟩ := p.bind
  refine ⟨M, h, ρ, r, rs, w, h1, e1, fun M1 H1 v x1 r1 v1 => ?_⟩
  split at p1
  · rename_i ρ1 e2
    exact ⟨M1, h1, ρ, w, ρ1, r1, rs.mono x1, v1, e2, fun σ' rs' _ _ => p1 M1 H1 σ' x1.same x1.ext r1 rs'⟩
  · exact p1.elim
theorem ds_asg {tg e : Expr} {pos : Pos} {f : EM} {g : TM} {ts : List Nat} (he : DE X e f) (hg : DG X tg ts g) (hs : swapsWithSole [tg] e pos.line X.env = pure false := by rfl) (hw : swappedStores [tg] e X.env = pure none := by rfl) (h1 : (assignEach [tg] X.env).map (·.2) = [assign tg X.env] := by rfl) : DS X (.Assign [tg] e pos) (sAsg f g) := (ps_asg he hg hs hw h1).weak asg_imp
theorem ds_set {i : Nat} {x : Str} {e : Expr} {pos pos' : Pos} {f : EM} (h : PS X (.Assign [.Name x pos'] e pos) (tAsg (tE f) (gName i))) : DS X (.Assign [.Name x pos'] e pos) (sAsg f (gN i)) := h.weak fun D σ H => by
  rintro ⟨M, h, ρ, r, rs, p⟩
  obtain ⟨w, h1, e1, p1⟩ := p.bind
  exact ⟨M, h, ρ, r, rs, w, h1, e1, fun M1 H1 v x1 r1 v1 => p1 M1 H1 _ x1.same x1.ext r1 ((rs.mono x1).set v1)⟩
theorem ds_setLc (m : Bool) {i : Nat} {y : Str} {py : Pos} {elt tg iter : Expr} {ifs : List Expr} {scope : Scope} {own : List (Str × Nat)} {pos spos : Pos} {gi : IM} {ts : List Nat} {k : TM} {t : BM} {f : EM} (hc : X.calm = true) (hN : X.N.Nodup) (hy : X.N[i]? = some y) (hyl : X.env.scope.names.lookup y = some .local)
    (hsw : swapsWith (.ListComp elt [⟨tg, iter, ifs, 0⟩] scope pos) (some (.Name y py)) spos.line X.env = pure true) (hi : DI X tg iter gi) (ok : BlkOk X.N X.env.scope scope own)
    (hg : ∀ (s : Shared) (H : Hp) (C : Addr) (cl : List (Str × Addr)) (fp : List Addr), DG (X.blk s H scope (compEnvC scope cl C X.env) fp) tg ts k) (ht : ∀ (s : Shared) (H : Hp) (C : Addr) (cl : List (Str × Addr)) (fp : List Addr), DTs (X.blk s H scope (compEnvC scope cl C X.env) fp) ifs t)
    (he : ∀ (s : Shared) (H : Hp) (C : Addr) (cl : List (Str × Addr)) (fp : List Addr), DE (X.blk s H scope (compEnvC scope cl C X.env) fp) elt f) (hsub : ∀ j ∈ ts, j ∈ own.map (·.2)) (hs : ∀ x, foldedSetIterable iter X.env x = pure x := by intro _; rfl) :
    DS X (.Assign [.Name y py] (.ListComp elt [⟨tg, iter, ifs, 0⟩] scope pos) spos) (sAsg (fLc m gi k t f (own.map (·.2))) (gN i)) := (ps_setLc hc hN hy hyl hsw hi ok hg ht he hs).weak fun D σ H => by
  rintro ⟨M, h, ρ, r, rs, p⟩
  obtain ⟨w, h1, e1, p1⟩ := p.bind
  exact lc_imp hsub σ H _ ⟨M, h, ρ, r, rs, w, h1, e1, fun M1 H1 v x1 r1 v1 => p1 M1 H1 _ x1.same x1.ext r1 ((rs.mono x1).set v1)⟩
def sPar (g : AM) (is : List Nat) : SM := fun ρ h => sbnd (g ρ h) fun ws h1 => if ws.length = is.length then some (.nx ((is.zip ws).foldl (fun ρ p => ρ.set p.1 (some p.2)) ρ), h1) else none
theorem ds_par2 {i j : Nat} {st : Stmt} {g : AM} (h : PS X st (tPar i j (tA g))) : DS X st (sPar g [i, j]) := h.weak fun D σ H => by
  rintro ⟨M, h, ρ, r, rs, p⟩
  obtain ⟨ws, h1, e1, p1⟩ := p.bind
  refine ⟨M, h, ρ, r, rs, ws, h1, e1, fun M1 H1 vs x1 r1 v1 => ?_⟩
  split at p1
  · rename_i hz
    match ws, hz, v1, p1 with
    | [w1, w2], _, v1, p1 =>
      obtain ⟨a, b, rfl, ra, rb⟩ := rvs2 v1
      exact ⟨a, b, rfl, p1 M1 H1 _ x1.same x1.ext r1 (((rs.mono x1).set ra).set rb)⟩
  · exact p1.elim
def setW (o i : W) (w : W) (h : Hh) : Option Hh := match o, i, w with
  | .ref n, .dat (.int k), .dat d => match lstAt h n with
    | some ds => match ixN ds.length k with
      | some j => some (h.set n (some (.lst (ds.set j d))))
      | none => none
    | none => none
  | _, _, _ => none
def sSub (f o i : EM) : SM := fun ρ h => sbnd (f ρ h) fun w h1 => sbnd (o ρ h1) fun a h2 => sbnd (i ρ h2) fun b h3 => match setW a b w h3 with
  | some h4 => some (.nx ρ, h4)
  | none => none
theorem sub_imp {f o i : EM} : ∀ D σ H, tS (sSub f o i) D σ H → tAsg (tE f) (gSub (tE o) (tE i) rSetL) D σ H := fun D σ H => by
  rintro ⟨M, h, ρ, r, rs, p⟩
  obtain ⟨w, h1, e1, p1⟩ := p.bind
  refine ⟨M, h, ρ, r, rs, w, h1, e1, fun M1 H1 v x1 r1 v1 => ?_⟩
  obtain ⟨a, h2, e2, p2⟩ := p1.bind
  refine ⟨M1, h1, ρ, r1, rs.mono x1, a, h2, e2, fun M2 H2 v' x2 r2 v2 => ?_⟩
  obtain ⟨b, h3, e3, p3⟩ := p2.bind
  refine ⟨M2, h2, ρ, r2, (rs.mono x1).mono x2, b, h3, e3, fun M3 H3 v'' x3 r3 v3 => ?_⟩
  have ra := v2.mono x3
  have rw' := (v1.mono x2).mono x3
  unfold setW at p3
  split at p3
  · rename_i h4 e4
    split at e4
    · rename_i n k d
      obtain ⟨ad, ea, rfl⟩ := ra
      cases (show RD M3 H3 _ _ from v3)
      split at e4
      · rename_i ds el
        obtain ⟨xs, hx, q⟩ := lstAt_ok r3 el ea
        split at e4
        · rename_i j ej
          cases e4
          refine ⟨ad, xs, k, j, rfl, rfl, hx, by rw [q.length]; exact ej, ?_⟩
          have x4 := ext_set (H := H3) (o := .lst (xs.set j v)) ea
          have xx := ((x1.trans x2).trans x3).trans x4
          exact p3 M3 _ σ xx.same xx.ext (r3.set ea ⟨_, upd_same, (q.set j rw').mono x4.ext⟩) (rs.mono xx)
        · cases e4
      · cases e4
    · cases e4
  · exact p3.elim
theorem ds_sub {o i e : Expr} {pos tpos : Pos} {f fo fi : EM} (he : DE X e f) (ho : DE X o fo) (hi : DE X i fi) (h : PS X (.Assign [.Subscript o i tpos] e pos) (tAsg (tE f) (gSub (tE fo) (tE fi) rSetL))) : DS X (.Assign [.Subscript o i tpos] e pos) (sSub f fo fi) := h.weak sub_imp
def forL (k : TM) (body : SM) : List D → Env → Hh → Option (Out × Hh)
  | [], ρ, h => some (.nx ρ, h)
  | d :: ds, ρ, h => match k (.dat d) ρ h with
    | some ρ1 => match body ρ1 h with
      | some (.nx ρ2, h2) => forL k body ds ρ2 h2
      | some (.ct ρ2, h2) => forL k body ds ρ2 h2
      | some (.bk ρ2, h2) => some (.nx ρ2, h2)
      | some (.rt w, h2) => some (.rt w, h2)
      | none => none
    | none => none
def sFor (gi : IM) (k : TM) (body : SM) : SM := fun ρ h => sbnd (gi ρ h) fun ds h1 => forL k body ds ρ h1
theorem for_imp {gi : IM} {k : TM} {body : SM} {ts : List Nat} : ∀ D σ H, tS (sFor gi k body) D σ H → tFor (tI gi) (tGd ts k) (tS body) D σ H := fun D σ H => by
  rintro ⟨M, h, ρ, r, rs, p⟩
  obtain ⟨ds, h1, e1, p1⟩ := p.bind
  refine ⟨M, h, ρ, ds, h1, r, rs, e1, fun M1 H1 J x1 r1 it => ?_⟩
  have p2 := p1.mono x1.same x1.ext
  let P : Nat → L2.St → Hp → Prop := fun i σi Hi => ∃ Mi hi ρi, Mi.u = M1.u ∧ Ext M1 Mi H1 Hi ∧ Rep Mi Hi hi ∧ RS Mi Hi ρi σi ∧ SPost D Mi Hi (forL k body (ds.drop i) ρi hi)
  refine ⟨fun i n σi Hi => n + i = ds.length ∧ P i σi Hi, ⟨ds.length, by omega, M1, h1, ρ, rfl, .refl _ _, r1, rs.mono x1, by rw [List.drop_zero]; exact p2⟩, fun i n σi Hi w => ?_⟩
  obtain ⟨hn, Mi, hi, ρi, ui, xi, ri, rsi, pi⟩ := w
  obtain ⟨ity, its⟩ := it Mi Hi xi fun a ha => ri.tracked ha
  by_cases hlt : i < ds.length
  · refine .inr ?_
    have ed : ds[i]? = some ds[i] := List.getElem?_eq_getElem hlt
    obtain ⟨go, yl⟩ := ity i _ ed
    rw [List.drop_eq_getElem_cons hlt] at pi
    refine ⟨go, P (i + 1), fun σ' H' q => ⟨n - 1, by omega, by omega, q⟩, fun x H2 hy => ?_⟩
    obtain ⟨sm, rx⟩ := yl x H2 hy
    obtain ⟨ri2, xi2⟩ := ri.grow sm
    unfold forL at pi
    split at pi
    · rename_i ρ1 ek
      refine ⟨Mi, hi, ρi, .dat ds[i], ρ1, ri2, rsi.mono xi2, rx, ek, fun σ2 rs2 _ _ => ⟨Mi, hi, ρ1, ri2, rs2, ?_⟩⟩
      have pi' := pi.mono rfl xi2.ext
      cases eb : body ρ1 hi with
      | none => rw [eb] at pi'; exact pi'.elim
      | some q =>
        obtain ⟨o, h3⟩ := q
        rw [eb] at pi'
        cases o with
        | nx ρ2 => exact fun M3 H3 σ3 u3 x3 r3 rs3 => ⟨M3, h3, ρ2, u3.trans ui, (xi.trans xi2.ext).trans x3, r3, rs3, SPost.mono pi' u3 x3⟩
        | ct ρ2 => exact fun M3 H3 σ3 u3 x3 r3 rs3 => ⟨M3, h3, ρ2, u3.trans ui, (xi.trans xi2.ext).trans x3, r3, rs3, SPost.mono pi' u3 x3⟩
        | bk ρ2 => exact pi'
        | rt w => exact pi'
    · exact pi.elim
  · refine .inl ?_
    have hi' : i = ds.length := by omega
    subst hi'
    rw [List.drop_length] at pi
    exact ⟨its, pi Mi Hi σi rfl (.refl _ _) ri rsi⟩
theorem ds_for {tg iter : Expr} {body : List Stmt} {pos : Pos} {gi : IM} {k : TM} {ts : List Nat} {f : SM} (hc : X.calm = true) (hp : PassesOwn (model X.prog X.w) X.A X.env X.xe) (hi : DI X tg iter gi) (hg : DG X tg ts k) (hb : DSs X body f) (hs : ∀ x, foldedSetIterable iter X.env x = pure x := by intro _; rfl) : DS X (.For tg iter body [] pos) (sFor gi k f) :=
  (ps_for hp hc hi hg hb hs).weak for_imp
def whileL (t : BM) (body : SM) : Nat → Env → Hh → Option (Out × Hh)
  | 0, _, _ => none
  | n + 1, ρ, h => sbnd (t ρ h) fun b h1 => if b = true then match body ρ h1 with
      | some (.nx ρ2, h2) => whileL t body n ρ2 h2
      | some (.ct ρ2, h2) => whileL t body n ρ2 h2
      | some (.bk ρ2, h2) => some (.nx ρ2, h2)
      | some (.rt w, h2) => some (.rt w, h2)
      | none => none
    else some (.nx ρ, h1)
def sWhile (n : Nat) (t : BM) (body : SM) : SM := whileL t body n
theorem while_imp {n : Nat} {t : BM} {body : SM} : ∀ D σ H, tS (sWhile n t body) D σ H → tWhile (tT t) (tS body) D σ H := fun D σ H => by
  rintro ⟨M, h, ρ, r, rs, p⟩
  refine ⟨fun m σi Hi => ∃ Mi hi ρi, Mi.u = M.u ∧ Ext M Mi H Hi ∧ Rep Mi Hi hi ∧ RS Mi Hi ρi σi ∧ SPost D Mi Hi (whileL t body m ρi hi), ⟨n, M, h, ρ, rfl, .refl _ _, r, rs, p⟩, fun m σi Hi w => ?_⟩
  obtain ⟨Mi, hi, ρi, ui, xi, ri, rsi, pi⟩ := w
  cases m with
  | zero => exact pi.elim
  | succ m =>
    unfold whileL at pi
    obtain ⟨b, h1, e1, p1⟩ := pi.bind
    refine ⟨Mi, hi, ρi, ri, rsi, b, h1, e1, fun M1 H1 v x1 r1 v1 => ?_⟩
    subst v1
    have p2 := p1.mono x1.same x1.ext
    cases v with
    | true =>
      simp only [if_true] at p2
      refine iteT ⟨fun σ' H' => ∃ Mi hi ρi, Mi.u = M.u ∧ Ext M Mi H H' ∧ Rep Mi H' hi ∧ RS Mi H' ρi σ' ∧ SPost D Mi H' (whileL t body m ρi hi), fun σ' H' q => ⟨m, Nat.lt_succ_self m, q⟩, M1, h1, ρi, r1, rsi.mono x1, ?_⟩
      cases eb : body ρi h1 with
      | none => rw [eb] at p2; exact p2.elim
      | some q =>
        obtain ⟨o, h3⟩ := q
        rw [eb] at p2
        cases o with
        | nx ρ2 => exact fun M3 H3 σ3 u3 x3 r3 rs3 => ⟨M3, h3, ρ2, (u3.trans x1.same).trans ui, (xi.trans x1.ext).trans x3, r3, rs3, SPost.mono p2 u3 x3⟩
        | ct ρ2 => exact fun M3 H3 σ3 u3 x3 r3 rs3 => ⟨M3, h3, ρ2, (u3.trans x1.same).trans ui, (xi.trans x1.ext).trans x3, r3, rs3, SPost.mono p2 u3 x3⟩
        | bk ρ2 => exact p2
        | rt w => exact p2
    | false => exact iteF (p2 M1 H1 σi rfl (.refl _ _) r1 (rsi.mono x1))
theorem ds_while (n : Nat) {c : Expr} {body : List Stmt} {pos : Pos} {t : BM} {f : SM} (hp : PassesOwn (model X.prog X.w) X.A X.env X.xe) (hc : DT X c t) (hb : DSs X body f) : DS X (.While c body [] pos) (sWhile n t f) := (ps_while hp hc hb).weak while_imp
end
abbrev FM := List W → Hh → Option (W × Hh)
def live (h : Hh) : List Bool := h.map Option.isSome
def leave (rm : Bool) (h : Hh) (w : W) (h' : Hh) : Option (W × Hh) := if live (h'.take h.length) = live h then match w with
    | .ref n => if n < h.length then some (.ref n, h'.take h.length) else match h'[n]? with
      | some (some (.lst ds)) => if rm = true then some (.ref h.length, h'.take h.length ++ [some (.lst ds)]) else some (.dat (.list ds), h'.take h.length)
      | some (some (.dic es)) => if rm = true then some (.ref h.length, h'.take h.length ++ [some (.dic es)]) else some (.dat (.dict es), h'.take h.length)
      | some (some (.dit es)) => if rm = true then some (.ref h.length, h'.take h.length ++ [some (.dit es)]) else none
      | _ => none
    | .pack _ => none
    | .lock _ => none
    | w => some (w, h'.take h.length)
  else none
def fnM (rm : Bool) (np nl : Nat) (body : SM) : FM := fun ws h => if ws.length = np then match body (ws.map some ++ List.replicate (nl - np) none) h with
    | some (.rt w, h') => leave rm h w h'
    | some (.nx _, h') => leave rm h (.dat .none) h'
    | _ => none
  else none
def spD (m : FM) : Sp := fun vs H Q _ => ∃ M h ws, Rep M H h ∧ RVs M H vs ws ∧ Cont RV (m ws h) M H Q
end DL
set_option maxRecDepth 100000
set_option maxHeartbeats 400000
namespace DL
open PySem PySem.Spec PyProof.Rows L2
theorem live_get {h h' : Hh} (e : live (h'.take h.length) = live h) {i : Nat} (hi : i < h.length) : (h'[i]?).map Option.isSome = (h[i]?).map Option.isSome := by
  have := congrArg (fun l => l[i]?) e
  simp only [live, List.getElem?_map] at this
  rw [List.getElem?_take_of_lt hi] at this
  exact this
section
variable {M M' : Mm} {H H' : Hp} {h h' : Hh}
theorem leave_same (x : Ext M M' H H') (r : Rep M H h) (r' : Rep M' H' h') (e : live (h'.take h.length) = live h) {i : Nat} {a : Addr} (q : M.m[i]? = some (some a)) : M'.m[i]? = some (some a) := by
  have hi := lt_of_get q
  rcases x.kill i hi with k | k
  · rw [k]; exact q
  · have d := r'.dead i k
    obtain ⟨o, ho, _⟩ := r.at_ i a q
    have l := live_get e (i := i) (by rw [← r.len]; exact hi)
    rw [d, ho] at l
    cases l
theorem leave_has (x : Ext M M' H H') (u : M'.u = M.u) (r : Rep M H h) (r' : Rep M' H' h') (e : live (h'.take h.length) = live h) : ∀ b, M.Has b → M'.Has b := fun b z => by
  rcases z with z | z
  · exact .inl (by rw [u]; exact z)
  · obtain ⟨i, hi, q⟩ := List.getElem_of_mem z
    exact .inr (List.mem_of_getElem? (leave_same x r r' e (i := i) (by rw [List.getElem?_eq_getElem hi, q])))
theorem leave_rep (x : Ext M M' H H') (u : M'.u = M.u) (r : Rep M H h) (r' : Rep M' H' h') (e : live (h'.take h.length) = live h) : Rep M H' (h'.take h.length) := by
  have hl : (h'.take h.length).length = h.length := by
    have := congrArg List.length e
    simpa [live] using this
  refine ⟨fun a z => ?_, by rw [hl]; exact r.len, r.inj, fun i a q => ?_, fun i q => ?_⟩
  · obtain ⟨h1, o, h2, ht⟩ := r.us a z
    exact ⟨h1, o, x.stab a o h2 h1, ht⟩
  · obtain ⟨o, ho, ro⟩ := r'.at_ i a (leave_same x r r' e q)
    exact ⟨o, by rw [List.getElem?_take_of_lt (by rw [← r.len]; exact lt_of_get q)]; exact ho, ro.sub (leave_has x u r r' e)⟩
  · have hi : i < h.length := by rw [← r.len]; exact lt_of_get q
    have l := live_get e hi
    rw [r.dead i q] at l
    rw [List.getElem?_take_of_lt hi]
    cases z : h'[i]? with
    | none => rw [z] at l; cases l
    | some o =>
      rw [z] at l
      cases o with
      | none => rfl
      | some _ => cases l
theorem leave_ext (x : Ext M M' H H') : ExtE M M H H' := ⟨rfl, x.trk, x.stab, fun _ m => .inl m, Nat.le_refl _, fun _ _ => rfl⟩
theorem leave_out (x : Ext M M' H H') (u : M'.u = M.u) (r : Rep M H h) (r' : Rep M' H' h') (e : live (h'.take h.length) = live h) {n : Nat} {a : Addr} (hn : ¬ n < h.length) (q : M'.m[n]? = some (some a)) : ¬ M.Has a := fun z => by
  rcases z with z | z
  · exact (r'.us a (by rw [u]; exact z)).1 (List.mem_of_getElem? q)
  · obtain ⟨i, hi, qi⟩ := List.getElem_of_mem z
    have q' := leave_same x r r' e (i := i) (by rw [List.getElem?_eq_getElem hi, qi])
    have := r'.inj i n a q' q
    rw [r.len] at hi
    omega
theorem leave_mut (x : Ext M M' H H') (u : M'.u = M.u) (r : Rep M H h) (r' : Rep M' H' h') (e : live (h'.take h.length) = live h) {n : Nat} {a : Addr} {o : MO} (hn : ¬ n < h.length) (q : M'.m[n]? = some (some a)) (ho : h'[n]? = some (some o)) :
    Rep ⟨M.u, M.m ++ [some a]⟩ H' (h'.take h.length ++ [some o]) ∧ ExtE M ⟨M.u, M.m ++ [some a]⟩ H H' := by
  have out := leave_out x u r r' e hn q
  obtain ⟨o', ho', ro⟩ := r'.at_ n a q
  rw [ho] at ho'; cases ho'
  have R := leave_rep x u r r' e
  have hsub : ∀ b, Mm.Has ⟨a :: M.u, M.m⟩ b → M'.Has b := fun b z => by
    rcases z with z | z
    · rcases List.mem_cons.mp z with rfl | z
      · exact .inr (List.mem_of_getElem? q)
      · exact .inl (by rw [u]; exact z)
    · exact leave_has x u r r' e b (.inr z)
  have R2 : Rep ⟨a :: M.u, M.m⟩ H' (h'.take h.length) := by
    refine ⟨fun b z => ?_, R.len, R.inj, fun i b z => ?_, R.dead⟩
    · rcases List.mem_cons.mp z with rfl | z
      · exact ⟨fun y => out (.inr y), ro.kind⟩
      · exact R.us b z
    · obtain ⟨w, hw, rw'⟩ := r'.at_ i b (leave_same x r r' e z)
      exact ⟨w, by rw [List.getElem?_take_of_lt (by rw [← r.len]; exact lt_of_get z)]; exact hw, rw'.sub hsub⟩
  refine ⟨R2.owned (fun y => out (.inl y)) (ro.sub hsub), ⟨rfl, x.trk, x.stab, fun b z => ?_, by simp, fun i hi => List.getElem?_append_left hi⟩⟩
  rcases List.mem_append.mp z with z | z
  · exact .inl z
  · have : b = a := by simpa using z
    subst this
    exact x.fresh b (List.mem_of_getElem? q)
theorem leave_ok {rm : Bool} {w : W} {v : V} {Q : VK} (x : Ext M M' H H') (u : M'.u = M.u) (r : Rep M H h) (r' : Rep M' H' h') (rv : RV M' H' v w) (c : Cont RV (leave rm h w h') M H Q) : Q v H' := by
  unfold leave at c
  split at c
  · rename_i e
    have sub := leave_has x u r r' e
    have R := leave_rep x u r r' e
    split at c
    · rename_i n
      obtain ⟨a, ea, rfl⟩ := rv
      split at c
      · rename_i hn
        refine c.fin (leave_ext x) R ⟨a, ?_, rfl⟩
        rcases x.kill n (by rw [r.len]; exact hn) with k | k
        · rw [← k]; exact ea
        · rw [ea] at k; cases k
      · rename_i hn
        have out := leave_out x u r r' e hn ea
        obtain ⟨o, ho, ro⟩ := r'.at_ n a ea
        rw [ho] at c
        have hlen : M.m.length = (h'.take h.length).length := R.len
        have hl : (h'.take h.length).length = h.length := by
          have := congrArg List.length e
          simpa [live] using this
        cases o with
        | lst ds =>
          obtain ⟨xs, hx, q⟩ := ro
          cases rm with
          | false => exact c.fin (leave_ext x) R (RD.lst out hx (q.sub sub))
          | true =>
            obtain ⟨R2, x2⟩ := leave_mut x u r r' e hn ea ho
            exact c.fin x2 R2 ⟨a, by show (M.m ++ [some a])[h.length]? = _; rw [← hl, ← hlen]; simp, rfl⟩
        | dic ds =>
          obtain ⟨xs, hx, q⟩ := ro
          cases rm with
          | false => exact c.fin (leave_ext x) R (RD.dic out hx (q.sub sub))
          | true =>
            obtain ⟨R2, x2⟩ := leave_mut x u r r' e hn ea ho
            exact c.fin x2 R2 ⟨a, by show (M.m ++ [some a])[h.length]? = _; rw [← hl, ← hlen]; simp, rfl⟩
        | dit ds =>
          obtain ⟨xs, hx, q⟩ := ro
          cases rm with
          | false => exact c.no.elim
          | true =>
            obtain ⟨R2, x2⟩ := leave_mut x u r r' e hn ea ho
            exact c.fin x2 R2 ⟨a, by show (M.m ++ [some a])[h.length]? = _; rw [← hl, ← hlen]; simp, rfl⟩
        | tab q P => exact c.no.elim
        | ins C fs => exact c.no.elim
    · exact c.no.elim
    · exact c.no.elim
    · rename_i w' hw hp hk
      cases w with
      | ref n => exact absurd rfl (hw n)
      | pack n => exact absurd rfl (hp n)
      | lock n => exact absurd rfl (hk n)
      | dat d => exact c.fin (leave_ext x) R (RD.sub sub rv)
      | ins C fs =>
        obtain ⟨a, dx, gs, e1, n, q, rf⟩ := rv
        exact c.fin (leave_ext x) R ⟨a, dx, gs, e1, fun z => n (sub a z), q, rf.to fun _ _ => RD.sub sub⟩
      | exc k C fs =>
        obtain ⟨a, d, gs, e1, r1⟩ := rv
        exact c.fin (leave_ext x) R ⟨a, d, gs, e1, r1.to (fun b _ _ n z => n (sub b z)) (fun _ _ q _ _ => q) fun _ _ => RD.sub sub⟩
      | scr ns =>
        obtain ⟨a, o, e1, n, q⟩ := rv
        exact c.fin (leave_ext x) R ⟨a, o, e1, fun z => n (sub a z), q⟩
  · exact c.no.elim
end
theorem rs_start {M : Mm} {H : Hp} {vs : List V} {ws : List W} (r : RVs M H vs ws) (n : Nat) : RS M H (ws.map some ++ List.replicate n none) (vs.map some ++ List.replicate n none) := by
  refine ⟨by simp [r.length], ?_⟩
  induction r with
  | nil =>
    intro i w e
    rw [List.map_nil, List.nil_append, List.getElem?_replicate] at e
    split at e <;> cases e
  | cons a t ih =>
    intro i w e
    cases i with
    | zero => simp at e; subst e; exact ⟨_, rfl, a⟩
    | succ i => exact ih i w (by simpa using e)
end DL
set_option maxRecDepth 100000
set_option maxHeartbeats 400000
namespace DL
open PySem PySem.Spec PyProof.Rows L2
def dcL (k : TM) (t : BM) (fk fv : EM) (ρ : Env) : List D → List (D × D) → Hh → Option (List (D × D) × Hh)
  | [], es, h => some (es, h)
  | d :: ds, es, h => match k (.dat d) ρ h with
    | some ρ1 => obnd (t ρ1 h) fun b h2 => if b = true then obnd (fk ρ1 h2) fun w h3 => obnd (fv ρ1 h3) fun v h4 => match w, v with
        | .dat kd, .dat d' => match dKey kd with
          | some key => if es.length < sizeLine then dcL k t fk fv ρ ds (putK' es key d') h4 else none
          | none => none
        | _, _ => none
      else dcL k t fk fv ρ ds es h2
    | none => none
def fDc (m : Bool) (gi : IM) (k : TM) (t : BM) (fk fv : EM) (vs : List Nat) : EM := fun ρ h => obnd (gi ρ h) fun ds h1 => obnd (dcL k t fk fv (wipeE ρ vs) ds [] h1) fun es h2 => mkK m es h2
end DL
set_option maxRecDepth 100000
set_option maxHeartbeats 400000
namespace DL
open PySem PySem.Spec PyProof.Rows L2
structure RG (k : Nat) (A : Around) : Prop where
  room : Room k A
  gd : A.guards = some []
theorem RG.mono {j k : Nat} {A : Around} (r : RG k A) (h : j ≤ k) : RG j A := ⟨r.room.mono h, r.gd⟩
structure FnG (P : Program) (w : World) (K : PySem.W.Frag) (mg : Str → Option Value) (base : Heap) (C : CXT) (k : Nat) (f : Addr) (fd : FuncData) (ps : List Str) (sp : Sp) : Prop where
  len : ∀ vs H Q E, sp vs H Q E → vs.length = ps.length
  run : ∀ (A : Around) (outer : List PySem.Env) (s : Shared) (H : Hp) (args : Args) (us : List Value) (vs : List V) (Q : VK) (E : XK), RG k A → Env0 P w K mg base A outer s H → BindsTo s fd args (ps.zip us) → Vals vs us →
    sp vs H Q E → codeAny (model P w) A (.call (.ref f) args) (CR C outer P w H s Q E) s
section
variable {P : Program} {w : World} {K : PySem.W.Frag} {mg : Str → Option Value} {base : Heap}
theorem fn_g0 {x qual : Str} {st : Stmt} {f : Addr} {fd : FuncData} {N ps : List Str} {k : Nat} {sp : Sp} (F : Fun K x qual st f fd) (S : FnScope N ps (defScope st)) (len : ∀ vs H Q E, sp vs H Q E → vs.length = ps.length)
    (hb : ∀ (cdv : Value), fd.code = cdv → ∀ (A : Around) (outer : List PySem.Env) (s : Shared) (H : Hp) (vs : List V) (Q : VK) (E : XK), RG k (A.deeper (envOfC qual (defScope st) s.heap.objs.size f cdv)) → sp vs H Q E →
      ∃ t, PSs (cxOf CX0 P w K mg base N qual (defScope st) f cdv A outer s H E).nox (defBody st) t ∧ t { nx := fun _ H' => Q .non H', rt := Q } (L2.start N vs) H) : FnG P w K mg base CX0 (k + 1) f fd ps sp := by
  obtain ⟨oc, od, kV, doc, pm, an, cdv, ct, osl, rfl, lk, hcd⟩ := F.ex
  constructor
  · exact len
  intro A outer s H args us vs Q E rg e0 bd vl q
  have kin : K.In s.heap := e0.mod.kin.keeps fun b o e => (e0.bs b o e).1
  have nl : s.heap.NoLimit := e0.mod.nolimit.keeps fun b o e => (e0.bs b o e).1
  have kinds : ∀ y ∈ ps.zip us, (defScope st).names.lookup y.1 = some .local ∨ ((defScope st).names.lookup y.1 = some .cell ∧ ((PySem.cellsFrom (s.heap.objs.size + 1) (defScope st).names []).lookup y.1).isSome = true) := by
    intro y hy
    have hp : y.1 ∈ ps := (List.of_mem_zip (show (y.1, y.2) ∈ ps.zip us from hy)).1
    rcases S.par y.1 hp with h | h
    · left; exact h
    · right; exact ⟨h, PySem.W.cellsFrom_some _ _ _ (.inl h)⟩
  apply codeAny_call_function rg.room.depth (kin _ _ lk) rfl S.co S.gen rfl (PySem.W.codeRec_of kin hcd)
  apply bd
  apply wpAny_newFunctionEnv_cells S.kind kinds
  intro env he s1 hx
  subst he
  constructor
  · exact nl.keeps hx.toInCall.keep
  apply codeAny_func
  obtain ⟨t, ht, hq⟩ := hb cdv rfl A outer s H vs Q E ⟨rg.room.deeper _, rg.gd⟩ q
  have I0 := inv_start (CX := CX0) (E := E) S rg.room.hd e0 (len _ _ _ _ q) vl hx
  apply wpAny_mono (ht.nox.run [] s1 _ H _ I0 hq)
  · intro fl s' hs
    cases fl
    case ret u => obtain ⟨v, σ', H', J, rv, q'⟩ := hs; exact ⟨v, H', J.os, J.bare, J.base, J.hok, rv, q'⟩
    case next => obtain ⟨σ', H', J, q'⟩ := hs; exact ⟨.non, H', J.os, J.bare, J.base, J.hok, rfl, q'⟩
    case brk => obtain ⟨_, _, _, q'⟩ := hs; exact q'.elim
    case cont => obtain ⟨_, _, _, q'⟩ := hs; exact q'.elim
  · intro e s' hs; exact hs
structure GD (P : Program) (w : World) (K : PySem.W.Frag) (mg : Str → Option Value) (base : Heap) (k : Nat) (x : Str) (st : Stmt) (ps : List Str) (m : FM) : Prop where
  ex : ∃ (f : Addr) (fd : FuncData), Fun K x x st f fd ∧ mg x = some (.ref f) ∧ FnG P w K mg base CX0 k f fd ps (spD m)
theorem fng_ok0 {x : Str} {st : Stmt} {f : Addr} {fd : FuncData} {N ps : List Str} {k : Nat} {body : SM} (rm : Bool) (F : Fun K x x st f fd) (S : FnScope N ps (defScope st))
    (hb : ∀ (cdv : Value), fd.code = cdv → ∀ (A : Around) (outer : List PySem.Env) (s : Shared) (H : Hp) (E : XK), RG k (A.deeper (envOfC x (defScope st) s.heap.objs.size f cdv)) → DSs (cxOf CX0 P w K mg base N x (defScope st) f cdv A outer s H E).nox (defBody st) body) :
    FnG P w K mg base CX0 (k + 1) f fd ps (spD (fnM rm ps.length N.length body)) := by
  refine fn_g0 F S (fun vs H Q E q => ?_) (fun cdv ec A outer s H vs Q E hr q => ?_)
  · obtain ⟨M, h, ws, rep, rv, c⟩ := q
    unfold fnM at c
    split at c
    · rename_i hl
      rw [rv.length]; exact hl
    · exact c.no.elim
  · obtain ⟨M, h, ws, rep, rv, c⟩ := q
    unfold fnM at c
    split at c
    · rename_i hl
      refine ⟨_, hb cdv ec A outer s H E hr, M, h, ws.map some ++ List.replicate (N.length - ps.length) none, rep, ?_, ?_⟩
      · have e : L2.start N vs = vs.map some ++ List.replicate (N.length - ps.length) none := by unfold L2.start; rw [rv.length, hl]
        rw [e]
        exact rs_start rv _
      · cases eb : body (ws.map some ++ List.replicate (N.length - ps.length) none) h with
        | none => rw [eb] at c; exact c.no.elim
        | some pr =>
          obtain ⟨o, h'⟩ := pr
          rw [eb] at c
          cases o with
          | nx ρ => exact fun M1 H1 σ u x1 r1 rs1 => leave_ok x1 u rep r1 (show RV M1 H1 .non (.dat .none) from .non) c
          | rt w => exact fun M1 H1 v u x1 r1 v1 => leave_ok x1 u rep r1 v1 c
          | bk ρ => exact c.no.elim
          | ct ρ => exact c.no.elim
    · exact c.no.elim
theorem fng_ok {x : Str} {st : Stmt} {f : Addr} {fd : FuncData} {N ps : List Str} {k : Nat} {body : SM} (rm : Bool) (F : Fun K x x st f fd) (S : FnScope N ps (defScope st))
    (hb : ∀ (cdv : Value) (A : Around) (outer : List PySem.Env) (s : Shared) (H : Hp) (E : XK), RG k (A.deeper (envOfC x (defScope st) s.heap.objs.size f cdv)) → DSs (cxOf CX0 P w K mg base N x (defScope st) f cdv A outer s H E).nox (defBody st) body) :
    FnG P w K mg base CX0 (k + 1) f fd ps (spD (fnM rm ps.length N.length body)) := fng_ok0 rm F S fun cdv _ => hb cdv
theorem gd_ok {x : Str} {st : Stmt} {f : Addr} {fd : FuncData} {N ps : List Str} {k : Nat} {body : SM} (rm : Bool) (F : Fun K x x st f fd) (hm : mg x = some (.ref f)) (S : FnScope N ps (defScope st))
    (hb : ∀ (cdv : Value) (A : Around) (outer : List PySem.Env) (s : Shared) (H : Hp) (E : XK), RG k (A.deeper (envOfC x (defScope st) s.heap.objs.size f cdv)) → DSs (cxOf CX0 P w K mg base N x (defScope st) f cdv A outer s H E).nox (defBody st) body) :
    GD P w K mg base (k + 1) x st ps (fnM rm ps.length N.length body) := ⟨f, fd, F, hm, fng_ok rm F S hb⟩
theorem GD.no {x : Str} {st : Stmt} {f : Addr} {fd : FuncData} {ps : List Str} {k : Nat} (F : Fun K x x st f fd) (hm : mg x = some (.ref f)) : GD P w K mg base k x st ps (fun _ _ => none) :=
  ⟨f, fd, F, hm, fun _ _ _ _ ⟨_, _, _, _, _, c⟩ => c.no.elim, fun _ _ _ _ _ _ _ _ _ _ _ _ _ ⟨_, _, _, _, _, c⟩ => c.no.elim⟩
end
section
variable {X : Cx} {k : Nat} {f : Addr} {fd : FuncData} {ps : List Str} {m : FM} {x : Str} {p pos : Pos} {e : Expr} {es : List Expr} {g : AM} {st : Stmt}
theorem run_g {sp : Sp} {pins : List (Addr × Obj)} {σ : L2.St} {H : Hp} {s : Shared} {Q : VK} {args : Args} {us : List Value} {vs : List V} (F : FnG X.prog X.w X.K X.mg X.base CX0 k f fd ps sp) (hr : RG k X.A)
    (I : Inv X pins σ H s) (hb : BindsTo s fd args (ps.zip us)) (r : Vals vs us) (h : sp vs H Q E0) : codeAny (model X.prog X.w) X.A (.call (.ref f) args) (fun r s' => match r with
      | .ok (.ret u) => EP X pins σ Q u s'
      | _ => False) s := by
  apply codeAny_mono (F.run X.A X.stack s H args us vs Q E0 hr I.env0 hb r h)
  intro r s' hq
  cases r with
  | error e => exact hq
  | ok fl =>
    cases fl with
    | ret u => exact I.after hq
    | next => exact hq
    | brk => exact hq
    | cont => exact hq
theorem d_call' (G : GD X.prog X.w X.K X.mg X.base k x st ps m) (hr : RG k X.A) (ha : DA X (e :: es) g)
    (hbd : ∀ (kV doc pm : Value) (an : Option Addr) (cdv ct : Value) (us : List Value), us.length = ps.length → bindArgs (PySem.W.fnOf x x (defArgs st) (defBody st) (defScope st) .none kV doc pm an cdv ct) ⟨us, []⟩ = pure (ps.zip us))
    (hg : Gl X x := by rfl)
    (hdb : (x == ("__debug__" : Str)) = false := by decide) (he : starEach (e :: es) X.env = (false, eval e X.env) :: starEach es X.env := by rfl) (hpl : (backTo pos (starEach es X.env)).any (·.1) = false := by rfl) : DE X (.Call (.Name x p) (e :: es) [] pos) (fA m g) := by
  obtain ⟨f, fd, F, hm, G⟩ := G.ex
  refine ⟨fun pins s σ H Q I q => ?_⟩
  obtain ⟨M, h, ρ, r, rs, c⟩ := q
  obtain ⟨ws, h1, e1, c1⟩ := Cont.bind (δ := Unit) c
  apply wpAny_Call_Name_kw
  apply ld_glob I hg hm _ hdb
  apply PySem.W.callWith_K (h₀ := X.base) I.ok.mod.kin F.kp _ he hpl
  refine thn (ha.run pos pins s σ H (fun vs H1 => spD m vs H1 Q E0) I ⟨M, h, ρ, r, rs, ws, h1, e1, fun M1 H1 vs x1 r1 v1 => ⟨M1, h1, ws, r1, v1, c1 M1 H1 x1⟩⟩) fun us s1 ⟨vs, H1, I1, rv, q⟩ => ⟨I1.kIn, ?_⟩
  have hl : us.length = ps.length := by rw [← rv.length]; exact G.len _ _ _ _ q
  apply wpAny_call
  have bd := (F.binds (ps := ps) hbd) s1 us I1.kIn (by simpa using hl)
  rw [List.append_nil] at bd
  apply codeAny_mono (run_g G hr I1 bd rv q)
  intro r s' hq
  cases r with
  | error e => exact hq.elim
  | ok fl =>
    cases fl with
    | ret u => exact hq
    | next => exact hq
    | brk => exact hq
    | cont => exact hq
def permL {α : Type} (is : List Nat) (ws : List α) : Option (List α) := (is.map fun i => ws[i]?).foldr (fun o r => match o, r with
    | some w, some l => some (w :: l)
    | _, _ => none) (some [])
def permM (is : List Nat) (m : FM) : FM := fun ws h => match permL is ws with
  | some l => m l h
  | none => none
theorem permL_cons {α : Type} (i : Nat) (is : List Nat) (ws : List α) : permL (i :: is) ws = match ws[i]?, permL is ws with
    | some w, some l => some (w :: l)
    | _, _ => none := rfl
def kwM (n : Nat) (is : List Nat) (m : FM) : FM := fun ws h => if ws.length = n then permM is m ws h else none
theorem permL_rvs {M : Mm} {H : Hp} {vs : List V} {ws : List W} (r : RVs M H vs ws) : ∀ {is : List Nat} {l : List W}, permL is ws = some l → ∃ l', permL is vs = some l' ∧ RVs M H l' l
  | [], l, e => by cases e; exact ⟨[], rfl, .nil⟩
  | i :: is, l, e => by
    rw [permL_cons] at e
    cases e1 : ws[i]? with
    | none => rw [e1] at e; cases e
    | some w =>
      cases e2 : permL is ws with
      | none => rw [e1, e2] at e; cases e
      | some l0 =>
        rw [e1, e2] at e
        cases e
        obtain ⟨l', h1, h2⟩ := permL_rvs r e2
        obtain ⟨v, h3, h4⟩ : ∃ v, vs[i]? = some v ∧ RV M H v w := by
          clear e2 h1 h2
          induction r generalizing i with
          | nil => simp at e1
          | cons a t ih => cases i with
            | zero => simp at e1; subst e1; exact ⟨_, rfl, a⟩
            | succ i => exact ih i (by simpa using e1)
        exact ⟨v :: l', by rw [permL_cons, h3, h1], .cons h4 h2⟩
theorem permL_vals {vs : List V} {us : List Value} (r : Vals vs us) : ∀ {is : List Nat} {l : List V}, permL is vs = some l → ∃ l', permL is us = some l' ∧ Vals l l'
  | [], l, e => by cases e; exact ⟨[], rfl, .nil⟩
  | i :: is, l, e => by
    rw [permL_cons] at e
    cases e1 : vs[i]? with
    | none => rw [e1] at e; cases e
    | some w =>
      cases e2 : permL is vs with
      | none => rw [e1, e2] at e; cases e
      | some l0 =>
        rw [e1, e2] at e
        cases e
        obtain ⟨l', h1, h2⟩ := permL_vals r e2
        obtain ⟨v, h3, h4⟩ : ∃ v, us[i]? = some v ∧ RelV w v := by
          clear e2 h1 h2
          induction r generalizing i with
          | nil => simp at e1
          | cons a t ih => cases i with
            | zero => simp at e1; subst e1; exact ⟨_, rfl, a⟩
            | succ i => exact ih i (by simpa using e1)
        exact ⟨v :: l', by rw [permL_cons, h3, h1], .cons h4 h2⟩
theorem d_callK {kws : List Keyword} {ks : List Str} {is : List Nat} (G : GD X.prog X.w X.K X.mg X.base k x st ps m) (hr : RG k X.A) (ha : DK X kws g)
    (hbd : ∀ (kV doc pm : Value) (an : Option Addr) (cdv ct : Value) (us l : List Value), us.length = ks.length → permL is us = some l → bindArgs (PySem.W.fnOf x x (defArgs st) (defBody st) (defScope st) .none kV doc pm an cdv ct) ⟨[], ks.zip us⟩ = pure (ps.zip l))
    (hkl : kws.length = ks.length)
    (hall : (backToKw pos (keywordEach kws X.env)).all (·.1.isSome) = true := by rfl) (hks : (backToKw pos (keywordEach kws X.env)).filterMap (·.1) = ks := by rfl)
    (hpl : ((backTo pos (starEach [] X.env)).any (·.1) || (backToKw pos (keywordEach kws X.env)).any (·.1.isNone)) = false := by rfl)
    (hg : Gl X x := by rfl) (hdb : (x == ("__debug__" : Str)) = false := by decide) : DE X (.Call (.Name x p) [] kws pos) (fA (kwM ks.length is m) g) := by
  obtain ⟨f, fd, F, hm, G⟩ := G.ex
  refine ⟨fun pins s σ H Q I q => ?_⟩
  obtain ⟨M, h, ρ, r, rs, c⟩ := q
  obtain ⟨ws, h1, e1, c1⟩ := Cont.bind (δ := Unit) c
  apply wpAny_Call_Name_kw
  apply ld_glob I hg hm _ hdb
  apply PySem.W.callWith_KW0 (h₀ := X.base) I.ok.mod.kin F.kp hall _ hpl
  refine thn (ha.run pos pins s σ H (fun vs H1 => vs.length = ks.length ∧ ∃ l, permL is vs = some l ∧ spD m l H1 Q E0) I ⟨M, h, ρ, r, rs, ws, h1, e1, fun M1 H1 vs x1 r1 v1 => ?_⟩) fun us s1 ⟨vs, H1, I1, rv, hlen, l, el, q⟩ => ⟨I1.kIn, ?_⟩
  · have c2 := c1 M1 H1 x1
    unfold kwM at c2
    split at c2
    · rename_i hw
      refine ⟨by rw [v1.length]; exact hw, ?_⟩
      unfold permM at c2
      split at c2
      · rename_i l el
        obtain ⟨l', h2, h3⟩ := permL_rvs v1 el
        exact ⟨l', h2, M1, h1, l, r1, h3, c2⟩
      · exact c2.no.elim
    · exact c2.no.elim
  · obtain ⟨l', h2, h3⟩ := permL_vals rv el
    have hl : us.length = ks.length := by rw [← rv.length]; exact hlen
    rw [hks]
    apply wpAny_call
    have bd : BindsTo s1 fd ⟨[], ks.zip us⟩ (ps.zip l') := by
      obtain ⟨oc, od, kV, doc, pm, an, cdv, ct, osl, rfl, lk, hcd⟩ := F.ex
      exact .of_eq (hbd kV doc pm an cdv ct us l' hl h2)
    apply codeAny_mono (run_g G hr I1 bd h3 q)
    intro r s' hq
    cases r with
    | error e => exact hq.elim
    | ok fl =>
      cases fl with
      | ret u => exact hq
      | next => exact hq
      | brk => exact hq
      | cont => exact hq
end
end DL
set_option maxRecDepth 100000
set_option maxHeartbeats 400000
namespace DL
open PySem PySem.Spec PyProof.Rows L2
section
variable {prog : Program} {w : World} {A : Around} {E : Value → Shared → Prop} {s : Shared}
theorem fm_congr {α β : Type} {f g : α → Option β} : ∀ {l : List α}, (∀ a ∈ l, f a = g a) → l.filterMap f = l.filterMap g
  | [], _ => rfl
  | a :: l, h => by rw [List.filterMap_cons, List.filterMap_cons, h a List.mem_cons_self, fm_congr fun b hb => h b (List.mem_cons_of_mem _ hb)]
theorem adjust_back (n : Nat) : Builtin.Slice.sliceAdjust none none (-1) (n : Int) = ((n : Int) - 1, -1) := by
  simp [Builtin.Slice.sliceAdjust]
theorem places_back (n : Nat) : Builtin.Slice.slicePlaces ((n : Int) - 1) (-1) (-1) = n := by
  unfold Builtin.Slice.slicePlaces
  by_cases h : n = 0
  · subst h; decide
  · simp
    omega
theorem pick_back (xs : Array Value) : ((List.range xs.size).filterMap fun (m : Nat) => xs[(((xs.size : Int) - 1) + (m : Int) * -1).toNat]?).toArray = xs.toList.reverse.toArray := by
  have e : ((List.range xs.size).filterMap fun (m : Nat) => xs[(((xs.size : Int) - 1) + (m : Int) * -1).toNat]?) = ((List.range xs.size).map fun k => xs.size - 1 - k).filterMap (xs[·]?) := by
    rw [List.filterMap_map]
    apply fm_congr
    intro k hk
    have := List.mem_range.mp hk
    have e : (((xs.size : Int) - 1) + (k : Int) * -1).toNat = xs.size - 1 - k := by omega
    simp only [e, Function.comp]
  rw [e, PySem.W.krv_range, List.filterMap_reverse, PySem.W.krv_all]
theorem tup_back {t sl : Addr} {items : Array Value} {vl vu vs : Value} {Q : Value → Shared → Prop} (ht : IsTup s.heap t items) (hs : s.heap.IsSliceOf sl vl vu vs) (pl : IsPart vl none) (pu : IsPart vu none) (ps : IsPart vs (some (-1)))
    (h : Q (.ref s.heap.objs.size) { s with heap := s.heap.push { cls := .type "tuple", data := .seq items.toList.reverse.toArray } })
    (hsz : items.size ≤ sizeLine) : wpAny (model prog w) A (getItem (.ref t) (.ref sl)) Q E s := by
  have hz : sizeOk (.seq items.toList.reverse.toArray) := by
    show items.toList.reverse.toArray.size ≤ sizeLine
    rw [List.size_toArray, List.length_reverse, Array.length_toList]; exact hsz
  obtain ⟨os, h1, h2, h3⟩ := id hs
  have ty : s.TypeIs (.ref sl) "slice" := ⟨os, h1, h2⟩
  unfold getItem
  try with_reducible refine wpAny_holding ?_
  first | refine wpAny_bind (wpAny_pure ?_) | skip
  apply wpAny_bind
  apply wpAny_sequenceKey ht.typeIs (by decide)
  apply wpAny_bind
  apply wpAny_callSpecial?_slot (name := Str.ofString "__getitem__") ht.typeIs PyProof.Rows.slot_tuple_getitem
  apply wpAny_call_entry PyProof.Rows.slot_tuple_getitem ht.typeIs entry_tuple_getitem _ (args_tuple_getitem _ _)
  show wpAny _ _ (Builtin.Tuple.tupleItemsOf (.ref t) >>= _) _ _ s
  apply wpAny_bind
  apply tupleItemsOf_ ht
  apply wpAny_bind
  apply wpAny_typeOf ty
  rw [if_pos (by decide)]
  apply wpAny_bind
  unfold Builtin.Slice.sliceApplied Builtin.Slice.sliceFields
  refine wpAny_bind (wpAny_bind (wpAny_field h1 h3 (x := vl) rfl (wpAny_bind (wpAny_field h1 h3 (x := vu) rfl (wpAny_bind (wpAny_field h1 h3 (x := vs) rfl (wpAny_pure ?_)))))))
  refine wpAny_bind (HT.slicePart_ ps ?_)
  show wpAny _ _ (if ((-1 : Int) == 0) = true then _ else _) _ _ s
  rw [if_neg (by decide)]
  refine wpAny_bind (HT.slicePart_ pl (wpAny_bind (HT.slicePart_ pu (wpAny_bind (wpAny_pure ?_)))))
  show wpAny _ _ (match Builtin.Slice.sliceAdjust none none (-1) (items.size : Int) with | (lo, hi) => pure (lo, (-1 : Int), Builtin.Slice.slicePlaces lo hi (-1))) _ _ s
  rw [adjust_back]
  show wpAny _ _ (pure (((items.size : Int) - 1), (-1 : Int), Builtin.Slice.slicePlaces ((items.size : Int) - 1) (-1) (-1))) _ _ s
  rw [places_back]
  apply wpAny_pure
  show wpAny _ _ (if (((items.size : Int) - 1) == 0 && (-1 : Int) == 1 && items.size == items.size) = true then _ else _) _ _ s
  rw [if_neg (by simp), pick_back]
  first
    | exact wpAny_bind (m := Builtin.Tuple.tupleExact _) (wpAny_newObj_type (wpAny_pure ⟨_, rfl, wpAny_pure h⟩) hz)
    | exact wpAny_bind (m := Builtin.Tuple.tupleExact _) (wpAny_newObj_type (wpAny_bind (wpAny_pure (wpAny_pure ⟨_, rfl, wpAny_pure h⟩))) hz)
    | exact wpAny_bind (wpAny_bind (m := Builtin.Tuple.tupleExact _) (wpAny_newObj_type (wpAny_pure (wpAny_pure ⟨_, rfl, wpAny_pure h⟩)) hz))
    | exact wpAny_bind (wpAny_bind (m := Builtin.Tuple.tupleExact _) (wpAny_newObj_type (wpAny_pure ⟨_, rfl, wpAny_pure h⟩) hz))
end
section
variable {X : Cx}
def revS (z : Str) : Str := ⟨z.cps.toList.reverse.toArray⟩
def tBack (K : PySem.W.Frag) (te : TE) : TE := fun σ H Q => te σ H fun x H1 => (∃ a xs, x = .ref a ∧ SqL K H1 a xs ∧ ∀ p, H1 p = none → Q (.ref p) (upd H1 p (.lst xs.reverse))) ∨ (∃ a xs, x = .ref a ∧ SqT K H1 a xs ∧ ∃ b : Bool, ∀ p o, H1 p = none → o.dict = none → Q (.ref p) (upd H1 p (bareO b o xs.reverse))) ∨
  ∃ z, x = .str z ∧ z.length ≤ sizeLine ∧ Q (.str (revS z)) H1
theorem rev_made (z : Str) (t u : Tok) : sliceMade z t none none (some (-1, u)) = .str (revS z) := by
  unfold sliceMade slicePicked
  simp only [Option.map_some, Option.getD_some, Option.map_none]
  rw [if_neg (by simp), picked_rev]
  congr 2
  have e : z.length = z.cps.size := rfl
  rw [e, PySem.W.krv_range, List.filterMap_reverse, PySem.W.krv_all]
theorem pe_back {e : Expr} {te : TE} {k : Nat} {p1 p2 p3 pos : Pos} (he : PE X e te) : PE X (.Subscript e (.Slice none none (some (.UnaryOp .USub (.Constant (.int 1) k p1) p2)) p3) pos) (tBack X.K te) := by
  constructor
  intro pins s σ H Q I h
  apply Subscript_
  refine thn (he.run pins s σ H _ I h) fun v s1 ⟨x, H1, I1, r1, q1⟩ => ?_
  have step : PO X (some (.UnaryOp .USub (.Constant (.int 1) k p1) p2)) (tPart (tUn (rU fun i => .int (-i)) (tC (.int 1)))) := po_some (pe_un un_neg pe_int)
  apply wpAny_Slice
  refine thn (po_none.run pins s1 σ H1 (fun o G => o = none ∧ G = H1) I1 ⟨rfl, rfl⟩) fun vl s2 ⟨l, H2, I2, pl, el, e2⟩ => ?_
  subst el e2
  refine thn (po_none.run pins s2 σ H2 (fun o G => o = none ∧ G = H2) I2 ⟨rfl, rfl⟩) fun vu s3 ⟨u, H3, I3, pu, eu, e3⟩ => ?_
  subst eu e3
  refine thn (step.run pins s3 σ H3 (fun o G => o = some (-1) ∧ G = H3) I3 ⟨1, rfl, -1, rfl, rfl, rfl⟩) fun vs s4 ⟨o, H4, I4, ps, eo, e4⟩ => ?_
  subst eo e4
  have I5 : Inv X pins σ H4 { s4 with heap := s4.heap.push { cls := .type "slice", data := .fields #[vl, vu, vs] } } := I4.kept (t' := s4.toks) fun b ob q => Heap.get?_push_of_some _ q
  rcases q1 with ⟨a, xs, rfl, hx, q⟩ | ⟨a, xs, rfl, hx, bb, q⟩ | ⟨z, rfl, hz, q⟩
  · cases r1
    obtain ⟨its, r, ht, hz⟩ := I5.list hx
    have hlen := r.length
    apply tail_any (ops := [.ref a, .ref s4.heap.objs.size]) ht.isList.typeIs (PySem.slot_list_getitem.lookup) _ (by with_unfolding_all rfl)
    apply wpAny_getItem_list_slice ht.isList (Heap.IsSliceOf.new _ vl vu vs) pl pu ps (by decide) _ (by rw [List.size_toArray]; omega)
    rw [PySem.W.krv_pick]
    refine ⟨.ref _, _, I5.laid (t' := s4.toks) (o := .lst xs.reverse) (fun b ob q => Heap.get?_push_of_some _ q) (Nat.le_refl _) ?_, rfl, q _ (I5.hok.fresh (Nat.le_refl _))⟩
    exact ⟨by rw [List.length_reverse]; exact hz, _, 0, r.reverse, Heap.get?_push_size _ rfl⟩
  · cases r1
    obtain ⟨its, r, ht, hz⟩ := I5.tuple hx
    have hlen := r.length
    apply tail_any (ops := [.ref a, .ref s4.heap.objs.size]) ht.typeIs (PyProof.Rows.slot_tuple_getitem.lookup) _ (by with_unfolding_all rfl)
    apply tup_back ht (Heap.IsSliceOf.new _ vl vu vs) pl pu ps _ (by rw [List.size_toArray]; omega)
    exact ⟨.ref _, _, I5.laid (t' := s4.toks) (o := bareO bb _ xs.reverse) (fun b ob q => Heap.get?_push_of_some _ q) (Nat.le_refl _) (bare_ok bb (Heap.get?_push_size _ rfl) fun G => ⟨by rw [List.length_reverse]; exact hz, _, by simpa using r.reverse, IsTup.new _ _⟩), rfl, q _ _ (I5.hok.fresh (Nat.le_refl _)) rfl⟩
  · obtain ⟨t, rfl⟩ := r1
    apply tail_any (ops := [.str z t, .ref s4.heap.objs.size]) (typeIs_str _ _ _) (F.slot_str_getitem.lookup) _ (by with_unfolding_all rfl)
    obtain ⟨os, hos, hcs, hds⟩ := Heap.IsSliceOf.new s4.heap vl vu vs
    obtain ⟨l, rfl, el⟩ := IsPart.raw pl
    obtain ⟨u, rfl, eu⟩ := IsPart.raw pu
    obtain ⟨st, rfl, es⟩ := IsPart.raw ps
    have hl : l = none := by cases l with | none => rfl | some _ => cases el
    have hu : u = none := by cases u with | none => rfl | some _ => cases eu
    obtain ⟨tk, hst⟩ : ∃ tk, st = some (-1, tk) := by
      cases st with
      | none => cases es
      | some p => obtain ⟨i, tk⟩ := p; simp at es; exact ⟨tk, by rw [es]⟩
    subst hl hu hst
    apply wpAny_getItem_str_slice (l := none) (u := none) (st := some (-1, tk)) ⟨os, hos, hcs, hds⟩ rfl
    rw [rev_made]
    refine ⟨?_, .str _, H4, I5.tok _, ⟨_, rfl⟩, q⟩
    show (revS z).cps.size ≤ sizeLine
    simp only [revS, List.size_toArray, List.length_reverse, Array.length_toList]
    exact hz
def backW (m : Bool) (w : W) (h : Hh) : Option (W × Hh) := match w with
  | .dat (.list ds) => mkL m ds.reverse h
  | .dat (.tuple ds) => some (.dat (.tuple ds.reverse), h)
  | .dat (.str z) => if z.length ≤ sizeLine then some (.dat (.str (revS z)), h) else none
  | .ref n => match lstAt h n with
    | some ds => mkL m ds.reverse h
    | none => none
  | _ => none
def fRev (m : Bool) (f : EM) : EM := fun ρ h => obnd (f ρ h) fun w h1 => backW m w h1
theorem d_rev (m : Bool) {e : Expr} {f : EM} {k : Nat} {p1 p2 p3 pos : Pos} (he : DE X e f) : DE X (.Subscript e (.Slice none none (some (.UnaryOp .USub (.Constant (.int 1) k p1) p2)) p3) pos) (fRev m f) := (pe_back he).weak fun σ H Q => by
  rintro ⟨M, h, ρ, r, rs, c⟩
  obtain ⟨w, h1, e1, c1⟩ := Cont.bind (δ := Unit) c
  refine ⟨M, h, ρ, r, rs, w, h1, e1, fun M1 H1 v x1 r1 v1 => ?_⟩
  have c2 := c1 M1 H1 x1
  unfold backW at c2
  split at c2
  · cases (show RD M1 H1 _ _ from v1) with
    | lst n e q => exact .inl ⟨_, _, rfl, .of e, fun p np => mkL_fin r1 np q.rev c2⟩
  · cases (show RD M1 H1 _ _ from v1) with
    | tup n e q => exact .inr (.inl ⟨_, _, rfl, e.sq, _, fun p o np ho => mkB_fin r1 np q.rev ho c2⟩)
  · split at c2
    · rename_i hz
      cases (show RD M1 H1 _ _ from v1)
      exact .inr (.inr ⟨_, rfl, hz, c2.here r1 (.str _)⟩)
    · exact c2.no.elim
  · split at c2
    · rename_i n ds el
      obtain ⟨a, ea, rfl⟩ := v1
      obtain ⟨xs, hx, q⟩ := lstAt_ok r1 el ea
      exact .inl ⟨_, _, rfl, .of hx, fun p np => mkL_fin r1 np q.rev c2⟩
    · exact c2.no.elim
  · exact c2.no.elim
def rRepr (K : PySem.W.Frag) : List V → Hp → VK → Prop := fun xs H Q => ∃ a d, xs = [.ref a] ∧ Dp K H (.ref a) d ∧ shp d = true ∧ d.showable = true ∧ d.shown.length ≤ sizeLine ∧ Q (.str d.shown) H
theorem cr_repr {k : Nat} (hr : RG k X.A) : CallR X (.builtin "repr") (rRepr X.K) := by
  intro pins s σ H xs us Q I r h
  obtain ⟨a, d, rfl, dp, sh, hs, hz, q⟩ := h
  obtain rfl := Vals.ref1 r
  obtain ⟨as, rd⟩ := Dp.reads I d _ _ dp rfl
  have hd := SeqAt.depth_of_shaped sh
  apply repr_of_reads' rd hs (PyData.noDict_hsm (PyData.hasDict_of_canLay d (SeqAt.canLay_of_shaped sh))) hr.gd _ (fun _ _ e => e) _ hz
  · have := hr.room.un; omega
  · intro h' u tk hk
    exact ⟨.str _, H, I.kept hk, ⟨u, rfl⟩, q⟩
end
end DL
set_option maxRecDepth 100000
set_option maxHeartbeats 400000
namespace DL
open PySem PySem.Spec PyProof.Rows L2
structure Bi (mg : Str → Option Value) : Prop where
  len : mg "len" = none
  abs : mg "abs" = none
  int : mg "int" = none
  max : mg "max" = none
  min : mg "min" = none
  all : mg "all" = none
  any : mg "any" = none
  sum : mg "sum" = none
  tuple : mg "tuple" = none
  list : mg "list" = none
  dict : mg "dict" = none
  sorted : mg "sorted" = none
  isinstance : mg "isinstance" = none
  str : mg "str" = none
  bool : mg "bool" = none
  range : mg "range" = none
  enumerate : mg "enumerate" = none
  zip : mg "zip" = none
  reversed : mg "reversed" = none
  repr : mg "repr" = none
  set : mg "set" = none
section
variable {X : Cx} {p pos : Pos} {e e2 : Expr} {es : List Expr} {g : AM} {f : EM}
theorem bt_int : bootBuiltins "int" = some (.type "int") := by decide +kernel
theorem bt_str : bootBuiltins "str" = some (.type "str") := by decide +kernel
theorem bt_list : bootBuiltins "list" = some (.type "list") := by decide +kernel
theorem bt_tuple : bootBuiltins "tuple" = some (.type "tuple") := by decide +kernel
theorem bt_bool : bootBuiltins "bool" = some (.type "bool") := by decide +kernel
theorem bt_dict : bootBuiltins "dict" = some (.type "dict") := by decide +kernel
theorem d_abs (hm : X.mg "abs" = none) (ha : DA X [e] g) (hg : Gl X "abs" := by rfl) (he : starEach [e] X.env = (false, eval e X.env) :: starEach [] X.env := by rfl) (hpl : (backTo pos (starEach [] X.env)).any (·.1) = false := by rfl) : DE X (.Call (.Name "abs" p) [e] [] pos) (fA absW g) :=
  d_callB call_abs s_abs hm (by decide +kernel) ha hg (by decide) (by decide) he hpl
theorem d_all (hc : X.calm = true) (hm : X.mg "all" = none) (ha : DA X [e] g) (hg : Gl X "all" := by rfl) (he : starEach [e] X.env = (false, eval e X.env) :: starEach [] X.env := by rfl) (hpl : (backTo pos (starEach [] X.env)).any (·.1) = false := by rfl) : DE X (.Call (.Name "all" p) [e] [] pos) (fA allW g) :=
  d_callB (cr_all hc) s_all hm (by decide +kernel) ha hg (by decide) (by decide) he hpl
theorem d_sorted {k : Nat} (hr : RG k X.A) (m : Bool) (hm : X.mg "sorted" = none) (ha : DA X [e] g) (hg : Gl X "sorted" := by rfl) (he : starEach [e] X.env = (false, eval e X.env) :: starEach [] X.env := by rfl) (hpl : (backTo pos (starEach [] X.env)).any (·.1) = false := by rfl) : DE X (.Call (.Name "sorted" p) [e] [] pos) (fA (sortW m) g) :=
  d_callB (cr_sortedA hr.room) (s_sorted m) hm (by decide +kernel) ha hg (by decide) (by decide) he hpl
theorem d_intC (hm : X.mg "int" = none) (ha : DA X [e] g) (hg : Gl X "int" := by rfl) (he : starEach [e] X.env = (false, eval e X.env) :: starEach [] X.env := by rfl) (hpl : (backTo pos (starEach [] X.env)).any (·.1) = false := by rfl) : DE X (.Call (.Name "int" p) [e] [] pos) (fA intC g) :=
  d_callT call_int1 s_intC hm bt_int ha hg (by decide) (by decide) he hpl
theorem d_tuple (hm : X.mg "tuple" = none) (ha : DA X [e] g) (hg : Gl X "tuple" := by rfl) (he : starEach [e] X.env = (false, eval e X.env) :: starEach [] X.env := by rfl) (hpl : (backTo pos (starEach [] X.env)).any (·.1) = false := by rfl) : DE X (.Call (.Name "tuple" p) [e] [] pos) (fA tupleW g) :=
  d_callT call_tupB s_tuple hm bt_tuple ha hg (by decide) (by decide) he hpl
theorem d_list (m : Bool) (hm : X.mg "list" = none) (ha : DA X [e] g) (hg : Gl X "list" := by rfl) (he : starEach [e] X.env = (false, eval e X.env) :: starEach [] X.env := by rfl) (hpl : (backTo pos (starEach [] X.env)).any (·.1) = false := by rfl) : DE X (.Call (.Name "list" p) [e] [] pos) (fA (listW m) g) :=
  d_callT call_list_of (s_list m) hm bt_list ha hg (by decide) (by decide) he hpl
end
def noList (K : PySem.W.Frag) : Bool := K.all fun p => match p.2.cls with
  | .type "list" => false
  | _ => true
theorem lookup_mem {K : PySem.W.Frag} {a : Addr} {o : Obj} (e : K.lookup a = some o) : (a, o) ∈ K := by
  induction K with
  | nil => cases e
  | cons p r ih =>
    obtain ⟨b, u⟩ := p
    rw [List.lookup_cons] at e
    split at e
    · rename_i q
      have : a = b := by simpa using q
      cases e
      subst this
      exact List.mem_cons_self
    · exact List.mem_cons_of_mem _ (ih e)
end DL
set_option maxRecDepth 100000
set_option maxHeartbeats 1000000
namespace DL
open PySem PySem.Spec PyProof.Rows L2
theorem enum_meets {v : Value} {o : Obj} {H : Heap → Prop} (B : Begins v o H) : Meets (Builtin.«enumerate.__new__» ⟨[.type "enumerate", v], []⟩) (fun _ R s => H s.heap ∧
    R (.ok (.ret (.ref (s.heap.push o).objs.size))) { s with heap := (s.heap.push o).push { cls := .type "enumerate", data := .fields #[.none, .bool false, .ref s.heap.objs.size, rawInt 0, .none, .none] } }) := by
  apply Meets.of_wp
  intro prog w A R s h
  obtain ⟨hp, g, d, tk, os⟩ := s
  obtain ⟨h1, h⟩ := h
  have hsub := sub_enumerate
  have it : ∀ {A' : Around} {E : Value → Shared → Prop} {Q : Value → Shared → Prop}, Q (.ref hp.objs.size) ⟨hp.push o, g, d, tk, os⟩ → wpAny (model prog w) A' (pyIter v) Q E ⟨hp, g, d, tk, os⟩ := by
    intro A' E Q q
    exact B.iter prog w _ _ ⟨hp, g, d, tk, os⟩ _ h1 q
  wp_walk using it
  apply wpAny_stack_any
  intro st
  apply wpAny_pure
  split
  · rename_i c _ _ _ _ _
    cases (c == Value.type "enumerate") <;> (wp_walk using it; exact ⟨_, rfl, h⟩)
  · wp_walk using it
    exact ⟨_, rfl, h⟩
section
variable {prog : Program} {w : World} {A : Around} {E : Value → Shared → Prop} {s : Shared}
theorem call_enumT {v : Value} {o : Obj} {H : Heap → Prop} {Q : Value → Shared → Prop} (B : Begins v o H) (h1 : H s.heap)
    (h : ∀ h', IsEnum h' (s.heap.objs.size + 1) s.heap.objs.size 0 .none → h'.get? s.heap.objs.size = some o → (∀ b o, s.heap.get? b = some o → h'.get? b = some o) → Q (.ref (s.heap.objs.size + 1)) { s with heap := h' }) :
    wpAny (model prog w) A (call (.type "enumerate") [v]) Q E s := by
  apply callType_new F.called_enumerate (by decide) (F.typeCall_enumerate_1 _) (F.newCall_enumerate_1 _) (fun obj => F.args_object_init_2 obj _) F.entry_enumerate_new (enum_meets B)
  refine ⟨h1, ?_⟩
  have hz : (s.heap.push o).objs.size = s.heap.objs.size + 1 := Heap.size_push ..
  show _ ∧ _
  rw [hz]
  have he : IsEnum ((s.heap.push o).push { cls := .type "enumerate", data := .fields #[.none, .bool false, .ref s.heap.objs.size, rawInt 0, .none, .none] }) (s.heap.objs.size + 1) s.heap.objs.size 0 .none := by
    have z := Heap.get?_push_size (s.heap.push o) (o := { cls := .type "enumerate", data := .fields #[.none, .bool false, .ref s.heap.objs.size, rawInt 0, .none, .none] }) rfl
    rw [hz] at z
    exact z
  exact ⟨⟨_, he, rfl⟩, h _ he (Heap.get?_push_of_some _ (Heap.get?_push_size _ B.free)) fun b o x => Heap.get?_push_of_some _ (Heap.get?_push_of_some _ x)⟩
end
def IteT (K : PySem.W.Frag) (a : Addr) : It :=
  ⟨fun i H => ∃ (xs : List V) (x : V), SqT K H a xs ∧ xs[i]? = some x, fun i H v H' => ∃ T x, v = .ref T ∧ H T = none ∧ H' = upd H T (.tup [.int (i : Nat), x]) ∧ ∀ xs, SqT K H a xs → xs[i]? = some x, fun i H => ∃ xs : List V, SqT K H a xs ∧ xs.length ≤ i⟩
theorem turn_enumT {P : Program} {w : World} {K : PySem.W.Frag} {elts : List Expr} {kk : Nat} {tpos : Pos} (a e it : Addr) :
    Turn P w K (.Tuple elts kk tpos) (IteT K a) [e, it] e (fun i h => (∃ old, IsEnum h e it ((i : Nat) : Int) old) ∧ h.IsTupleIter it a i ∧ e ≠ it ∧ a ≠ it ∧ e ≠ a) where
  mem := by simp
  obj := fun i h st b hb => by
    obtain ⟨⟨old, he⟩, ⟨o, ho, hc, hd⟩, _⟩ := st
    have e' : b = e ∨ b = it := by simpa using hb
    rcases e' with z | z
    · rw [z]; exact ⟨_, he, fun v q => nomatch q⟩
    · rw [z]; exact ⟨o, ho, fun v q => by rw [hd] at q; cases q⟩
  keep := fun i h h' st k => let ⟨⟨old, he⟩, hi, hne⟩ := st; ⟨⟨old, k e (by simp) _ he⟩, hi.at fun o q => k it (by simp) o q, hne⟩
  item := by
    intro X hP hw hK hc i pins s σ H E I hf st hg
    subst hP hw hK
    obtain ⟨⟨old, he⟩, hit, hne, hna, hea⟩ := st
    obtain ⟨xs, x, hq, hx⟩ := hg
    obtain ⟨its, rv, p, hz⟩ := I.tuple hq
    obtain ⟨u, hu, ru⟩ := rv.get hx
    have hel : e < s.heap.objs.size := Heap.lt_size he
    have hil : it < s.heap.objs.size := by obtain ⟨_, q, _⟩ := hit; exact Heap.lt_size q
    have hi : i < its.toArray.size := by
      have := (List.getElem?_eq_some_iff.mp hu).1
      simpa using this
    have DD := Draws.tuple (prog := X.prog) (w := X.w) (A := X.A.in1) (I.ok.hd hc) it a hna its.toArray
    apply wpAny_pyNext_enum_itemD DD he ⟨hit, p⟩ hi hne (by simp [hne, hea])
    intro x' h' tk hP ho hs hT hsz hk
    obtain ⟨hit', p'⟩ := hs
    have ex : x' = u := by
      have h2 : its[i]? = some x' := by simpa using hP
      rw [hu] at h2
      exact (Option.some.inj h2).symm
    subst ex
    refine ⟨_, rfl, wpAny_letOwnedTupleGo_enum (s := { s with heap := h', toks := tk + 1 }) ho fun h'' he' sb => ?_⟩
    have hT2 : h''.get? s.heap.objs.size = some { cls := .type "tuple", data := .seq #[.int i tk, x'] } := (sb.2 _ (Nat.ne_of_gt hel)).trans hT
    have new : ObjOk X.prog X.w (upd H s.heap.objs.size (.tup [.int (i : Nat), x])) h'' s.heap.objs.size (.tup [.int (i : Nat), x]) :=
      ⟨by show 2 ≤ sizeLine; decide, [.int i tk, x'], .cons ⟨_, rfl⟩ (.cons ru .nil), ⟨_, hT2, rfl, _, rfl⟩⟩
    have I1 : Inv X pins σ (upd H s.heap.objs.size (.tup [.int (i : Nat), x])) { s with heap := h'', toks := tk + 1 } := by
      apply I.turnedNew (ch := [e, it]) _ hf (Nat.le_refl _) new
      intro b ob hb q
      have h1 : b ≠ e := fun z => hb (by simp [z])
      have h2 : b ≠ it := fun z => hb (by simp [z])
      rw [sb.2 b h1]
      exact hk b ob h1 h2 q
    refine ⟨.ref s.heap.objs.size, _, I1, rfl, ⟨_, x, rfl, I.hok.fresh (Nat.le_refl _), rfl, fun ys hy => by rw [I.tuple_inj hy hq]; exact hx⟩, ⟨⟨x', ?_⟩, hit'.at fun o q => (sb.2 it (Ne.symm hne)).trans q, hne, hna, hea⟩, fun b hb => ?_⟩
    · have e1 : ((i + 1 : Nat) : Int) = (i : Int) + 1 := by omega
      rw [e1]; exact he'
    · have hb' : b < s.heap.objs.size := by
        have e' : b = e ∨ b = it := by simpa using hb
        rcases e' with z | z
        · rw [z]; exact hel
        · rw [z]; exact hil
      rw [upd_ne (Nat.ne_of_lt hb')]
      exact (hf b hb).1
  done := by
    intro X hP hw hK hc i pins s σ H E I hf st hg
    subst hP hw hK
    obtain ⟨⟨old, he⟩, hit, hne, hna, hea⟩ := st
    obtain ⟨xs, hq, hx⟩ := hg
    obtain ⟨its, rv, p, hz⟩ := I.tuple hq
    obtain ⟨f0, f1, f2, f3, f4, f5⟩ := hf it (by simp)
    have hl := rv.length
    unfold pyNext
    have hT : s.TypeIs (.ref e) "enumerate" := ⟨_, he, rfl⟩
    apply wpAny_bind
    apply wpAny_attempt
    apply wpAny_callSpecial?_slot (name := Str.ofString "__next__") hT F.slot_enumerate_next
    apply wpAny_call_entry F.slot_enumerate_next hT F.entry_enumerate_next _ (F.args_enumerate_next_1 _)
    show wpAny _ _ (field (.ref e) 2 >>= _) _ _ _
    apply wpAny_bind
    apply wpAny_field he rfl (x := .ref it) rfl
    apply wpAny_bind
    apply wpAny_nextOf_tuple_end (A := X.A.in1) (show X.A.in1.handled = none from I.ok.hd hc) hit p (by simp; omega)
    intro h' x he' hx'
    obtain ⟨o, ho, hc'⟩ := hx'
    refine wpAny_bind (wpAny_isInstance (T := "StopIteration") (b := true) ⟨o, ho, hc'⟩ isSubtype_stop ?_)
    apply wpAny_pure
    exact ⟨rfl, I.turned (t' := s.toks) (fun b o hb q => he' b o hb q) f0 f1 f3 f4 f5⟩
  self := fun A i s Q E st h => let ⟨⟨_, he⟩, _⟩ := st; wpAny_pyIter_enum he h
def iEnumT (K : PySem.W.Frag) (ta : TA) : TI := fun σ H R => ta σ H fun vs H1 => (∃ a xs, vs = [.ref a] ∧ SqL K H1 a xs ∧ R (Ite K a) H1) ∨ ∃ a xs, vs = [.ref a] ∧ SqT K H1 a xs ∧ H1 a ≠ none ∧ R (IteT K a) H1
theorem pi_enumT {X : Cx} {e : Expr} {ta : TA} {p pos tpos : Pos} {elts : List Expr} {kk : Nat} (hg : Gl X "enumerate") (hm : X.mg "enumerate" = none) (ha : PA X [e] ta) (hs : starEach [e] X.env = [(false, eval e X.env)] := by rfl) :
    PI X (.Tuple elts kk tpos) (.Call (.Name "enumerate" p) [e] [] pos) (iEnumT X.K ta) := by
  constructor
  intro pins s σ H R I h
  refine Call_ ?_
  apply ld_blt I hg hm boot_enumerate
  apply PyProof.Rows.callWith_type1 _ hs rfl
  refine thn (ha.run pos pins s σ H _ I h) fun us s1 ⟨vs, H1, I1, r1, q1⟩ => ?_
  rcases q1 with ⟨a, xs, ex, hq, q⟩ | ⟨a, xs, ex, hq, hn, q⟩
  · subst ex
    obtain rfl := Vals.ref1 r1
    obtain ⟨its, rv, p', hz⟩ := I1.list hq
    apply call_enumerate_list p'.isList
    intro h' he hit hsz hk
    apply wpAny_pyIter_enum he
    have I2 : Inv X pins σ H1 { s1 with heap := h' } := I1.kept (t' := s1.toks) hk
    refine ⟨s1.heap.objs.size + 1, [s1.heap.objs.size + 1, s1.heap.objs.size], _, _, H1, rfl, I2, turn_enum a (s1.heap.objs.size + 1) s1.heap.objs.size, ⟨⟨.none, he⟩, hit, Nat.succ_ne_self _⟩, fun b hb => ?_, q⟩
    have hle : s1.heap.objs.size ≤ b := by
      have e' : b = s1.heap.objs.size + 1 ∨ b = s1.heap.objs.size := by simpa using hb
      rcases e' with z | z
      · rw [z]; exact Nat.le_succ _
      · rw [z]; exact Nat.le_refl _
    exact I1.fpOk hle (I1.hok.fresh hle)
  · subst ex
    obtain rfl := Vals.ref1 r1
    obtain ⟨its, rv, p', hz⟩ := I1.tuple hq
    have hlt : a < s1.heap.objs.size := p'.lt
    apply call_enumT (begins_tuple a its.toArray) p'
    intro h' he hit hk
    apply wpAny_pyIter_enum he
    have I2 : Inv X pins σ H1 { s1 with heap := h' } := I1.kept (t' := s1.toks) hk
    refine ⟨s1.heap.objs.size + 1, [s1.heap.objs.size + 1, s1.heap.objs.size], _, _, H1, rfl, I2, turn_enumT a (s1.heap.objs.size + 1) s1.heap.objs.size, ⟨⟨.none, he⟩, ⟨_, hit, rfl, rfl⟩, Nat.succ_ne_self _, Nat.ne_of_lt hlt, Nat.ne_of_gt (Nat.lt_succ_of_lt hlt)⟩, fun b hb => ?_, q⟩
    have hle : s1.heap.objs.size ≤ b := by
      have e' : b = s1.heap.objs.size + 1 ∨ b = s1.heap.objs.size := by simpa using hb
      rcases e' with z | z
      · rw [z]; exact Nat.le_succ _
      · rw [z]; exact Nat.le_refl _
    exact I1.fpOk hle (I1.hok.fresh hle)
end DL
set_option maxRecDepth 100000
set_option maxHeartbeats 400000
namespace DL
open PySem PySem.Spec PyProof.Rows L2
theorem itd_enumT {K : PySem.W.Frag} {M : Mm} {H : Hp} {a : Addr} {xs : List V} {ds : List D} (n : ¬ M.Has a) (ha : TupAt H a xs ds) (q : RDs M H xs ds) : ItD M H (IteT K a) (enumD 0 ds) := fun M1 H1 x tr => by
  have h1 := (ha.to fun _ z => x.st n z).sq (K := K)
  have q1 := q.mono x
  refine ⟨fun i d e => ?_, xs, h1, by rw [enumD_len, q.length]; exact Nat.le_refl _⟩
  obtain ⟨d', e1, rfl⟩ := enumD_get e
  obtain ⟨v, e2, r⟩ := q1.get e1
  refine ⟨⟨xs, v, h1, e2⟩, fun y H2 hy => ?_⟩
  obtain ⟨T, u, rfl, nT, rfl, hu⟩ := hy
  have eu : u = v := by
    have := hu xs h1
    rw [e2] at this
    exact (Option.some.inj this).symm
  subst eu
  refine ⟨same_new nT, RD.tup (new_out tr nT) (.inl ⟨rfl, upd_same⟩) ?_⟩
  rw [Nat.zero_add]
  exact .cons (.int _) (.cons (r.mono (grow_ext (same_new nT))) .nil)
def enumA (g : AM) : IM := fun ρ h => obnd (g ρ h) fun ws h1 => match ws with
  | [.dat (.list ds)] => some (enumD 0 ds, h1)
  | [.dat (.tuple ds)] => some (enumD 0 ds, h1)
  | _ => none
section
variable {X : Cx}
theorem di_enumA (hm : X.mg "enumerate" = none) {e : Expr} {elts : List Expr} {kk : Nat} {p pos tpos : Pos} {g : AM} (ha : DA X [e] g) (hg : Gl X "enumerate" := by rfl) (hs : starEach [e] X.env = [(false, eval e X.env)] := by rfl) : DI X (.Tuple elts kk tpos) (.Call (.Name "enumerate" p) [e] [] pos) (enumA g) := (pi_enumT hg hm ha hs).weak fun σ H R => by
  rintro ⟨M, h, ρ, ds, h', r, rs, e0, k⟩
  unfold enumA at e0
  cases eg : g ρ h with
  | none => rw [eg] at e0; cases e0
  | some pr =>
    obtain ⟨ws, h1⟩ := pr
    rw [eg] at e0
    simp only [obnd_some] at e0
    refine ⟨M, h, ρ, r, rs, ws, h1, eg, fun M1 H1 vs x1 r1 v1 => ?_⟩
    split at e0
    · cases e0
      obtain ⟨v, rfl, rv⟩ := rvs1 v1
      cases (show RD M1 H1 _ _ from rv) with
      | lst n e q => exact .inl ⟨_, _, rfl, .of e, k M1 H1 _ x1 r1 (itd_enum n e q)⟩
    · cases e0
      obtain ⟨v, rfl, rv⟩ := rvs1 v1
      cases (show RD M1 H1 _ _ from rv) with
      | tup n e q => exact .inr ⟨_, _, rfl, e.sq, (by obtain ⟨_, z⟩ := e.some_; rw [z]; exact nofun), k M1 H1 _ x1 r1 (itd_enumT n e q)⟩
    · cases e0
end
end DL
set_option maxRecDepth 100000
set_option maxHeartbeats 400000
namespace DL
open PySem PySem.Spec PyProof.Rows L2
def moD : MO → D
  | .lst ds => .list ds
  | .dic es => .dict es
  | .dit es => .dict ((.none, .none) :: es)
  | .tab _ _ => .none
  | .ins _ _ => .none
def isTab : MO → Bool
  | .tab _ _ => true
  | .ins _ _ => true
  | .dit _ => true
  | _ => false
def isR (n : Nat) : Option W → Bool
  | some (.ref m) => decide (m = n)
  | some (.pack _) => true
  | _ => false
def frz (i : Nat) (ρ : Env) (h : Hh) : Option (Env × Hh) := match ρ[i]? with
  | some (some (.ref n)) => match h[n]? with
    | some (some o) => if ((ρ.set i none).any (isR n) || isTab o) = true then none else some (ρ.set i (some (.dat (moD o))), h.set n none)
    | _ => none
  | _ => none
def sFrz (i : Nat) (f : SM) : SM := fun ρ h => match frz i ρ h with
  | some (ρ', h') => f ρ' h'
  | none => none
section
variable {M : Mm} {H : Hp} {h : Hh}
theorem less_set {n : Nat} : ∀ b, Mm.Has ⟨M.u, M.m.set n none⟩ b → M.Has b := fun b z => by
  rcases z with z | z
  · exact .inl z
  · right
    rcases List.mem_or_eq_of_mem_set z with q | q
    · exact q
    · cases q
theorem not_set {n : Nat} {a : Addr} (rep : Rep M H h) (e : M.m[n]? = some (some a)) : ¬ Mm.Has ⟨M.u, M.m.set n none⟩ a := fun z => by
  rcases z with z | z
  · exact (rep.us a z).1 (List.mem_of_getElem? e)
  · obtain ⟨i, hi, q⟩ := List.getElem_of_mem z
    have q' : (M.m.set n none)[i]? = some (some a) := by rw [List.getElem?_eq_getElem hi, q]
    by_cases hn : n = i
    · subst hn
      have hi' : n < M.m.length := lt_of_get e
      rw [List.getElem?_set_self hi'] at q'
      cases q'
    · rw [List.getElem?_set_ne hn] at q'
      exact hn (rep.inj i n a q' e).symm
theorem ext_frz {n : Nat} : Ext M ⟨M.u, M.m.set n none⟩ H H where
  us := fun _ m => .inl m
  trk := fun a o e => ⟨o, e⟩
  stab := fun _ _ e _ => e
  fresh := fun a m => by
    rcases List.mem_or_eq_of_mem_set m with q | q
    · exact .inl q
    · cases q
  len := by simp
  kill := fun i hi => by
    by_cases hn : n = i
    · subst hn
      right
      show (M.m.set n none)[n]? = _
      rw [List.getElem?_set_self hi]
    · left
      show (M.m.set n none)[i]? = _
      rw [List.getElem?_set_ne hn]
theorem Rep.frz {n : Nat} {a : Addr} (rep : Rep M H h) (e : M.m[n]? = some (some a)) : Rep ⟨M.u, M.m.set n none⟩ H (h.set n none) := by
  have hn : n < h.length := by rw [← rep.len]; exact lt_of_get e
  refine ⟨fun b z => ?_, by simpa using rep.len, fun i j b q1 q2 => ?_, fun i b q => ?_, fun i q => ?_⟩
  · obtain ⟨h1, h2⟩ := rep.us b z
    refine ⟨fun y => h1 ?_, h2⟩
    rcases List.mem_or_eq_of_mem_set y with q | q
    · exact q
    · cases q
  · have g : ∀ (k : Nat), (M.m.set n none)[k]? = some (some b) → M.m[k]? = some (some b) := fun k q => by
      by_cases hk : n = k
      · subst hk
        rw [List.getElem?_set_self (lt_of_get e)] at q
        cases q
      · rwa [List.getElem?_set_ne hk] at q
    exact rep.inj i j b (g i q1) (g j q2)
  · have hk : n ≠ i := fun z => by
      subst z
      have q' : (M.m.set n none)[n]? = some (some b) := q
      rw [List.getElem?_set_self (lt_of_get e)] at q'
      cases q'
    have q' : M.m[i]? = some (some b) := by
      have z : (M.m.set n none)[i]? = some (some b) := q
      rwa [List.getElem?_set_ne hk] at z
    obtain ⟨o, ho, ro⟩ := rep.at_ i b q'
    exact ⟨o, by rw [List.getElem?_set_ne hk]; exact ho, ro.sub less_set⟩
  · have q' : (M.m.set n none)[i]? = some none := q
    by_cases hk : n = i
    · subst hk
      rw [List.getElem?_set_self hn]
    · rw [List.getElem?_set_ne hk] at q' ⊢
      exact rep.dead i q'
theorem RS.frz {n i : Nat} {a : Addr} {o : MO} {ρ : Env} {σ : L2.St} (rep : Rep M H h) (rs : RS M H ρ σ) (e : M.m[n]? = some (some a)) (er : ρ[i]? = some (some (.ref n))) (ro : RO M H a o) (hn : ¬ ((ρ.set i none).any (isR n)) = true) (ht : isTab o = false) :
    RS ⟨M.u, M.m.set n none⟩ H (ρ.set i (some (.dat (moD o)))) σ := by
  refine ⟨by simp [rs.1], fun j w q => ?_⟩
  by_cases hj : i = j
  · subst hj
    rw [List.getElem?_set_self (lt_of_get er)] at q
    cases q
    obtain ⟨v, ev, a', ea, rfl⟩ := rs.2 i _ er
    rw [e] at ea
    cases ea
    refine ⟨_, ev, ?_⟩
    cases o with
    | lst ds => obtain ⟨xs, hx, qx⟩ := ro; exact RD.lst (not_set rep e) hx (qx.sub less_set)
    | dic ds => obtain ⟨xs, hx, qx⟩ := ro; exact RD.dic (not_set rep e) hx (qx.sub less_set)
    | dit ds => exact absurd ht (by simp [isTab])
    | tab q P => exact absurd ht (by simp [isTab])
    | ins C fs => exact absurd ht (by simp [isTab])
  · rw [List.getElem?_set_ne hj] at q
    obtain ⟨v, ev, rv⟩ := rs.2 j w q
    refine ⟨v, ev, ?_⟩
    cases w with
    | dat d => exact RD.sub less_set rv
    | ins C fs =>
      obtain ⟨b, u, gs, e1, n1, q1, r1⟩ := rv
      exact ⟨b, u, gs, e1, fun z => n1 (less_set b z), q1, r1.to fun _ _ => RD.sub less_set⟩
    | exc k C fs =>
      obtain ⟨b, d, gs, e1, r1⟩ := rv
      exact ⟨b, d, gs, e1, r1.to (fun c _ _ n z => n (less_set c z)) (fun _ _ q _ _ => q) fun _ _ => RD.sub less_set⟩
    | pack its =>
      exact absurd (List.any_eq_true.mpr ⟨some (.pack its), List.mem_of_getElem? (i := j) (by rw [List.getElem?_set_ne hj]; exact q), rfl⟩) hn
    | lock es =>
      obtain ⟨b, u, kvs, e1, n1, q1, r1⟩ := rv
      exact ⟨b, u, kvs, e1, fun z => n1 (less_set b z), q1, r1.sub less_set⟩
    | scr ns =>
      obtain ⟨b, u, e1, n1, q1⟩ := rv
      exact ⟨b, u, e1, fun z => n1 (less_set b z), q1⟩
    | ref k =>
      obtain ⟨b, eb, rfl⟩ := rv
      have hk : n ≠ k := fun z => by
        subst z
        apply hn
        rw [List.any_eq_true]
        refine ⟨some (.ref n), ?_, by simp [isR]⟩
        exact List.mem_of_getElem? (i := j) (by rw [List.getElem?_set_ne hj]; exact q)
      exact ⟨b, by show (M.m.set n none)[k]? = _; rw [List.getElem?_set_ne hk]; exact eb, rfl⟩
end
theorem ds_frz {X : Cx} {sts : List Stmt} {f : SM} (i : Nat) (hd : DSs X sts f) : DSs X sts (sFrz i f) := PSs.weak hd fun D σ H => by
  rintro ⟨M, h, ρ, rep, rs, p⟩
  unfold sFrz at p
  split at p
  · rename_i ρ' h' ef
    unfold frz at ef
    split at ef
    · rename_i n er
      split at ef
      · rename_i o eo
        split at ef
        · cases ef
        · rename_i hn
          cases ef
          obtain ⟨v, ev, a, ea, rfl⟩ := rs.2 i _ er
          obtain ⟨o', ho', ro⟩ := rep.at_ n a ea
          rw [eo] at ho'
          cases ho'
          simp only [Bool.or_eq_true, not_or, Bool.not_eq_true] at hn
          exact ⟨_, _, _, rep.frz ea, rs.frz rep ea er ro (by simpa using hn.1) hn.2, p.mono rfl ext_frz⟩
      · cases ef
    · cases ef
  · exact p.elim
end DL
set_option maxRecDepth 100000
set_option maxHeartbeats 1000000
namespace DL
open PySem PySem.Spec PyProof.Rows L2
section
variable {X : Cx}
theorem pairs_two {pins : List (Addr × Obj)} {σ : L2.St} {H : Hp} {s : Shared} (I : Inv X pins σ H s) : ∀ {ps : List Addr} {kvs : List (Key × V)}, Paired (fun p kv => SqT X.K H p [kV kv.1, kv.2]) ps kvs →
    ∃ (pv : List (Value × Value)) (prs : List (Key × Value)), KV kvs prs ∧ prs.length = ps.length ∧ pv.length = ps.length ∧
      ∀ (j : Nat) (k v : Value), pv[j]? = some (k, v) → ∃ b kk, ps[j]? = some b ∧ IsTup s.heap b #[k, v] ∧ prs[j]? = some (kk, v) ∧ (mixKind X.prog X.w).is kk k = true
  | _, _, .nil => ⟨[], [], .nil, rfl, rfl, fun j k v e => by cases j <;> cases e⟩
  | _, _, .cons (a := p) (b := kv) h t => by
    obtain ⟨pv, prs, r, h1, h2, h3⟩ := pairs_two I t
    obtain ⟨its, rv, ht, _⟩ := I.tuple h
    obtain ⟨u, y, rfl, ru, ry⟩ := vals2 rv
    refine ⟨(u, y) :: pv, (kv.1, y) :: prs, .cons ⟨rfl, ry⟩ r, congrArg (· + 1) h1, congrArg (· + 1) h2, fun j k v e => ?_⟩
    cases j with
    | zero => cases e; exact ⟨p, kv.1, rfl, ht, rfl, kV_is ru⟩
    | succ j => exact h3 j k v e
def rDictT : List V → Hp → VK → Prop := fun xs H Q => ∃ (a : Addr) (o : Obj) (ps : List Addr) (kvs : List (Key × V)), xs = [.ref a] ∧ o.dict = none ∧ H a = some (.frz o (.tup (ps.map V.ref))) ∧ Paired (fun p kv => Rd H p (.tup [kV kv.1, kv.2])) ps kvs ∧
    ∀ p, H p = none → Q (.ref p) (upd H p (.dK (mergeK [] kvs)))
theorem call_dictT (hcalm : X.calm = true) : CallR X (.type "dict") rDictT := by
  intro pins s σ H xs us Q I r q
  obtain ⟨a, o, ps, kvs, rfl, ho, ha, hp, q⟩ := q
  obtain ⟨u, rfl, rx⟩ := vals1 r
  cases rx
  obtain ⟨g1, hz, its, rv, o', g2, hc, n, hd⟩ := (show ObjOk X.prog X.w H s.heap a (.frz o (.tup (ps.map V.ref))) from I.hok a _ ha)
  rw [g1] at g2
  cases g2
  obtain rfl := refs_at rv
  rw [List.length_map] at hz
  obtain ⟨pv, prs, rel, h1, h2, h3⟩ := pairs_two I (Paired.mapP hp fun _ _ z => .inl z)
  have hlen : (ps.map Value.ref).toArray.size = pv.length := by simp [h2]
  have P := PairArg.tuple (prog := X.prog) (w := X.w) a (ps.map Value.ref).toArray (fun j => ps[j]?.getD 0) pv
  apply PySem.call_dict_pairs (knd := mixKind X.prog X.w) (kvs := prs) P (I.ok.hd hcalm) ⟨⟨o, n, g1, hc, ho, hd⟩, hlen, fun j k v e => ?_⟩ ⟨by rw [h1, h2], fun i k v e => ?_⟩ (by rw [h2]; exact hz)
  · intro h' tk hd' k
    have hm : (s.heap.objs.size == sysModules) = false := beq_eq_false_iff_ne.mpr (Nat.ne_of_gt I.big)
    have hk : (mergeK [] kvs).length ≤ sizeLine := by
      apply Nat.le_trans (length_mergeK kvs [])
      rw [List.length_nil, Nat.zero_add, rel.length, h1]
      exact hz
    exact ⟨.ref s.heap.objs.size, _, I.laid (t' := tk) (o := .dK (mergeK [] kvs)) (fun b o e => k b o (fun z => nomatch z) e) (Nat.le_refl _) ⟨hk, hm, merged [] prs, KV.merge rel .nil, hd'⟩, rfl, q _ (I.hok.fresh (Nat.le_refl _))⟩
  · obtain ⟨b, kk, e1, e2, _⟩ := h3 j k v e
    exact ⟨by simp [e1], .inl (by show IsTup s.heap (ps[j]?.getD 0) _; rw [e1]; exact e2)⟩
  · obtain ⟨b, kk, _, _, e3, e4⟩ := h3 i k v e
    exact ⟨kk, e3, e4⟩
def dictA (m : Bool) (ws : List W) (h : Hh) : Option (W × Hh) := match ws with
  | [w] => match deref h w with
    | some (.tuple ds) => if callD ds = true then (match pairsK ds with
      | some qs => mkK m (mergeD [] qs) h
      | none => none) else none
    | _ => dictW m [w] h
  | _ => none
theorem s_dictA (m : Bool) : SemA (fun xs H Q => ((∃ (a : Addr) (ps : List Addr) (kvs : List (Key × V)), xs = [.ref a] ∧ SqL X.K H a (ps.map V.ref) ∧ Paired (fun p kv => SqT X.K H p [kV kv.1, kv.2]) ps kvs ∧
    ∀ p, H p = none → Q (.ref p) (upd H p (.dK (mergeK [] kvs)))) ∨ ∃ (a : Addr) (kvs : List (Key × V)), xs = [.ref a] ∧ Rd H a (.dK kvs) ∧ ∀ p, H p = none → Q (.ref p) (upd H p (.dK kvs))) ∨ rDictT xs H Q) (dictA m) := by
  intro M H h vs ws Q rep rv c
  unfold dictA at c
  split at c
  · obtain ⟨v, rfl, r⟩ := rvs1 rv
    split at c
    · rename_i ds e
      obtain ⟨a, xs, rfl, na, ha, q⟩ := rr_tup (deref_rr rep r e)
      split at c
      · rename_i hc
        split at c
        · rename_i qs e2
          obtain ⟨ps, kvs, rfl, h1, h2⟩ := pairs_ok q e2
          rcases ha with ⟨hn, _⟩ | ⟨_, o, ho, ha⟩
          · rw [hc] at hn; cases hn
          · exact .inr ⟨a, o, ps, kvs, rfl, ho, ha, h1, fun p np => mkK_fin rep np (RDk.merge h2 .nil) c⟩
        · exact c.no.elim
      · exact c.no.elim
    · exact .inl (s_dict m M H h _ _ Q rep rv c)
  · exact c.no.elim
theorem d_dictA (hc : X.calm = true) (m : Bool) (hm : X.mg "dict" = none) {p pos : Pos} {e : Expr} {g : AM} (ha : DA X [e] g) (hg : Gl X "dict" := by rfl) (he : starEach [e] X.env = (false, eval e X.env) :: starEach [] X.env := by rfl) (hpl : (backTo pos (starEach [] X.env)).any (·.1) = false := by rfl) : DE X (.Call (.Name "dict" p) [e] [] pos) (fA (dictA m) g) :=
  d_callT (((call_dictP hc).or call_dictD).or (call_dictT hc)) (s_dictA m) hm bt_dict ha hg (by decide) (by decide) he hpl
end
end DL
set_option maxRecDepth 100000
set_option maxHeartbeats 1000000
namespace DL
open PySem PySem.Spec PyProof.Rows L2
end DL
set_option maxRecDepth 100000
set_option maxHeartbeats 1000000
namespace DL
open PySem PySem.Spec PyProof.Rows L2
end DL
set_option maxRecDepth 100000
set_option maxHeartbeats 1000000
namespace DL
open PySem PySem.Spec PyProof.Rows L2
theorem law_gT {P : Program} {w : World} {K : PySem.W.Frag} {mg mb : Str → Option Value} {k : Nat} {fa a : Addr} {fd : FuncData} {x : Str} {sp : Sp} {s₁ : Shared} {vs : List Value} {ns : List Int} {cs : List (Addr × Addr)}
    (kx : K.In s₁.heap) (hns : s₁.heap.Ns mainGlobals mg) (hb : s₁.heap.Ns builtinsNs mb) (hbb : ∀ x : Str, x ≠ "__name__" → mb x = bootBuiltins x) (hlim : s₁.heap.NoLimit) (hg : s₁.gens = #[])
    (hT : ∀ p ∈ cs, PySem.W.CodeHd s₁.heap p.1 p.2 ∧ s₁.heap.get? p.2 = some { cls := .none, data := .fields #[] }) (nT : ∀ p ∈ cs, K.lookup p.2 = none)
    (hbm : ∃ (bm : Addr) (ob : Obj), mg "__builtins__" = some (.ref bm) ∧ bm ≠ builtinsNs ∧ s₁.heap.get? bm = some ob ∧ ob.cls = .type "module" ∧ ob.dict = some builtinsNs ∧ ob.data = .plain)
    (ha : s₁.heap.get? a = some { cls := .type "list", data := .seq vs.toArray }) (hi : IntsAre vs ns) (hl : ns.length ≤ sizeLine) (hr : Room k callerA)
    (F : ∀ base : Heap, K.In base → base.Ns mainGlobals mg → (∀ p ∈ cs, LamX.TabB base mg p.1 p.2) → FnG P w K mg base CX0 k fa fd [x] sp) (hbind : ∀ (s : Shared) (u : Value), BindsTo s fd ⟨[u], []⟩ [(x, u)])
    (hka : K.lookup a = none)
    (hsp : ∀ H : Hp, (∃ o, H a = some (.frz o (.lst (ns.map V.int)))) → (∀ p ∈ cs, H p.2 = some (.tbl #[])) → a ∉ cs.map (·.2) → sp [.ref a] H (fun v _ => v = .bl true) fun _ _ _ => False) :
    codeAny (model P w) callerA (.call (.ref fa) ⟨[.ref a], []⟩) (fun r s' => r = .ok (.ret (.bool true)) ∧ OldK s₁.heap s'.heap ∧ s'.os = s₁.os ∧ AllBare s'.gens) s₁ := by
  have rv := vals_ints hi
  let ob : Obj := { cls := .type "list", data := .seq vs.toArray }
  let H : Hp := fun b => if b = a then some (.frz ob (.lst (ns.map V.int))) else if b ∈ cs.map (·.2) then some (.tbl #[]) else none
  have tabs : ∀ b, b ∈ cs.map (·.2) → s₁.heap.get? b = some { cls := .none, data := .fields #[] } := fun b z => by
    obtain ⟨p, hp, rfl⟩ := List.mem_map.mp z
    exact (hT p hp).2
  have na : a ∉ cs.map (·.2) := fun z => by
    have y := tabs a z
    rw [ha] at y
    injection y with y
    injection y with _ _ y
    cases y
  have Ha : H a = some (.frz ob (.lst (ns.map V.int))) := if_pos rfl
  have Hc : ∀ b, b ∈ cs.map (·.2) → H b = some (.tbl #[]) := fun b z => by
    have h1 : b ≠ a := fun y => na (y ▸ z)
    show (if b = a then _ else if b ∈ cs.map (·.2) then _ else _) = _
    rw [if_neg h1, if_pos z]
  have Hn : ∀ b, b ≠ a → b ∉ cs.map (·.2) → H b = none := fun b h1 h2 => by
    show (if b = a then _ else if b ∈ cs.map (·.2) then _ else _) = _
    rw [if_neg h1, if_neg h2]
  have hok : HOk P w H s₁.heap := by
    intro b u e
    by_cases h : b = a
    · subst h
      rw [Ha] at e
      cases e
      exact ⟨ha, by rw [List.length_map]; exact hl, vs, _, rv, ha⟩
    · by_cases h2 : b ∈ cs.map (·.2)
      · rw [Hc b h2] at e
        cases e
        exact tabs b h2
      · rw [Hn b h h2] at e; cases e
  have hid : ∀ {b : Addr} {o : Obj}, s₁.heap.get? b = some o → H b = none → (hidT s₁.heap H).get? b = some o := fun e n => hidT_get e n
  have free : ∀ {b : Addr} {o : Obj}, s₁.heap.get? b = some o → (∀ vs n, o.data ≠ .seq vs n) → o.data ≠ .fields #[] → H b = none := by
    intro b o e h1 h2
    apply Hn
    · intro z
      subst z
      rw [ha] at e
      cases e
      exact h1 _ _ rfl
    · intro z
      rw [tabs b z] at e
      cases e
      exact h2 rfl
  have isd : ∀ {b : Addr} {o : Obj} {es : Array DictEntry} {ep : Nat}, s₁.heap.get? b = some o → o.data = .dict es ep → H b = none := by
    intro b o es ep e d
    apply free e
    · intro vs n z; rw [d] at z; cases z
    · intro z; rw [d] at z; cases z
  have nsk : ∀ {b : Addr} {m : Str → Option Value}, s₁.heap.Ns b m → (hidT s₁.heap H).Ns b m := fun {b m} q => by
    obtain ⟨o, es, ep, e, d, r⟩ := q
    exact ⟨o, es, ep, hid e (isd e d), d, r⟩
  have kb : K.In (hidT s₁.heap H) := by
    intro b o e
    apply hid (kx b o e)
    apply Hn
    · intro z
      subst z
      rw [hka] at e
      cases e
    · intro z
      obtain ⟨p, hp, rfl⟩ := List.mem_map.mp z
      rw [nT p hp] at e
      cases e
  have hM : Mod K mg (hidT s₁.heap H) := by
    refine ⟨kb, nsk hns, ⟨mb, nsk hb, hbb⟩, ?_⟩
    obtain ⟨mc, h1, h2⟩ := hlim
    exact ⟨mc, nsk h1, h2⟩
  have TB : ∀ p ∈ cs, LamX.TabB (hidT s₁.heap H) mg p.1 p.2 := by
    intro p hp
    obtain ⟨hc, ht⟩ := hT p hp
    constructor
    · obtain ⟨o, us, fi, tf, fl, tg, inF, tx, tt, e1, e2, e3, e4, r⟩ := hc
      refine ⟨o, us, fi, tf, fl, tg, inF, tx, tt, hid e1 (free e1 ?_ ?_), e2, e3, e4, r⟩
      · intro vs n z; rw [e3] at z; cases z
      · intro z
        rw [e3] at z
        injection z with z
        rw [z] at e4
        simp at e4
    · obtain ⟨bm, ob', b1, b2, b3, b4, b5, b6⟩ := hbm
      have n1 : bm ≠ mainGlobals := by
        intro z
        obtain ⟨o, es, ep, e, hd, _⟩ := hns
        rw [z, e] at b3
        cases b3
        rw [hd] at b6
        cases b6
      have n2 : bm ≠ p.2 := by
        intro z
        rw [z, ht] at b3
        cases b3
        cases b6
      refine ⟨bm, ob', b1, b2, n1, n2, hid b3 (free b3 ?_ ?_), b4, b5, b6⟩
      · intro vs n z; rw [b6] at z; cases z
      · intro z; rw [b6] at z; cases z
    · intro z
      obtain ⟨o, es, ep, e, hd, _⟩ := hns
      rw [z, ht] at e
      cases e
      cases hd
  have e0 : Env0 P w K mg (hidT s₁.heap H) callerA [] s₁ H := by
    refine ⟨rfl, hM, fun b o e => of_hidT e, Nat.le_of_eq (hidT_size _ _), trivial, fun b hb => ?_, hok, .of_eq hg⟩
    exact absurd (show b ∈ ([] : List Addr) from hb) (by simp)
  apply codeAny_mono ((F _ kb (nsk hns) TB).run callerA [] s₁ H ⟨[.ref a], []⟩ [.ref a] [.ref a] _ _ ⟨hr, rfl⟩ e0 (hbind s₁ (.ref a)) (.cons rfl .nil) (hsp H ⟨ob, Ha⟩ (fun p hp => Hc p.2 (List.mem_map.mpr ⟨p, hp, rfl⟩)) na))
  intro r s' h
  cases r with
  | error e => exact h.elim
  | ok fl => cases fl with
    | next => exact h.elim
    | brk => exact h.elim
    | cont => exact h.elim
    | ret u =>
      obtain ⟨v, H', os, bare, un, hok', r', q⟩ := h
      obtain rfl : v = .bl true := q
      obtain rfl : u = Value.bool true := r'
      have key : ∀ b o, b ∉ cs.map (·.2) → s₁.heap.get? b = some o → s'.heap.get? b = some o := by
        intro b o nb e
        by_cases hb' : b = a
        · subst hb'
          have z2 := un.frzs b ob _ Ha
          obtain ⟨e1, _⟩ := hok b _ Ha
          obtain ⟨e2, _⟩ := hok' b _ z2
          rw [e] at e1
          cases e1
          exact e2
        · exact un.keep b o e (Hn b hb' nb) (fun z => absurd (show b ∈ ([] : List Addr) from z) (by simp)) (by simp)
      have grown : ∀ p ∈ cs, ∃ more : Array Value, s'.heap.get? p.2 = some { cls := .none, data := .fields more } := by
        intro p hp
        obtain ⟨more, z⟩ := un.tbls p.2 #[] (Hc p.2 (List.mem_map.mpr ⟨p, hp, rfl⟩))
        exact ⟨_, hok' p.2 _ z⟩
      refine ⟨rfl, ⟨fun b o e => ?_, fun b o e => ?_⟩, os, bare⟩
      · by_cases hb' : b ∈ cs.map (·.2)
        · obtain ⟨p, hp, rfl⟩ := List.mem_map.mp hb'
          obtain ⟨more, hm⟩ := grown p hp
          rw [(hT p hp).2] at e
          cases e
          exact .inr (.inl ⟨((hT p hp).1.tab (hT p hp).2).isCodeTable, rfl, #[], more, rfl, by rw [Array.empty_append]; exact hm⟩)
        · exact .inl (key b o hb' e)
      · by_cases hb' : b ∈ cs.map (·.2)
        · obtain ⟨p, hp, rfl⟩ := List.mem_map.mp hb'
          obtain ⟨more, hm⟩ := grown p hp
          exact ⟨_, hm⟩
        · exact ⟨o, key b o hb' e⟩
end DL
set_option maxRecDepth 100000
set_option maxHeartbeats 1000000
namespace DL
open PySem PySem.Spec PyProof.Rows L2
end DL
set_option maxRecDepth 100000
set_option maxHeartbeats 1000000
namespace DL
open PySem PySem.Spec PyProof.Rows L2
section
variable {X : Cx}
theorem rowS_map : ∀ {ds : List D} {l : List Str}, rowS ds = some l → ds = l.map .str
  | [], _, e => by cases e; rfl
  | d :: ds, l, e => by
    unfold rowS at e
    split at e
    · rename_i q; cases q
    · rename_i a ds' q
      cases q
      simp only [Option.map_eq_some_iff] at e
      obtain ⟨l', e1, rfl⟩ := e
      rw [rowS_map e1]; rfl
    · cases e
theorem rowS_strs : ∀ l : List Str, rowS (l.map .str) = some l
  | [] => rfl
  | a :: l => by
    show (rowS (l.map .str)).map (a :: ·) = _
    rw [rowS_strs l]; rfl
theorem rds_strs {M : Mm} {H : Hp} : ∀ {xs : List V} {l : List Str}, RDs M H xs (l.map .str) → xs = l.map V.str
  | _, [], .nil => rfl
  | _, a :: l, .cons r t => by cases r; rw [rds_strs t]; rfl
end
end DL
set_option maxRecDepth 100000
set_option maxHeartbeats 1000000
namespace DL
open PySem PySem.Spec PyProof.Rows L2
section
variable {X : Cx}
def leT (a b : Str) : Bool := decide (a.cps.toList ≤ b.cps.toList)
theorem leT_trans (a b c : Str) (h1 : leT a b = true) (h2 : leT b c = true) : leT a c = true := by
  unfold leT at *
  simp only [decide_eq_true_eq] at *
  exact List.le_trans h1 h2
theorem leT_total (a b : Str) : (leT a b || leT b a) = true := by
  unfold leT
  simp only [Bool.or_eq_true, decide_eq_true_eq]
  exact List.le_total _ _
theorem leT_anti {a b : Str} (h1 : leT a b = true) (h2 : leT b a = true) : a = b := by
  unfold leT at *
  simp only [decide_eq_true_eq] at *
  have e := List.le_antisymm h1 h2
  obtain ⟨⟨x⟩⟩ := a
  obtain ⟨⟨y⟩⟩ := b
  simp at e
  rw [e]
theorem rds_ofS {M : Mm} {H : Hp} : ∀ l : List Str, RDs M H (l.map V.str) (l.map .str)
  | [] => .nil
  | a :: l => .cons (.str a) (rds_ofS l)
end
end DL
set_option maxRecDepth 100000
set_option maxHeartbeats 4000000
namespace DL
open PySem PySem.Spec PyProof.Rows L2
section
variable {P : Program} {w : World}
structure TxR (P : Program) (w : World) (B : Froz.SD) (l : List Str) : Prop where
  ok : Froz.TxOk P w B l
  ris : Ris B.2.2.place.toList
  led : w.params.followText "set-order" = true ∨ B.2.2.led = true
theorem tail_ris {ep : Nat} {es : Array (Int × Value)} {t : SetTable} {b : Bool} (r : Ris t.place.toList) : Ris (Froz.tailTx ep es t b).2.2.place.toList := by
  unfold Froz.tailTx
  split
  · exact relayAll_ris _ _ _
  · exact r
theorem tail_led {ep : Nat} {es : Array (Int × Value)} {t : SetTable} {b : Bool} : (Froz.tailTx ep es t b).2.2.led = t.led := by
  unfold Froz.tailTx
  split
  · exact relayAll_led _ _ _
  · rfl
theorem TxR.add {B : Froz.SD} {l : List Str} {k : Str} (u : Tok) (F : TxR P w B l) : TxR P w (Froz.addTx (hashStr w k) (.str k u) B) (k :: l) := by
  refine ⟨Froz.add_ok u F.ok, ?_, ?_⟩
  · have r1 := layNew_ris B.2.2 B.1 (hashStr w k) (.str k u) F.ris
    unfold Froz.addTx
    apply tail_ris
    split
    · exact r1
    · exact r1
  · have l1 := layNew_led B.2.2 B.1 (hashStr w k) (.str k u)
    rcases F.led with q | q
    · exact .inl q
    · right
      unfold Froz.addTx
      rw [tail_led]
      split
      · exact l1.trans q
      · exact l1.trans q
def TxAt (P : Program) (w : World) (h : Heap) (a : Addr) (l : List Str) : Prop := ∃ B, h.get? a = some (Froz.sObj "set" B) ∧ TxR P w B l
theorem TxAt.at {h h' : Heap} {a : Addr} {l : List Str} (x : TxAt P w h a l) (k : ∀ o, h.get? a = some o → h'.get? a = some o) : TxAt P w h' a l := by
  obtain ⟨B, e, r⟩ := x
  exact ⟨B, k _ e, r⟩
end
section
variable {P : Program} {w : World} {A : Around} {R : Result → Shared → Prop} {I : Addr} {fp wr : List Addr} {G : Array GenState → Array GenState → Prop} {n : Nat} {Pv : Nat → Value → Prop} {St : Nat → Shared → Prop}
theorem txs_loop (W : WalksS P w A.in1 I fp wr G n Pv St) (a : Addr) (hf : a ∉ fp) (xs : List Str) (nd : xs.Nodup) (hn : xs.length = n) (hb : n + 1 < scanBound) (hv : ∀ i v, Pv i v → ∃ (y : Str) (t : Tok), xs[i]? = some y ∧ v = .str y t) :
    ∀ (k i : Nat) (s : Shared), i + k = n → St i s → TxAt P w s.heap a (xs.take i).reverse → (∀ s', Moved (a :: wr) G s s' → TxAt P w s'.heap a xs.reverse → R (.ok (.ret .none)) s') → codeAny (model P w) A (.builtin "set.update.loop" ⟨[.ref a, .ref I], []⟩) R s
  | 0, i, s, e, st, x, hR => by
    have hi : i = n := by omega
    subst hi
    apply codeAny_builtin PyProof.Rows.F.entry_set_update_loop
    rw [Around.under_plainId PyProof.Rows.F.plain_set_update_loop _]
    show wpAny _ A.in1 (pyNext (.ref I) >>= _) _ _ s
    apply wpAny_bind
    refine W.done s _ _ st fun s1 m => ?_
    show wpAny _ A.in1 (ret Value.none) _ _ s1
    refine wpAny_pure (hR s1 (m.mono fun b hb => List.mem_cons_of_mem _ hb) ?_)
    have x' := x.at fun o q => m.heap a o (fun z => hf (W.sub _ z)) q
    rwa [← hn, List.take_length] at x'
  | k + 1, i, s, e, st, x, hR => by
    apply codeAny_builtin PyProof.Rows.F.entry_set_update_loop
    rw [Around.under_plainId PyProof.Rows.F.plain_set_update_loop _]
    show wpAny _ A.in1 (pyNext (.ref I) >>= _) _ _ s
    apply wpAny_bind
    refine W.item i s _ _ (by omega) st fun v s1 pv st1 m => ?_
    obtain ⟨y, t, ey, rfl⟩ := hv i v pv
    obtain ⟨B, eB, rB⟩ := x.at fun o q => m.heap a o (fun z => hf (W.sub _ z)) q
    show wpAny _ A.in1 (holding [Value.str y t] (setAdd a (.str y t)) >>= _) _ _ s1
    apply wpAny_bind
    apply wpAny_holding
    unfold setAdd
    apply wpAny_holding
    apply wpAny_bind
    refine (PySem.strKind P w).pyHash (k := y) (strKind_is _ _ _ _) ?_
    have hnew : y ∉ (xs.take i).reverse := fun z => by
      have z := List.mem_reverse.mp z
      obtain ⟨j, hj, ej⟩ := List.mem_take_iff_getElem.mp z
      obtain ⟨hi, ei⟩ := List.getElem?_eq_some_iff.mp ey
      have := (List.pairwise_iff_getElem.mp nd) j i (by omega) hi (by omega)
      exact this (by rw [ej, ei])
    refine Froz.add_x (s := { s1 with toks := s1.toks + 1 }) eB rB.ok hnew (by rw [List.length_reverse, List.length_take]; omega) ?_
    have e2 := Froz.get_upd (h := s1.heap) (Froz.sObj "set" (Froz.addTx (hashStr w y) (.str y t) B)) eB rfl
    have oth : ∀ b o, b ≠ a → s1.heap.get? b = some o → (s1.heap.update a (fun _ => Froz.sObj "set" (Froz.addTx (hashStr w y) (.str y t) B))).get? b = some o := fun b o nb q => (Heap.get?_update_other _ _ (Ne.symm nb)).trans q
    refine wpAny_pure ⟨plainId_quiet PyProof.Rows.F.plain_set_update_loop _, txs_loop W a hf xs nd hn hb hv k (i + 1) _ (by omega) (W.frame _ s1 _ _ st1 (Nat.le_succ _) fun b hb o q => oth b o (fun z => hf (z ▸ hb)) q) ⟨_, e2, ?_⟩ fun s2 m2 x2 => ?_⟩
    · rw [List.take_add_one, ey]
      simp only [Option.toList_some, List.reverse_append, List.reverse_cons, List.reverse_nil, List.nil_append, List.singleton_append]
      exact rB.add t
    · exact hR s2 (Moved.trans W.gtrans ((m.mono fun b hb => List.mem_cons_of_mem _ hb).then_heap (Nat.le_succ _) fun b o nb q => oth b o (fun z => nb (by rw [z]; exact List.mem_cons_self)) q) m2) x2
end
section
variable {P : Program} {w : World} {A : Around} {E : Value → Shared → Prop} {s : Shared}
abbrev nSet (w : World) : Obj := { cls := .type "set", dict := none, data := .set #[] 0 (.fresh 0 0 (!w.params.followText "set-order")) }
theorem nSet_txs {h : Heap} {a : Addr} (e : h.get? a = some (nSet w)) : TxAt P w h a [] := by
  refine ⟨(#[], 0, .fresh 0 0 (!w.params.followText "set-order")), e, Froz.TxOk.nil rfl, List.Pairwise.nil, ?_⟩
  show _ ∨ (!w.params.followText "set-order") = true
  cases w.params.followText "set-order" with
  | false => exact .inr rfl
  | true => exact .inl rfl
set_option maxHeartbeats 3200000 in
theorem call_set_txs {l : Addr} {its : Array Value} {xs : List Str} {Q : Value → Shared → Prop} (hh : A.handled = none) (hl : s.heap.IsList l its) (hi : StrsAre its.toList xs) (nd : xs.Nodup) (hb : xs.length + 1 < scanBound)
    (h : ∀ h' tk, TxAt P w h' s.heap.objs.size xs.reverse → (∀ b o, s.heap.get? b = some o → h'.get? b = some o) → Q (.ref s.heap.objs.size) { s with heap := h', toks := tk }) : wpAny (model P w) A (call (.type "set") [.ref l]) Q E s := by
  obtain ⟨c0, c1, k1⟩ := F.called_set.mro
  have k2 := F.called_set.made
  have k3 := F.called_set.sub
  apply wpAny_call
  apply codeAny_of_tree
  show wpAny _ _ (callAny (.type "set") _) _ _ _
  refine wpAny_pure ⟨Code.quiet_builtin _ (by decide +kernel), ?_⟩
  apply codeAny_builtin F.entry_type_call
  rw [Around.under_plain (weight_type_call_type "set" [.ref l] []) rfl]
  have k4 := F.called_set.notType
  have k5 := F.called_set.canCreate
  have k6 := F.typeCall_set_1 (.ref l)
  repeat (any_goals (first | assumption | wp_step))
  refine codeAny_mono (code_set_led1 (.ref l) (E := E) (Q₁ := fun o s1 => o = .ref s.heap.objs.size ∧ s1 = { s with heap := s.heap.push (nSet w) }) ⟨rfl, rfl⟩) fun q s1 hq => ?_
  cases q with
  | error _ => exact hq
  | ok f =>
    cases f with
    | ret o =>
      obtain ⟨rfl, rfl⟩ := hq
      have at1 : (s.heap.push (nSet w)).get? s.heap.objs.size = some (nSet w) := Heap.get?_push_size _ rfl
      have ty1 : Shared.TypeIs { s with heap := s.heap.push (nSet w) } (.ref s.heap.objs.size) "set" := ⟨_, at1, rfl⟩
      have k7 := F.called_set.init.lookup
      have k8 := F.called_set.init.bind (.ref s.heap.objs.size)
      repeat (any_goals (first | assumption | wp_step))
      refine codeAny_mono (codeAny_call_builtin (R := wants (fun z s2 => z = .none ∧ ∃ h' tk, s2 = { s with heap := h', toks := tk } ∧ TxAt P w h' s.heap.objs.size xs.reverse ∧ ∀ b o, s.heap.get? b = some o → h'.get? b = some o) E) F.called_set.init.plain F.entry_set_init (check_set_init_1 ty1 ?_)) fun q2 s2 hq2 => ?_
      · obtain ⟨⟨oc, od, odt, os⟩, ho, hoc, m, hod⟩ := hl
        simp only at hoc hod
        subst hoc
        subst hod
        have ho' : (s.heap.push (nSet w)).get? l = some { cls := .type "list", dict := od, data := .seq its m, slots := os } := Heap.get?_push_of_some _ ho
        have f1 := F.sub_list_set
        have f2 := F.sub_list_frozenset
        have f3 : (Value.type "list" == Value.type "dict") = false := by decide
        have hl' : (s.heap.push (nSet w)).IsList l its := ⟨_, ho', rfl, m, rfl⟩
        unfold Builtin.«set.__init__» noKeywords Builtin.Frozenset.updateFrom
        generalize eI : pyIter = pI
        wp_walk
        subst eI
        apply wpAny_pyIter_list hl'
        apply wpAny_bind
        apply wpAny_runValue
        have lt : l < s.heap.objs.size := Heap.lt_size ho
        have zs : (s.heap.push (nSet w)).objs.size = s.heap.objs.size + 1 := Heap.size_push ..
        have n1 : l ≠ (s.heap.push (nSet w)).objs.size := by rw [zs]; exact Nat.ne_of_lt (Nat.lt_succ_of_lt lt)
        have n2 : s.heap.objs.size ∉ [(s.heap.push (nSet w)).objs.size, l] := by
          rw [zs]
          simp only [List.mem_cons, List.not_mem_nil, or_false, not_or]
          exact ⟨Nat.ne_of_lt (Nat.lt_succ_self _), Nat.ne_of_gt lt⟩
        have len : xs.length = its.size := by rw [← StrsAre.len_eq hi, Array.length_toList]
        have val : ∀ (i : Nat) (v : Value), its[i]? = some v → ∃ (y : Str) (t : Tok), xs[i]? = some y ∧ v = .str y t := fun i v hv => by
          have hv' : its.toList[i]? = some v := by rw [Array.getElem?_toList]; exact hv
          obtain ⟨t, e⟩ := SS.strs_at hi i v hv'
          have hlt : i < xs.length := by have := (List.getElem?_eq_some_iff.mp hv').1; rw [Array.length_toList] at this; omega
          exact ⟨xs[i], t, List.getElem?_eq_getElem hlt, by rw [e, List.getD_eq_getElem?_getD, List.getElem?_eq_getElem hlt]; rfl⟩
        refine txs_loop ((Walks.list (by simp [hh]) _ l n1 its).toS) s.heap.objs.size n2 xs nd len (by rw [← len]; exact hb) val its.size 0 _ (by omega) ⟨⟨_, Heap.get?_push_size _ rfl, rfl, rfl⟩, hl'.push _⟩ ?_ ?_
        · rw [List.take_zero, List.reverse_nil]
          exact nSet_txs (Heap.get?_push_of_some _ at1)
        · intro s3 mv x3
          obtain ⟨h3, g3, d3, t3, o3⟩ := s3
          have q1 : g3 = s.gens := mv.gens
          have q2 : d3 = s.drawn := mv.drawn
          have q3 : o3 = s.os := mv.os
          subst q1
          subst q2
          subst q3
          show wpAny _ _ _ _ _ _
          apply wpAny_pure
          show wpAny _ _ (ret Value.none) _ _ _
          refine wpAny_pure ⟨rfl, h3, t3, rfl, x3, fun b o e => mv.heap b o (fun z => ?_) (Heap.get?_push_of_some _ (Heap.get?_push_of_some _ e))⟩
          have lb := Heap.lt_size e
          simp only [List.mem_cons, List.not_mem_nil, or_false, zs] at z
          rcases z with z | z
          · exact absurd lb (by rw [z]; exact Nat.lt_irrefl _)
          · exact absurd lb (by rw [z]; exact Nat.not_lt_of_le (Nat.le_succ _))
      · cases q2 with
        | error _ => exact hq2
        | ok f2 =>
          cases f2 with
          | ret z =>
            obtain ⟨rfl, h', tk, rfl, x', k'⟩ := hq2
            repeat (any_goals (first | assumption | wp_step))
            exact h _ _ x' k'
          | _ => exact hq2.elim
    | _ => exact hq.elim
end
end DL
set_option maxRecDepth 100000
set_option maxHeartbeats 1000000
namespace DL
open PySem PySem.Spec PyProof.Rows L2
section
variable {P : Program} {w : World} {A : Around} {E : Value → Shared → Prop} {s : Shared}
abbrev IsTx (v : Value) (k : Str) : Prop := ∃ t, v = .str k t
def txV : Value → Str
  | .str k _ => k
  | _ => Str.empty
theorem each_tx : ∀ {vs : List Value}, (∀ v ∈ vs, ∃ k, IsTx v k) → PySem.W.EachIs IsTx vs (vs.map txV)
  | [], _ => .nil
  | v :: vs, h => by
    obtain ⟨k, t, rfl⟩ := h v List.mem_cons_self
    exact .cons ⟨t, rfl⟩ (each_tx fun u hu => h u (List.mem_cons_of_mem _ hu))
theorem vals_tx : ∀ {vs : List Value} {l : List Str}, PySem.W.EachIs IsTx vs l → Vals (l.map V.str) vs
  | _, _, .nil => .nil
  | _, _, .cons a t => .cons a (vals_tx t)
theorem perm_cover : ∀ {l m : List Str}, l.Nodup → l.length = m.length → (∀ k ∈ l, k ∈ m) → l.Perm m
  | [], m, _, e, _ => by
    have : m = [] := List.length_eq_zero_iff.mp e.symm
    rw [this]
  | a :: l, m, nd, e, h => by
    have pe := List.perm_cons_erase (h a List.mem_cons_self)
    have hl := pe.length_eq
    rw [List.length_cons] at hl e
    obtain ⟨n1, n2⟩ := List.nodup_cons.mp nd
    have ih := perm_cover (l := l) (m := m.erase a) n2 (by omega) fun k hk => by
      have ne : k ≠ a := fun z => by subst z; exact n1 hk
      exact (List.mem_erase_of_ne ne).mpr (h k (List.mem_cons_of_mem _ hk))
    exact (List.Perm.cons a ih).trans pe.symm
theorem leT_data : PySem.W.dataLe false (fun k : Str => (PyData.str k)) = leT := PySem.W.dataLe_str fun k => k
theorem sorted_txs {a : Addr} {l : List Str} {Q : Value → Shared → Prop} (x : TxAt P w s.heap a l) (nd : l.Nodup) (hb : l.length < scanBound) (hz : l.length ≤ sizeLine) (hh : A.handled = none) (hu : A.units + 2 < cLine)
    (hQ : ∀ s' p out c, (∀ b o, s.heap.get? b = some o → s'.heap.get? b = some o) → s'.gens = s.gens → s'.os = s.os → s.heap.objs.size ≤ p → s'.heap.get? p = some (seqObj "list" (List.toArray out) c) → Vals ((l.mergeSort leT).map V.str) out → Q (.ref p) s') :
    wpAny (model P w) A (call (.builtin "sorted") [.ref a]) Q E s := by
  obtain ⟨⟨es, ep, t⟩, ho, F, ris, led⟩ := x
  have fz : es.size = l.length := F.sz
  refine call_function_entry_kw kind_sorted plain_sorted entry_sorted (args_sorted1 _) ?_
  unfold Builtin.«sorted»
  refine wpAny_bind (m := checkCount "sorted" 1 1 _) (wpAny_pure (wpAny_bind (collect_set (A := A.in1) hh ⟨_, ho, rfl, rfl⟩ F.fit (by rw [fz]; exact hb) ris led fun s1 vs k1 hs g1 o1 pm => ?_)))
  have el : ∀ v ∈ vs, ∃ k, IsTx v k := fun v hv => by
    obtain ⟨e, he, rfl⟩ := List.mem_map.mp (pm.mem_iff.mp hv)
    obtain ⟨⟨k, hk, _⟩, _⟩ := F.el e he
    exact ⟨k, Value.isStrOf_shape hk⟩
  have vl : vs.length = l.length := by rw [pm.length_eq, List.length_map, Array.length_toList]; exact fz
  have pl : l.Perm (vs.map txV) := perm_cover nd (by rw [List.length_map, vl]) fun k hk => by
    obtain ⟨e, he, q⟩ := (F.mem k).mp hk
    obtain ⟨u, eu⟩ := Value.isStrOf_shape q
    refine List.mem_map.mpr ⟨e.2, pm.mem_iff.mpr (List.mem_map.mpr ⟨e, he, rfl⟩), ?_⟩
    rw [eu]; rfl
  have ev := each_tx el
  have hv : vs.length ≤ sizeLine := by rw [vl]; exact hz
  apply wpAny_bind
  refine wpAny_newList ?_ hv
  have at_ : (s1.heap.push (seqObj "list" vs.toArray 0)).get? s1.heap.objs.size = some (seqObj "list" vs.toArray 0) := Heap.get?_push_size _ rfl
  have er' : PySem.W.EachIs (fun v b => ∃ as, Reads (PySem.W.sortingHeap (s1.heap.push (seqObj "list" vs.toArray 0)) s1.heap.objs.size vs) v (PyData.str b) as) vs (vs.map txV) := ev.mono fun v b ⟨u, e⟩ => by
    subst e
    exact ⟨[], .str b u⟩
  have hal : PySem.W.AllAlike ((vs.map txV).map PyData.str) := fun d hd e he => by
    obtain ⟨x, _, rfl⟩ := List.mem_map.mp hd
    obtain ⟨y, _, rfl⟩ := List.mem_map.mp he
    rfl
  have hk : PySem.W.Sortable ((vs.map txV).map PyData.str) := .inr fun d hd => by
    obtain ⟨x, _, rfl⟩ := List.mem_map.mp hd
    exact ⟨fun z => (by cases z), fun xs z => (by cases z)⟩
  refine wpAny_bind (wpAny_holding (wpAny_call_entry_kw slot_list_sort ⟨_, at_, rfl⟩ entry_list_sort ?_ (args_list_sort _)))
  refine PySem.W.list_sort_vals (s := { s1 with heap := s1.heap.push (seqObj "list" vs.toArray 0) }) at_ (PySem.W.SortsAt.data (s := { s1 with heap := PySem.W.sortingHeap (s1.heap.push (seqObj "list" vs.toArray 0)) s1.heap.objs.size vs }) (PySem.W.each_map (R := fun v d => ∃ as, Reads (PySem.W.sortingHeap (s1.heap.push (seqObj "list" vs.toArray 0)) s1.heap.objs.size vs) v d as) PyData.str er') hal hk (PySem.W.bound_map (A := A.in1.in1) fun b _ => ?_)) hv ?_
  · have e : PyData.depth (.str b) = 0 := rfl
    rw [e]
    exact hu
  · refine ⟨_, rfl, wpAny_pure ⟨_, rfl, ?_⟩⟩
    obtain ⟨c, hc⟩ := sortedHeap_at (vs := vs) (out := (PySem.W.sortVals (PySem.W.dataKind (PySem.W.sortingHeap (s1.heap.push (seqObj "list" vs.toArray 0)) s1.heap.objs.size vs) ((vs.map txV).map PyData.str)) false vs vs).toArray) at_
    have eo := PySem.W.sortVals_data false ev er' hal
    rw [leT_data] at eo
    have es' : (vs.map txV).mergeSort leT = l.mergeSort leT := List.Perm.eq_of_pairwise (fun x y _ _ h1 h2 => leT_anti h1 h2) (List.pairwise_mergeSort leT_trans leT_total _) (List.pairwise_mergeSort leT_trans leT_total _) ((List.mergeSort_perm _ _).trans (pl.symm.trans (List.mergeSort_perm _ _).symm))
    rw [es'] at eo
    refine hQ _ _ _ c (fun b o q => ?_) g1 o1 hs hc (vals_tx eo)
    have q1 := k1 b o q
    have lb := Heap.lt_size q1
    show (sortedHeap _ _ _ _).get? b = some o
    rw [sortedHeap_old (Nat.ne_of_lt lb) (by rw [size_push']; exact Nat.lt_succ_of_lt lb)]
    exact Heap.get?_push_of_some _ q1
end
section
variable {X : Cx}
def SetX (P : Program) (w : World) (a : Addr) (l : List Str) : HO := .ext fun h => TxAt P w h a l
theorem setX_new {P : Program} {w : World} {H : Hp} {h : Heap} {a : Addr} {l : List Str} (x : TxAt P w h a l) : ObjOk P w H h a (SetX P w a l) := by
  have ⟨B, e, _⟩ := x
  exact ⟨x, ⟨_, e⟩, fun h1 h2 p k => TxAt.at p k⟩
def rSetX (K : PySem.W.Frag) (P : Program) (w : World) : List V → Hp → VK → Prop := fun xs H Q => ∃ (a : Addr) (l : List Str), xs = [.ref a] ∧ SqL K H a (l.map V.str) ∧ l.Nodup ∧ l.length + 1 < scanBound ∧ ∀ p, H p = none → Q (.ref p) (upd H p (SetX P w p l.reverse))
theorem cr_setX (hc : X.calm = true) : CallR X (.type "set") (rSetX X.K X.prog X.w) := by
  rintro pins s σ H xs us Q I r ⟨a, l, rfl, hl, nd, hb, q⟩
  rw [Vals.ref1 r]
  obtain ⟨its, rv, pl, hz⟩ := I.list hl
  refine call_set_txs (P := X.prog) (w := X.w) (its := its.toArray) (xs := l) (I.ok.hd hc) pl.isList rv.strs nd hb fun h' tk x k => ?_
  exact ⟨.ref s.heap.objs.size, _, I.laid (t' := tk) (o := SetX X.prog X.w s.heap.objs.size l.reverse) k (Nat.le_refl _) (setX_new x), rfl, q _ (I.hok.fresh (Nat.le_refl _))⟩
def rSortX (P : Program) (w : World) : List V → Hp → VK → Prop := fun xs H Q => ∃ (a : Addr) (l : List Str), xs = [.ref a] ∧ H a = some (SetX P w a l) ∧ l.Nodup ∧ l.length < scanBound ∧ l.length ≤ sizeLine ∧ ∀ p, H p = none → Q (.ref p) (upd H p (.lst ((l.mergeSort leT).map V.str)))
theorem cr_sortX {k : Nat} (hr : Room k X.A) (hc : X.calm = true) : CallR X (.builtin "sorted") (rSortX X.prog X.w) := by
  rintro pins s σ H xs us Q I r ⟨a, l, rfl, ha, nd, hb, hz, q⟩
  rw [Vals.ref1 r]
  have x : TxAt X.prog X.w s.heap a l := (I.hok a _ ha).1
  refine sorted_txs x nd hb hz (I.ok.hd hc) (by have := hr.un; omega) fun s' p out c k g o hp hg hv => ?_
  have hlen : ((l.mergeSort leT).map V.str).length ≤ sizeLine := by rw [List.length_map, List.length_mergeSort]; exact hz
  have hn : H p = none := I.hok.fresh hp
  have J : Inv X pins σ (upd H p (.lst ((l.mergeSort leT).map V.str))) { s with heap := s'.heap, gens := s'.gens, drawn := s'.drawn, toks := s'.toks } :=
    I.call (ch := []) (Un.laid k hp hn) (I.hok.laid k hp ⟨hlen, out, c, hv, hg⟩) (by rw [g]; exact I.bare) (fun _ z => nomatch z)
  have e : s' = { s with heap := s'.heap, gens := s'.gens, drawn := s'.drawn, toks := s'.toks } := by
    cases s'
    cases s
    cases o
    rfl
  rw [e]
  exact ⟨.ref p, _, J, rfl, q p hn⟩
noncomputable def sortSW (m : Bool) (ws : List W) (h : Hh) : Option (W × Hh) := match ws with
  | [w] => match deref h w with
    | some (.list ds) => match rowS ds with
      | some l => if (decide l.Nodup && decide (l.length < 1000)) = true then mkL m ((l.mergeSort leT).map .str) h else none
      | none => none
    | _ => none
  | _ => none
theorem sort_rev (l : List Str) : l.reverse.mergeSort leT = l.mergeSort leT :=
  List.Perm.eq_of_pairwise (fun x y _ _ h1 h2 => leT_anti h1 h2) (List.pairwise_mergeSort leT_trans leT_total _) (List.pairwise_mergeSort leT_trans leT_total _) ((List.mergeSort_perm _ _).trans ((List.reverse_perm l).trans (List.mergeSort_perm _ _).symm))
theorem d_sortS {k : Nat} (hr : RG k X.A) (hc : X.calm = true) (m : Bool) (hm : X.mg "sorted" = none) (hm2 : X.mg "set" = none) {e : Expr} {p p2 q pos : Pos} {g : AM} (ha : DA X [e] g) (hg : Gl X "sorted" := by rfl) (hg2 : Gl X "set" := by rfl)
    (he : starEach [.Call (.Name "set" p2) [e] [] q] X.env = (false, eval (.Call (.Name "set" p2) [e] [] q) X.env) :: starEach [] X.env := by rfl) (hpl : (backTo pos (starEach [] X.env)).any (·.1) = false := by rfl) (he2 : starEach [e] X.env = (false, eval e X.env) :: starEach [] X.env := by rfl) (hpl2 : (backTo q (starEach [] X.env)).any (·.1) = false := by rfl) :
    DE X (.Call (.Name "sorted" p) [.Call (.Name "set" p2) [e] [] q] [] pos) (fA (sortSW m) g) :=
  (pe_callB (cr_sortX hr.room hc) hg hm (by decide +kernel) (pa_cons (pe_callTy (cr_setX hc) hg2 hm2 (by decide +kernel) ha (by decide) (by decide) he2 hpl2) pa_nil) (by decide) (by decide) he hpl).weak fun σ H Q => by
    rintro ⟨M, h, ρ, r, rs, c⟩
    obtain ⟨w, h1, e1, c1⟩ := Cont.bind (δ := Unit) c
    refine ⟨M, h, ρ, r, rs, w, h1, e1, fun M1 H1 v x1 r1 v1 => ?_⟩
    have c2 := c1 M1 H1 x1
    unfold sortSW at c2
    split at c2
    · obtain ⟨v, rfl, rv⟩ := rvs1 v1
      split at c2
      · rename_i ds ed
        obtain ⟨a, xs, rfl, ha, qa⟩ := deref_rr r1 rv ed
        split at c2
        · rename_i l el
          split at c2
          · rename_i hz
            rw [Bool.and_eq_true, decide_eq_true_eq, decide_eq_true_eq] at hz
            have := rowS_map el
            subst this
            have := rds_strs qa
            subst this
            have sb : l.length + 1 < scanBound := by have : scanBound = 4096 := rfl; omega
            refine ⟨a, l, rfl, .of ha, hz.1, sb, fun p np => ?_⟩
            refine ⟨p, l.reverse, rfl, upd_same, (List.reverse_perm l).nodup_iff.mpr hz.1, by rw [List.length_reverse]; omega, by rw [List.length_reverse, sizeLine_eq]; omega, fun p' np' => ?_⟩
            rw [sort_rev]
            have x2 := ext_new (M := M1) (o := SetX X.prog X.w p l.reverse) np
            have c3 : Cont RV (mkL m ((l.mergeSort leT).map .str) h1) M1 (upd H1 p (SetX X.prog X.w p l.reverse)) Q := by
              obtain ⟨w', h', ee, kk⟩ := c2
              exact ⟨w', h', ee, fun M' H' v' xx => kk M' H' v' (x2.trans xx)⟩
            exact mkL_fin (r1.upd_new np) np' (rds_ofS _) c3
          · exact c2.no.elim
        · exact c2.no.elim
      · exact c2.no.elim
    · exact c2.no.elim
def isS : W → Bool
  | .dat (.str _) => true
  | _ => false
def joinW (x y : W) (h : Hh) : Option (W × Hh) := match x, deref h y with
  | .dat (.str a), some (.list ds) => match rowS ds with
    | some l => if (l.map (·.length)).sum + l.length * a.length ≤ 16777216 then ok (.str (Txt.join a l)) h else none
    | none => none
  | _, _ => none
def fJoin (fo fe : EM) : EM := fun ρ h => obnd (fo ρ h) fun x h1 => if isS x = true then obnd (fe ρ h1) fun y h2 => joinW x y h2 else none
theorem d_join {o e : Expr} {apos pos : Pos} {fo fe : EM} (ho : DE X o fo) (he : DE X e fe) (hs : starEach [e] X.env = [(false, eval e X.env)] := by rfl) (hb : attributeBase o "join" X.env (eval o X.env) = eval o X.env := by rfl) (hl : (apos.endLine == pos.line) = true := by rfl) :
    DE X (.Call (.Attribute o "join" apos) [e] [] pos) (fJoin fo fe) := (pe_join ho he hs hb hl).weak fun σ H Q => by
  rintro ⟨M, h, ρ, r, rs, c⟩
  obtain ⟨w, h1, e1, c1⟩ := Cont.bind (δ := Unit) c
  refine ⟨M, h, ρ, r, rs, w, h1, e1, fun M1 H1 v x1 r1 v1 => ?_⟩
  have c2 := c1 M1 H1 x1
  split at c2
  · rename_i ht
    have hw : ∃ a, w = .dat (.str a) := by
      unfold isS at ht
      split at ht
      · exact ⟨_, rfl⟩
      · cases ht
    obtain ⟨a, rfl⟩ := hw
    cases (show RD M1 H1 v (.str a) from v1)
    refine ⟨⟨a, rfl⟩, M1, h1, ρ, r1, rs.mono x1, ?_⟩
    obtain ⟨w2, h2, e2, c3⟩ := Cont.bind (δ := Unit) c2
    refine ⟨w2, h2, e2, fun M2 H2 v2 x2 r2 q2 => ?_⟩
    have c4 := c3 M2 H2 x2
    unfold joinW at c4
    split at c4
    · rename_i a' ds ea ed
      cases ea
      obtain ⟨p, xs, rfl, hp, qp⟩ := deref_rr r2 q2 ed
      split at c4
      · rename_i l el
        split at c4
        · rename_i hz
          have := rowS_map el
          subst this
          have := rds_strs qp
          subst this
          exact ⟨a, p, l, rfl, rfl, .inl (.of hp), hz, c4.here r2 (.str _)⟩
        · exact c4.no.elim
      · exact c4.no.elim
    · exact c4.no.elim
  · exact c2.no.elim
end
end DL
set_option maxRecDepth 100000
set_option maxHeartbeats 1000000
namespace DL
open PySem PySem.Spec PyProof.Rows L2
end DL
set_option maxRecDepth 100000
set_option maxHeartbeats 1000000
namespace DL
open PySem PySem.Spec PyProof.Rows L2
end DL
set_option maxRecDepth 100000
set_option maxHeartbeats 4000000
namespace DL
open PySem PySem.Spec PyProof.Rows L2
def insT (acc : List Str) (y : Str) : List Str := if y ∈ acc then acc else y :: acc
def uq (l : List Str) : List Str := l.foldl insT []
theorem uq_snoc (l : List Str) (y : Str) : uq (l ++ [y]) = insT (uq l) y := by
  unfold uq
  rw [List.foldl_append]
  rfl
theorem ins_nodup {acc : List Str} (y : Str) (h : acc.Nodup) : (insT acc y).Nodup := by
  unfold insT
  split
  · exact h
  · rename_i c; exact List.nodup_cons.mpr ⟨c, h⟩
theorem ins_mem {acc : List Str} {x y : Str} : x ∈ insT acc y ↔ x = y ∨ x ∈ acc := by
  unfold insT
  split
  · rename_i c
    exact ⟨.inr, fun z => z.elim (fun e => e ▸ c) id⟩
  · exact List.mem_cons
theorem ins_len (acc : List Str) (y : Str) : (insT acc y).length ≤ acc.length + 1 := by
  unfold insT
  split
  · omega
  · exact Nat.le_refl _
theorem fold_nodup : ∀ (l : List Str) {acc : List Str}, acc.Nodup → (l.foldl insT acc).Nodup
  | [], _, h => h
  | y :: l, _, h => fold_nodup l (ins_nodup y h)
theorem fold_mem : ∀ (l : List Str) {acc : List Str} {x : Str}, x ∈ l.foldl insT acc ↔ x ∈ l ∨ x ∈ acc
  | [], _, _ => by simp
  | y :: l, acc, x => by
    rw [List.foldl_cons, fold_mem l, ins_mem, List.mem_cons]
    constructor
    · rintro (h | h | h)
      · exact .inl (.inr h)
      · exact .inl (.inl h)
      · exact .inr h
    · rintro ((h | h) | h)
      · exact .inr (.inl h)
      · exact .inl h
      · exact .inr (.inr h)
theorem fold_len : ∀ (l : List Str) {acc : List Str}, (l.foldl insT acc).length ≤ acc.length + l.length
  | [], _ => Nat.le_refl _
  | y :: l, acc => by
    have h1 := fold_len l (acc := insT acc y)
    have h2 := ins_len acc y
    rw [List.foldl_cons, List.length_cons]
    omega
theorem uq_nodup (l : List Str) : (uq l).Nodup := fold_nodup l List.nodup_nil
theorem uq_mem {l : List Str} {x : Str} : x ∈ uq l ↔ x ∈ l := by
  unfold uq
  rw [fold_mem]
  simp
theorem uq_len (l : List Str) : (uq l).length ≤ l.length := by
  have := fold_len l (acc := [])
  rw [List.length_nil, Nat.zero_add] at this
  exact this
section
variable {P : Program} {w : World} {A : Around} {E : Value → Shared → Prop} {s : Shared}
theorem old_x {a : Addr} {T : String} {D : Froz.SD} {l : List Str} {k : Str} {u : Tok} {Q : Bool → Shared → Prop} (ho : s.heap.get? a = some (Froz.sObj T D)) (F : Froz.TxOk P w D l) (hk : k ∈ l) (hb : l.length < scanBound)
    (h : Q false s) : wpAny (model P w) A (setAddHashed a (.str k u) (hashStr w k)) Q E s := by
  obtain ⟨es, ep, t⟩ := D
  have hd : (Froz.sObj T (es, ep, t)).data = .set es ep t := rfl
  have hf : t.fits es.size = true := F.fit
  have hel : ElemsOf (strKind P w) es.toList := F.el
  have hsz : es.size = l.length := F.sz
  have hb0 : es.size < scanBound := by omega
  have hkey : (strKind P w).is k (.str k u) = true := Froz.is_str k u
  unfold setAddHashed setAddHashedIn
  refine wpAny_holding (wpAny_bind (wpAny_setState_of ho hd hf ?_))
  dsimp only
  rw [byScan_of rfl hb0 hel]
  simp only [↓reduceIte]
  unfold setAddByScan
  refine wpAny_bind ?_
  refine wpAny_bind (wpAny_rule ?_)
  refine wpAny_bind (wpAny_setScan_of (knd := strKind P w) (k := k) hkey ho hd hf hel ?_)
  cases hfi : List.findIdx? (fun e => (strKind P w).is k e.2) es.toList with
  | some j => exact wpAny_pure (wpAny_pure h)
  | none =>
    obtain ⟨e, he, q⟩ := (F.mem k).mp hk
    have c := List.findIdx?_eq_none_iff.mp hfi e he
    rw [q] at c
    cases c
end
section
variable {P : Program} {w : World} {A : Around} {R : Result → Shared → Prop} {I : Addr} {fp wr : List Addr} {G : Array GenState → Array GenState → Prop} {n : Nat} {Pv : Nat → Value → Prop} {St : Nat → Shared → Prop}
theorem txs_loopU (W : WalksS P w A.in1 I fp wr G n Pv St) (a : Addr) (hf : a ∉ fp) (xs : List Str) (hn : xs.length = n) (hb : n + 1 < scanBound) (hv : ∀ i v, Pv i v → ∃ (y : Str) (t : Tok), xs[i]? = some y ∧ v = .str y t) :
    ∀ (k i : Nat) (s : Shared), i + k = n → St i s → TxAt P w s.heap a (uq (xs.take i)) → (∀ s', Moved (a :: wr) G s s' → TxAt P w s'.heap a (uq xs) → R (.ok (.ret .none)) s') → codeAny (model P w) A (.builtin "set.update.loop" ⟨[.ref a, .ref I], []⟩) R s
  | 0, i, s, e, st, x, hR => by
    have hi : i = n := by omega
    subst hi
    apply codeAny_builtin PyProof.Rows.F.entry_set_update_loop
    rw [Around.under_plainId PyProof.Rows.F.plain_set_update_loop _]
    show wpAny _ A.in1 (pyNext (.ref I) >>= _) _ _ s
    apply wpAny_bind
    refine W.done s _ _ st fun s1 m => ?_
    show wpAny _ A.in1 (ret Value.none) _ _ s1
    refine wpAny_pure (hR s1 (m.mono fun b hb => List.mem_cons_of_mem _ hb) ?_)
    have x' := x.at fun o q => m.heap a o (fun z => hf (W.sub _ z)) q
    rwa [← hn, List.take_length] at x'
  | k + 1, i, s, e, st, x, hR => by
    apply codeAny_builtin PyProof.Rows.F.entry_set_update_loop
    rw [Around.under_plainId PyProof.Rows.F.plain_set_update_loop _]
    show wpAny _ A.in1 (pyNext (.ref I) >>= _) _ _ s
    apply wpAny_bind
    refine W.item i s _ _ (by omega) st fun v s1 pv st1 m => ?_
    obtain ⟨y, t, ey, rfl⟩ := hv i v pv
    obtain ⟨B, eB, rB⟩ := x.at fun o q => m.heap a o (fun z => hf (W.sub _ z)) q
    show wpAny _ A.in1 (holding [Value.str y t] (setAdd a (.str y t)) >>= _) _ _ s1
    apply wpAny_bind
    apply wpAny_holding
    unfold setAdd
    apply wpAny_holding
    apply wpAny_bind
    refine (PySem.strKind P w).pyHash (k := y) (strKind_is _ _ _ _) ?_
    have hlen : (uq (xs.take i)).length + 1 < scanBound := by
      have := uq_len (xs.take i)
      rw [List.length_take] at this
      omega
    have ht : xs.take (i + 1) = xs.take i ++ [y] := by rw [List.take_add_one, ey]; rfl
    by_cases hy : y ∈ uq (xs.take i)
    · refine old_x (s := { s1 with toks := s1.toks + 1 }) eB rB.ok hy (by omega) ?_
      refine wpAny_pure ⟨plainId_quiet PyProof.Rows.F.plain_set_update_loop _, txs_loopU W a hf xs hn hb hv k (i + 1) _ (by omega) (W.frame _ s1 _ _ st1 (Nat.le_succ _) fun b hb o q => q) ⟨_, eB, ?_⟩ fun s2 m2 x2 => ?_⟩
      · rw [ht, uq_snoc, insT, if_pos hy]
        exact rB
      · exact hR s2 (Moved.trans W.gtrans ((m.mono fun b hb => List.mem_cons_of_mem _ hb).then_heap (Nat.le_succ _) fun b o nb q => q) m2) x2
    refine Froz.add_x (s := { s1 with toks := s1.toks + 1 }) eB rB.ok hy hlen ?_
    have e2 := Froz.get_upd (h := s1.heap) (Froz.sObj "set" (Froz.addTx (hashStr w y) (.str y t) B)) eB rfl
    have oth : ∀ b o, b ≠ a → s1.heap.get? b = some o → (s1.heap.update a (fun _ => Froz.sObj "set" (Froz.addTx (hashStr w y) (.str y t) B))).get? b = some o := fun b o nb q => (Heap.get?_update_other _ _ (Ne.symm nb)).trans q
    refine wpAny_pure ⟨plainId_quiet PyProof.Rows.F.plain_set_update_loop _, txs_loopU W a hf xs hn hb hv k (i + 1) _ (by omega) (W.frame _ s1 _ _ st1 (Nat.le_succ _) fun b hb o q => oth b o (fun z => hf (z ▸ hb)) q) ⟨_, e2, ?_⟩ fun s2 m2 x2 => ?_⟩
    · rw [ht, uq_snoc, insT, if_neg hy]
      exact rB.add t
    · exact hR s2 (Moved.trans W.gtrans ((m.mono fun b hb => List.mem_cons_of_mem _ hb).then_heap (Nat.le_succ _) fun b o nb q => oth b o (fun z => nb (by rw [z]; exact List.mem_cons_self)) q) m2) x2
end
section
variable {X : Cx}
def gSub (i j : Int) : Option Int := some (i - j)
end
end DL
set_option maxRecDepth 100000
set_option maxHeartbeats 1000000
namespace DL
open PySem PySem.Spec PyProof.Rows L2
end DL
set_option maxRecDepth 100000
set_option maxHeartbeats 400000
namespace DL
open PySem PySem.Spec PyProof.Rows L2
mutual
def noL : D → Bool
  | .tuple ds => noLs ds
  | .list _ => false
  | .dict _ => false
  | _ => true
def noLs : List D → Bool
  | [] => true
  | d :: ds => noL d && noLs ds
end
def okM : Option MO → Bool
  | some (.lst ds) => noLs ds
  | some (.tab _ _) => true
  | none => true
  | _ => false
def killG {α : Type} (ns : List Nat) (l : List (Option α)) : List (Option α) := ns.foldl (fun l n => l.set n none) l
theorem killG_len {α : Type} : ∀ (ns : List Nat) (l : List (Option α)), (killG ns l).length = l.length
  | [], l => rfl
  | n :: ns, l => by show (killG ns (l.set n none)).length = _; rw [killG_len ns]; simp
theorem killG_get {α : Type} : ∀ (ns : List Nat) (l : List (Option α)) (i : Nat), i < l.length → (killG ns l)[i]? = if i ∈ ns then some none else l[i]?
  | [], l, i, h => by simp [killG]
  | n :: ns, l, i, h => by
    show (killG ns (l.set n none))[i]? = _
    rw [killG_get ns _ i (by simpa using h)]
    by_cases hi : i ∈ ns
    · simp [hi]
    · by_cases hn : n = i
      · subst hn; simp [hi, List.getElem?_set_self h]
      · simp [hi, Ne.symm hn, List.getElem?_set_ne hn]
def openP (h : Hh) : List (Sum Nat D) → Option (List D × List Nat)
  | [] => some ([], [])
  | .inr d :: its => match openP h its with
    | some (ds, ns) => some (d :: ds, ns)
    | none => none
  | .inl n :: its => match h[n]?, openP h its with
    | some (some (.lst l)), some (ds, ns) => some (.list l :: ds, n :: ns)
    | _, _ => none
section
variable {M : Mm} {H : Hp} {h : Hh}
theorem killM_has {ns : List Nat} : ∀ b, Mm.Has ⟨M.u, killG ns M.m⟩ b → M.Has b := fun b z => by
  rcases z with z | z
  · exact .inl z
  · obtain ⟨i, hi, q⟩ := List.getElem_of_mem z
    have hi' : i < M.m.length := by simpa [killG_len] using hi
    have q' : (killG ns M.m)[i]? = some (some b) := by rw [List.getElem?_eq_getElem hi]; exact congrArg some q
    rw [killG_get ns M.m i hi'] at q'
    split at q'
    · cases q'
    · exact .inr (List.mem_of_getElem? q')
theorem killM_get {ns : List Nat} {i : Nat} {a : Addr} (q : (killG ns M.m)[i]? = some (some a)) : i ∉ ns ∧ M.m[i]? = some (some a) := by
  have hi : i < M.m.length := by have := lt_of_get q; rwa [killG_len] at this
  rw [killG_get ns M.m i hi] at q
  split at q
  · cases q
  · rename_i hn; exact ⟨hn, q⟩
theorem Rep.kill (rep : Rep M H h) (ns : List Nat) : Rep ⟨M.u, killG ns M.m⟩ H (killG ns h) := by
  refine ⟨fun b z => ⟨fun y => ?_, (rep.us b z).2⟩, by rw [killG_len, killG_len]; exact rep.len, fun i j b q1 q2 => ?_, fun i b q => ?_, fun i q => ?_⟩
  · obtain ⟨i, hi, q⟩ := List.getElem_of_mem y
    have q' : (killG ns M.m)[i]? = some (some b) := by rw [List.getElem?_eq_getElem hi]; exact congrArg some q
    exact (rep.us b z).1 (List.mem_of_getElem? (killM_get q').2)
  · exact rep.inj i j b (killM_get q1).2 (killM_get q2).2
  · obtain ⟨hn, q'⟩ := killM_get q
    obtain ⟨o, ho, ro⟩ := rep.at_ i b q'
    refine ⟨o, ?_, ro.sub killM_has⟩
    rw [killG_get ns h i (by rw [← rep.len]; exact lt_of_get q'), if_neg hn]
    exact ho
  · have q' : (killG ns M.m)[i]? = some none := q
    have hi : i < M.m.length := by have := lt_of_get q'; rwa [killG_len] at this
    rw [killG_get ns h i (by rw [← rep.len]; exact hi)]
    rw [killG_get ns M.m i hi] at q'
    split at q'
    · rename_i hn; rw [if_pos hn]
    · rename_i hn; rw [if_neg hn]; exact rep.dead i q'
theorem killM_not (rep : Rep M H h) {ns : List Nat} {n : Nat} {a : Addr} (hn : n ∈ ns) (q : M.m[n]? = some (some a)) : ¬ Mm.Has ⟨M.u, killG ns M.m⟩ a := fun z => by
  rcases z with z | z
  · exact (rep.us a z).1 (List.mem_of_getElem? q)
  · obtain ⟨i, hi, e⟩ := List.getElem_of_mem z
    have q' : (killG ns M.m)[i]? = some (some a) := by rw [List.getElem?_eq_getElem hi]; exact congrArg some e
    obtain ⟨h1, h2⟩ := killM_get q'
    exact h1 (rep.inj i n a h2 q ▸ hn)
theorem openP_rds (rep : Rep M H h) {ns0 : List Nat} : ∀ {its : List (Sum Nat D)} {xs : List V} {ds : List D} {ns : List Nat}, RPs M H xs its → openP h its = some (ds, ns) → (∀ n ∈ ns, n ∈ ns0) → RDs ⟨M.u, killG ns0 M.m⟩ H xs ds
  | _, _, _, _, .nil, e, _ => by cases e; exact .nil
  | _, _, _, _, .dat (ds := its) q r, e, hs => by
    simp only [openP] at e
    split at e
    · rename_i ds ns e1
      cases e
      exact .cons (q.sub killM_has) (openP_rds rep r e1 hs)
    · cases e
  | _, _, _, _, .ref (ds := its) q r, e, hs => by
    simp only [openP] at e
    split at e
    · rename_i l ds ns e0 e1
      cases e
      obtain ⟨o, ho, ro⟩ := rep.at_ _ _ q
      rw [e0] at ho
      cases ho
      obtain ⟨xs, hx, rx⟩ := ro
      exact .cons (.lst (killM_not rep (hs _ (by simp)) q) hx (rx.sub killM_has)) (openP_rds rep r e1 fun n z => hs n (List.mem_cons_of_mem _ z))
    · cases e
theorem RS.kill {ρ : Env} {σ : L2.St} {i : Nat} {its : List (Sum Nat D)} {ds : List D} {ns : List Nat} (rep : Rep M H h) (rs : RS M H ρ σ) (er : ρ[i]? = some (some (.pack its))) (eo : openP h its = some (ds, ns)) (hn : ¬ ns.any (fun n => (ρ.set i none).any (isR n)) = true) (h0 : ns ≠ []) :
    RS ⟨M.u, killG ns M.m⟩ H (ρ.set i (some (.dat (.list ds)))) σ := by
  refine ⟨by simp [rs.1], fun j w q => ?_⟩
  by_cases hj : i = j
  · subst hj
    rw [List.getElem?_set_self (lt_of_get er)] at q
    cases q
    obtain ⟨v, ev, a, xs, rfl, na, ha, rp⟩ := rs.2 i _ er
    exact ⟨_, ev, RD.lst (fun z => na (killM_has _ z)) ha (openP_rds rep rp eo fun _ z => z)⟩
  · rw [List.getElem?_set_ne hj] at q
    obtain ⟨v, ev, rv⟩ := rs.2 j w q
    refine ⟨v, ev, ?_⟩
    have hm : some w ∈ ρ.set i none := List.mem_of_getElem? (i := j) (by rw [List.getElem?_set_ne hj]; exact q)
    cases w with
    | dat d => exact RD.sub killM_has rv
    | ins C fs =>
      obtain ⟨b, u, gs, e1, n1, q1, r1⟩ := rv
      exact ⟨b, u, gs, e1, fun z => n1 (killM_has b z), q1, r1.to fun _ _ => RD.sub killM_has⟩
    | exc k C fs =>
      obtain ⟨b, d, gs, e1, r1⟩ := rv
      exact ⟨b, d, gs, e1, r1.to (fun c _ _ n z => n (killM_has c z)) (fun _ _ q _ _ => q) fun _ _ => RD.sub killM_has⟩
    | lock es =>
      obtain ⟨b, u, kvs, e1, n1, q1, r1⟩ := rv
      exact ⟨b, u, kvs, e1, fun z => n1 (killM_has b z), q1, r1.sub killM_has⟩
    | scr ns =>
      obtain ⟨b, u, e1, n1, q1⟩ := rv
      exact ⟨b, u, e1, fun z => n1 (killM_has b z), q1⟩
    | pack its' =>
      obtain ⟨n, hn0⟩ := List.exists_mem_of_ne_nil _ h0
      exact absurd (List.any_eq_true.mpr ⟨n, hn0, List.any_eq_true.mpr ⟨_, hm, rfl⟩⟩) hn
    | ref k =>
      obtain ⟨b, eb, rfl⟩ := rv
      have hk : k ∉ ns := fun z => hn (List.any_eq_true.mpr ⟨k, z, List.any_eq_true.mpr ⟨_, hm, by simp [isR]⟩⟩)
      exact ⟨b, by show (killG ns M.m)[k]? = _; rw [killG_get ns M.m k (lt_of_get eb), if_neg hk]; exact eb, rfl⟩
end
section
variable {X : Cx}
def packs : List W → Option (List (Sum Nat D))
  | [] => some []
  | .dat d :: ws => (packs ws).map (.inr d :: ·)
  | .ref n :: ws => (packs ws).map (.inl n :: ·)
  | _ :: _ => none
@[simp] theorem packs_nil : packs [] = some [] := rfl
@[simp] theorem packs_dat (d : D) (ws : List W) : packs (.dat d :: ws) = (packs ws).map (.inr d :: ·) := rfl
@[simp] theorem packs_ref (n : Nat) (ws : List W) : packs (.ref n :: ws) = (packs ws).map (.inl n :: ·) := rfl
theorem RPs.length {M : Mm} {H : Hp} : ∀ {vs : List V} {ws : List (Sum Nat D)}, RPs M H vs ws → vs.length = ws.length
  | _, _, .nil => rfl
  | _, _, .ref _ r => by rw [List.length_cons, List.length_cons, r.length]
  | _, _, .dat _ r => by rw [List.length_cons, List.length_cons, r.length]
theorem RPs.get {M : Mm} {H : Hp} : ∀ {xs : List V} {its : List (Sum Nat D)} {i : Nat} {z : Sum Nat D}, RPs M H xs its → its[i]? = some z → ∃ v, xs[i]? = some v ∧ RV M H v (match z with | .inl n => .ref n | .inr d => .dat d)
  | _, _, _, _, .nil, e => by simp at e
  | _, _, 0, _, .ref (a := a) q r, e => by simp at e; subst e; exact ⟨_, rfl, a, q, rfl⟩
  | _, _, 0, _, .dat q r, e => by simp at e; subst e; exact ⟨_, rfl, q⟩
  | _, _, i + 1, z, .ref (vs := vs) (ds := ds) q r, e => by
    obtain ⟨v, e1, e2⟩ := RPs.get (i := i) r (by simpa using e)
    exact ⟨v, by simpa using e1, e2⟩
  | _, _, i + 1, z, .dat (vs := vs) (ds := ds) q r, e => by
    obtain ⟨v, e1, e2⟩ := RPs.get (i := i) r (by simpa using e)
    exact ⟨v, by simpa using e1, e2⟩
end
end DL
set_option maxRecDepth 100000
set_option maxHeartbeats 1000000
namespace DL
open PySem PySem.Spec PyProof.Rows L2
mutual
def noD : D → Bool
  | .tuple ds => noDs ds
  | .list ds => noDs ds
  | .dict _ => false
  | _ => true
def noDs : List D → Bool
  | [] => true
  | d :: ds => noD d && noDs ds
end
def noDk : List (D × D) → Bool
  | [] => true
  | (_, d) :: es => noD d && noDk es
def noDM : Option MO → Bool
  | some (.lst ds) => noDs ds
  | some (.dic es) => noDk es
  | some (.dit es) => noDk es
  | some (.ins _ _) => false
  | _ => true
section
variable {M : Mm} {H : Hp} {d : Addr} {o : Obj} {u : HO} {kvs0 : List (Key × V)}
mutual
theorem RD.lock (hd : H d = some (.dK kvs0)) : ∀ {v : V} {x : D}, RD M H v x → noD x = true → RD M (upd H d u) v x
  | _, _, .non, _ => .non
  | _, _, .bl b, _ => .bl b
  | _, _, .int i, _ => .int i
  | _, _, .str s, _ => .str s
  | _, _, .tup n e r, h => .tup n (e.to fun _ q => by
      rw [upd_ne]; exact q
      rintro rfl
      rcases e with ⟨_, e⟩ | ⟨_, o, _, e⟩ <;> rw [hd] at e <;> cases e) (RDs.lock hd r (by simpa [noD] using h))
  | _, _, .lst n e r, h => .lst n (by
      rw [upd_ne]; exact e
      rintro rfl
      rw [hd] at e; cases e) (RDs.lock hd r (by simpa [noD] using h))
  | _, _, .dic n e r, h => by simp [noD] at h
  | _, _, .dit n e r, h => by simp [noD] at h
theorem RDs.lock (hd : H d = some (.dK kvs0)) : ∀ {v : List V} {x : List D}, RDs M H v x → noDs x = true → RDs M (upd H d u) v x
  | _, _, .nil, _ => .nil
  | _, _, .cons a r, h => by
    simp only [noDs, Bool.and_eq_true] at h
    exact .cons (RD.lock hd a h.1) (RDs.lock hd r h.2)
end
theorem RDk.lock (hd : H d = some (.dK kvs0)) : ∀ {v : List (Key × V)} {x : List (D × D)}, RDk M H v x → noDk x = true → RDk M (upd H d u) v x
  | _, _, .nil, _ => .nil
  | _, _, .cons a r, h => by
    simp only [noDk, Bool.and_eq_true] at h
    exact .cons (RD.lock hd a h.1) (RDk.lock hd r h.2)
theorem RDt.lock (hd : H d = some (.dK kvs0)) : ∀ {v : List (List Key × V)} {x : List (D × D)}, RDt M H v x → noDk x = true → RDt M (upd H d u) v x
  | _, _, .nil, _ => .nil
  | _, _, .cons a r, h => by
    simp only [noDk, Bool.and_eq_true] at h
    exact .cons (RD.lock hd a h.1) (RDt.lock hd r h.2)
theorem RO.lock (hd : H d = some (.dK kvs0)) (hn : ¬ M.Has d) {a : Addr} (ha : M.Has a) {m : MO} (r : RO M H a m) (h : noDM (some m) = true) : RO M (upd H d u) a m := by
  have ne : a ≠ d := fun z => hn (z ▸ ha)
  cases m with
  | lst ds => obtain ⟨xs, e, r⟩ := r; exact ⟨xs, by rw [upd_ne ne]; exact e, r.lock hd h⟩
  | dic ds => obtain ⟨xs, e, r⟩ := r; exact ⟨xs, by rw [upd_ne ne]; exact e, r.lock hd h⟩
  | dit ds => obtain ⟨xs, e, r⟩ := r; exact ⟨xs, by rw [upd_ne ne]; exact e, r.lock hd h⟩
  | ins C fs => cases h
  | tab q P =>
    obtain ⟨z, ps, e, t, r⟩ := r
    refine ⟨z, ps, by rw [upd_ne ne]; exact e, t, fun pos cv hc => ?_⟩
    obtain ⟨c, e1, n, e2⟩ := r pos cv hc
    refine ⟨c, e1, n, ?_⟩
    rw [upd_ne]; exact e2
    rintro rfl
    rw [hd] at e2; cases e2
theorem Rep.lock {h : Hh} (r : Rep M H h) (hd : H d = some (.dK kvs0)) (hn : ¬ M.Has d) (hk : h.all noDM = true) : Rep M (upd H d u) h :=
  ⟨fun a m => ⟨(r.us a m).1, let ⟨w, e, ht⟩ := (r.us a m).2; ⟨w, by rw [upd_ne (fun z => hn (.inl (by rw [← z]; exact m)))]; exact e, ht⟩⟩, r.len, r.inj, fun i a e => by
    obtain ⟨m, hm, ro⟩ := r.at_ i a e
    exact ⟨m, hm, ro.lock hd hn (.inr (List.mem_of_getElem? e)) (List.all_eq_true.mp hk _ (List.mem_of_getElem? hm))⟩, r.dead⟩
end
section
variable {X : Cx}
theorem RDk.get {M : Mm} {H : Hp} : ∀ {kvs : List (Key × V)} {es : List (D × D)} {i : Nat} {e : D × D}, RDk M H kvs es → es[i]? = some e → ∃ k v, kvs[i]? = some (k, v) ∧ e.1 = kP k ∧ RD M H v e.2
  | _, _, _, _, .nil, e => by simp at e
  | _, _, 0, _, .cons r t, e => by simp at e; subst e; exact ⟨_, _, rfl, rfl, r⟩
  | _, _, i + 1, _, .cons r t, e => by
    obtain ⟨k, v, h1, h2⟩ := RDk.get (i := i) t (by simpa using e)
    exact ⟨k, v, by simpa using h1, h2⟩
end
end DL
set_option maxRecDepth 100000
set_option maxHeartbeats 1000000
namespace DL
open PySem PySem.Spec PyProof.Rows L2
end DL
set_option maxRecDepth 100000
set_option maxHeartbeats 1000000
namespace DL
open PySem PySem.Spec PyProof.Rows L2
section
variable {X : Cx}
def extendW (w : W) (ws : List W) (h : Hh) : Option (W × Hh) := match w, ws with
  | .ref n, [.dat (.list zs)] => match lstAt h n with
    | some ds => if ds.length + zs.length ≤ sizeLine then setL h n (ds ++ zs) .none else none
    | none => none
  | _, _ => none
theorem s_extend : SemM rExtend extendW := by
  intro M H h x w vs ws Q rep rx rv c
  unfold extendW at c
  split at c
  · rename_i n zs
    obtain ⟨a, ea, rfl⟩ := rx
    obtain ⟨v, rfl, r⟩ := rvs1 rv
    split at c
    · rename_i ds e
      obtain ⟨xs, ha, q⟩ := lstAt_ok rep e ea
      split at c
      · rename_i hz
        cases (show RD M H v _ from r) with
        | lst nb hb qb => exact ⟨a, _, xs, _, rfl, rfl, ha, hb, by rw [q.length, qb.length]; exact hz, setL_fin rep ea (q.app qb) .non c⟩
      · exact c.no.elim
    · exact c.no.elim
  · exact c.no.elim
end
end DL
set_option maxRecDepth 100000
set_option maxHeartbeats 1000000
namespace DL
open PySem PySem.Spec PyProof.Rows L2
end DL
set_option maxRecDepth 100000
set_option maxHeartbeats 1000000
namespace DL
open PySem PySem.Spec PyProof.Rows L2
end DL
set_option maxRecDepth 100000
set_option maxHeartbeats 1000000
namespace DL
open PySem PySem.Spec PyProof.Rows L2
end DL
set_option maxRecDepth 100000
namespace DL
open PySem PySem.Spec PyProof.Rows L2
theorem lookup_relabel {env : PySem.Env} : ∀ {names : List (Str × NameKind)} {x : Str}, names.lookup x = some .cell ∨ names.lookup x = some .free →
    (names.map fun (n, k) => if (k == NameKind.free && env.scope.kind == .function && env.kindOf n == some .cell) then (n, NameKind.cell) else (n, k)).lookup x = some .cell ∨
    (names.map fun (n, k) => if (k == NameKind.free && env.scope.kind == .function && env.kindOf n == some .cell) then (n, NameKind.cell) else (n, k)).lookup x = some .free
  | [], _, h => by simp at h
  | (n, k) :: r, x, h => by
    have ih := @lookup_relabel env r x
    rw [List.map_cons]
    show List.lookup x ((if (k == NameKind.free && env.scope.kind == .function && env.kindOf n == some .cell) = true then (n, NameKind.cell) else (n, k)) :: _) = _ ∨ List.lookup x ((if (k == NameKind.free && env.scope.kind == .function && env.kindOf n == some .cell) = true then (n, NameKind.cell) else (n, k)) :: _) = _
    cases hx : x == n with
    | true =>
      simp only [List.lookup_cons, hx] at h
      by_cases hc : (k == NameKind.free && env.scope.kind == .function && env.kindOf n == some .cell) = true
      · rw [if_pos hc]; left; simp only [List.lookup_cons, hx]
      · rw [if_neg hc]; simp only [List.lookup_cons, hx]; exact h
    | false =>
      simp only [List.lookup_cons, hx] at h
      by_cases hc : (k == NameKind.free && env.scope.kind == .function && env.kindOf n == some .cell) = true
      · rw [if_pos hc]; simp only [List.lookup_cons, hx]; exact ih h
      · rw [if_neg hc]; simp only [List.lookup_cons, hx]; exact ih h
theorem blk_re {N : List Str} {sc scope : Scope} {own : List (Str × Nat)} {env : PySem.Env} (h : BlkOk N sc scope own) : BlkOk N (relabel sc env) scope own :=
  ⟨h.kind, h.uniq, h.ix, fun y hy e => lookup_relabel (h.free y hy e), h.own⟩
end DL
set_option maxRecDepth 100000
set_option maxHeartbeats 1000000
namespace DL
open PySem PySem.Spec PyProof.Rows L2
end DL
set_option maxRecDepth 100000
set_option maxHeartbeats 1000000
namespace DL
open PySem PySem.Spec PyProof.Rows L2
section
variable {X : Cx}
def okI : D → Bool
  | .int i => decide (i.natAbs.log2 < 1920)
  | .dict _ => false
  | _ => true
def reprA (ws : List W) (h : Hh) : Option (W × Hh) := match ws with
  | [w] => match deref h w with
    | some d => if (okI d && shp d && d.showable && decide (d.shown.length ≤ sizeLine)) = true then ok (.str d.shown) h else none
    | none => none
  | _ => none
def rReprA (K : PySem.W.Frag) : List V → Hp → VK → Prop := fun xs H Q => rRepr K xs H Q ∨ (xs = [.non] ∧ Q (.str "None") H) ∨ (∃ b : Bool, xs = [.bl b] ∧ Q (.str (if b then "True" else "False")) H) ∨ (∃ i : Int, xs = [.int i] ∧ i.natAbs.log2 < 1920 ∧ Q (.str (toString i)) H) ∨ ∃ z : Str, xs = [.str z] ∧ (PyData.shown (.str z)).length ≤ sizeLine ∧ Q (.str (PyData.shown (.str z))) H
theorem cr_reprA {k : Nat} (hr : RG k X.A) : CallR X (.builtin "repr") (rReprA X.K) := by
  intro pins s σ H xs us Q I r h
  rcases h with h | ⟨rfl, q⟩ | ⟨b, rfl, q⟩ | ⟨i, rfl, hz, q⟩ | ⟨z, rfl, hz, q⟩
  · exact cr_repr hr pins s σ H xs us Q I r h
  · obtain ⟨u, rfl, e⟩ := vals1 r
    cases e
    exact PySem.P.repr_of_none ⟨.str _, H, I.tok _, ⟨_, rfl⟩, q⟩
  · obtain ⟨u, rfl, e⟩ := vals1 r
    cases e
    exact PySem.P.repr_of_bool ⟨.str _, H, I.tok _, ⟨_, rfl⟩, q⟩
  · exact SkE.call_repr_int pins s σ H _ us Q I r ⟨i, rfl, hz, q⟩
  · obtain ⟨u, rfl, t, rfl⟩ := vals1 r
    exact PySem.P.repr_of_str ⟨.str _, H, I.tok _, ⟨_, rfl⟩, q⟩ hz
theorem s_reprA : SemA (rReprA X.K) reprA := by
  intro M H h vs ws Q rep rv c
  unfold reprA at c
  split at c
  · obtain ⟨v, rfl, r⟩ := rvs1 rv
    split at c
    · rename_i d e
      split at c
      · rename_i hz
        simp only [Bool.and_eq_true, decide_eq_true_eq] at hz
        obtain ⟨⟨⟨h1, h2⟩, h3⟩, h4⟩ := hz
        have rr := deref_rr rep r e
        have dp := rr_dp (K := X.K) rr (SeqAt.canLay_of_shaped h2)
        cases d with
        | list ds => obtain ⟨a, _, e, _⟩ := rr; subst e; exact .inl ⟨a, _, rfl, dp, h2, h3, h4, c.here rep (.str _)⟩
        | tuple ds => obtain ⟨a, _, e, _⟩ := rr_tup rr; subst e; exact .inl ⟨a, _, rfl, dp, h2, h3, h4, c.here rep (.str _)⟩
        | none =>
          cases (show RD M H v .none from rr)
          exact .inr (.inl ⟨rfl, c.here rep (.str _)⟩)
        | bool b =>
          cases (show RD M H v (.bool b) from rr)
          refine .inr (.inr (.inl ⟨b, rfl, ?_⟩))
          have := c.here rep (.str (PyData.bool b).shown)
          cases b <;> exact this
        | int i =>
          cases (show RD M H v (.int i) from rr)
          exact .inr (.inr (.inr (.inl ⟨i, rfl, by simpa [okI] using h1, c.here rep (.str _)⟩)))
        | str z =>
          cases (show RD M H v (.str z) from rr)
          exact .inr (.inr (.inr (.inr ⟨z, rfl, h4, c.here rep (.str _)⟩)))
        | _ => first | (simp [okI] at h1; done) | (cases (show RD M H v _ from rr))
      · exact c.no.elim
    · exact c.no.elim
  · exact c.no.elim
variable {e : Expr} {g : AM} {p pos : Pos}
theorem d_reprA {k : Nat} (hr : RG k X.A) (hm : X.mg "repr" = none) (ha : DA X [e] g) (hg : Gl X "repr" := by rfl) (he : starEach [e] X.env = (false, eval e X.env) :: starEach [] X.env := by rfl) (hpl : (backTo pos (starEach [] X.env)).any (·.1) = false := by rfl) : DE X (.Call (.Name "repr" p) [e] [] pos) (fA reprA g) :=
  d_callB (cr_reprA hr) s_reprA hm (by decide +kernel) ha hg (by decide) (by decide) he hpl
end
end DL
set_option maxRecDepth 100000
set_option maxHeartbeats 1000000
namespace DL
open PySem PySem.Spec PyProof.Rows L2
section
variable {X : Cx} {M : Mm} {H : Hp}
def insF (C : Addr) (w : W) (h : Hh) : Option (List (Str × D)) := match w with
  | .ins C' fs => if C' = C then some fs else none
  | .ref n => match h[n]? with
    | some (some (.ins C' fs)) => if C' = C then some fs else none
    | _ => none
  | _ => none
def fFld (C : Addr) (f : Str) (g : EM) : EM := fun ρ h => obnd (g ρ h) fun w h1 => match insF C w h1 with
  | some fs => match fs.lookup f with
    | some d => some (.dat d, h1)
    | none => none
  | none => none
def fMeth (C : Addr) (m : Str) (mm : FM) (go : EM) (ga : AM) : EM := fun ρ h => obnd (go ρ h) fun w h1 => match insF C w h1 with
  | some fs => match fs.lookup m with
    | some _ => none
    | none => obnd (ga ρ h1) fun ws h2 => mm (w :: ws) h2
  | none => none
def fMk (C : Addr) (mi : FM) (ga : AM) : EM := fun ρ h => obnd (ga ρ h) fun ws h1 => match mi (.ref h1.length :: ws) (h1 ++ [some (.ins C [])]) with
  | some (.dat .none, h2) => match h2[h1.length]? with
    | some (some (.ins C' fs)) => if C' = C then some (.ins C fs, h2.set h1.length none) else none
    | _ => none
  | _ => none
end
end DL
set_option maxRecDepth 100000
set_option maxHeartbeats 1000000
namespace DL
open PySem PySem.Spec PyProof.Rows L2
end DL
set_option maxRecDepth 100000
set_option maxHeartbeats 1000000
namespace DL
open PySem PySem.Spec PyProof.Rows L2
def datL : Option (Option W) → Option (List D)
  | some (some (.dat (.list ds))) => some ds
  | some (some (.dat (.tuple ds))) => some ds
  | _ => none
def lc2L (k : TM) (t : BM) (i1 : Nat) (k1 : TM) (t1 : BM) (f : EM) (vs1 : List Nat) (ρ : Env) : List D → Hh → Option (List D × Hh)
  | [], h => some ([], h)
  | d :: ds, h => match k (.dat d) ρ h with
    | some ρ1 => obnd (t ρ1 h) fun b h2 => if b = true then match datL ρ1[i1]? with
        | some ds1 => obnd (lcL k1 t1 f (wipeE ρ1 vs1) ds1 h2) fun r1 h3 => obnd (lc2L k t i1 k1 t1 f vs1 ρ ds h3) fun r h4 => some (r1 ++ r, h4)
        | none => none
      else lc2L k t i1 k1 t1 f vs1 ρ ds h2
    | none => none
def fLc2 (m : Bool) (gi : IM) (k : TM) (t : BM) (i1 : Nat) (k1 : TM) (t1 : BM) (f : EM) (vs vs1 : List Nat) : EM := fun ρ h => obnd (gi ρ h) fun ds h1 => obnd (lc2L k t i1 k1 t1 f vs1 (wipeE ρ vs) ds h1) fun r h2 => if r.length ≤ sizeLine then mkL m r h2 else none
def iV (K : PySem.W.Frag) (i : Nat) : TI := fun σ H R => iList K (tVar i) σ H R ∨ iTup K (tVar i) σ H R
theorem datL_it {K : PySem.W.Frag} {M : Mm} {H : Hp} {ρ : Env} {σ : L2.St} {i : Nat} {ds : List D} (rs : RS M H ρ σ) (e : datL ρ[i]? = some ds) : ∃ (a : Addr) (J : It), σ[i]? = some (some (.ref a)) ∧ (∀ R : It → Hp → Prop, R J H → iV K i σ H R) ∧
    ∀ (M1 : Mm) (H1 : Hp) (ρ1 : Env) (σ1 : L2.St), RS M1 H1 ρ1 σ1 → ρ1[i]? = ρ[i]? → σ1[i]? = σ[i]? → ItD M1 H1 J ds := by
  unfold datL at e
  split at e
  · rename_i ds' q
    cases e
    obtain ⟨v, ev, rv⟩ := rs.2 i _ q
    cases (show RD M H v _ from rv) with
    | lst n ha qa =>
      rename_i a xs
      refine ⟨a, Itl K a, ev, fun R r => .inl ⟨_, ev, a, rfl, ⟨_, .of ha⟩, r⟩, fun M1 H1 ρ1 σ1 rs1 e1 e2 => ?_⟩
      obtain ⟨v, ev1, rv1⟩ := rs1.2 i _ (e1.trans q)
      rw [e2, ev] at ev1
      cases ev1
      cases (show RD M1 H1 (.ref a) (.list ds) from rv1) with
      | lst n1 ha1 qa1 => exact itd_list n1 ha1 qa1
  · rename_i ds' q
    cases e
    obtain ⟨v, ev, rv⟩ := rs.2 i _ q
    cases (show RD M H v _ from rv) with
    | tup n ha qa =>
      rename_i a xs
      refine ⟨a, Itt K a, ev, fun R r => .inr ⟨_, ev, a, rfl, ⟨_, ha.sq⟩, r⟩, fun M1 H1 ρ1 σ1 rs1 e1 e2 => ?_⟩
      obtain ⟨v, ev1, rv1⟩ := rs1.2 i _ (e1.trans q)
      rw [e2, ev] at ev1
      cases ev1
      cases (show RD M1 H1 (.ref a) (.tuple ds) from rv1) with
      | tup n1 ha1 qa1 => exact itd_tup n1 ha1 qa1
  · cases e
theorem wipeE_out {ρ : Env} {i : Nat} : ∀ {vs : List Nat}, i ∉ vs → (wipeE ρ vs)[i]? = ρ[i]?
  | [], _ => rfl
  | v :: vs, h => by
    have h1 : v ≠ i := fun e => h (by rw [e]; exact List.mem_cons_self)
    have h2 : i ∉ vs := fun m => h (List.mem_cons_of_mem _ m)
    unfold wipeE
    rw [List.getElem?_set_ne h1]
    exact wipeE_out h2
theorem lc2_imp {K : PySem.W.Frag} {gi : IM} {k : TM} {t : BM} {i1 : Nat} {k1 : TM} {t1 : BM} {f : EM} {ts ts1 vs vs1 : List Nat} {m : Bool} (hs : ∀ j ∈ ts, j ∈ vs) (hs1 : ∀ j ∈ ts1, j ∈ vs1) (hi1 : i1 ∉ vs1) :
    ∀ σ H Q, tE (fLc2 m gi k t i1 k1 t1 f vs vs1) σ H Q → tLc2 (tI gi) (tGd ts k) (tT t) (iV K i1) (tGd ts1 k1) (tT t1) (tE f) vs vs1 σ H Q := fun σ H Q => by
  rintro ⟨M, h, ρ, r, rs, c⟩
  obtain ⟨ds, h1, e1, c1⟩ := Cont.bind (δ := Unit) c
  refine ⟨M, h, ρ, ds, h1, r, rs, e1, fun M1 H1 J x1 r1 it D nD => ?_⟩
  obtain ⟨out, h2, e2, c2⟩ := Cont.bind (δ := Unit) (c1 M1 H1 x1)
  have x0 := ext_made (M := M1) (o := .lst []) nD
  have r0 := r1.make (o := .lst []) nD
  have rs0 : RS (M1.made D) (upd H1 D (.lst [])) (wipeE ρ vs) (L2.wipe σ vs) := ((rs.mono x1).moveu x0 rfl).wipe vs
  let P : Nat → Hp → Prop := fun i Hi => ∃ mi hi acc dacc rest, ExtE M1 ⟨M1.u, mi⟩ H1 Hi ∧ Rep ⟨D :: M1.u, mi⟩ Hi hi ∧ RS ⟨D :: M1.u, mi⟩ Hi (wipeE ρ vs) (L2.wipe σ vs) ∧ Hi D = some (.lst acc) ∧ RDs ⟨D :: M1.u, mi⟩ Hi acc dacc ∧ lc2L k t i1 k1 t1 f vs1 (wipeE ρ vs) (ds.drop i) hi = some (rest, h2) ∧ dacc ++ rest = out
  have outlen : out.length ≤ sizeLine := by
    have c3 := c2 M1 H1 (.refl _ _)
    by_cases hz : out.length ≤ sizeLine
    · exact hz
    · rw [if_neg hz] at c3; exact c3.no.elim
  refine ⟨fun i n Hi => n + i = ds.length ∧ P i Hi, ⟨ds.length, by omega, M1.m, h1, [], [], out, (ExtE.refl M1 H1).beside nD, r0, rs0, upd_same, .nil, by rw [List.drop_zero]; exact e2, rfl⟩, fun i n Hi w => ?_⟩
  obtain ⟨hn, mi, hi, acc, dacc, rest, xi, ri, rsi, hD, qa, el, eo⟩ := w
  have inD : D ∈ (⟨D :: M1.u, mi⟩ : Mm).u := List.mem_cons_self
  obtain ⟨ity, its⟩ := it _ Hi (xi.into nD) fun a ha => ri.tracked ha
  by_cases hlt : i < ds.length
  · refine .inr ?_
    obtain ⟨go, yl⟩ := ity i _ (List.getElem?_eq_getElem hlt)
    rw [List.drop_eq_getElem_cons hlt] at el
    refine ⟨go, P (i + 1), fun H' p => ⟨n - 1, by omega, by omega, p⟩, fun x H2 hy => ?_⟩
    obtain ⟨sm, rx⟩ := yl x H2 hy
    obtain ⟨ri2, xi2⟩ := ri.grow sm
    unfold lc2L at el
    split at el
    · rename_i ρ1 ek
      refine ⟨_, hi, wipeE ρ vs, .dat ds[i], ρ1, ri2, rsi.mono xi2, rx, ek, fun σ2 rs2 l2 o2 => ⟨wipe_of (by rw [l2, L2.wipe_length]) o2 hs, ?_⟩⟩
      cases et : t ρ1 hi with
      | none => rw [et] at el; cases el
      | some pr =>
        obtain ⟨b, h3⟩ := pr
        rw [et] at el
        simp only [obnd_some] at el
        refine ⟨_, hi, ρ1, ri2, rs2, b, h3, et, fun M3 H3 b' x3 r3 eb => ?_⟩
        subst eb
        obtain ⟨u3, m3⟩ := M3
        obtain rfl : u3 = D :: M1.u := x3.same
        have xi3 : ExtE M1 ⟨M1.u, m3⟩ H1 H3 := xi.trans ((xi2.trans x3).reu M1.u)
        have hD3 : H3 D = some (.lst acc) := x3.stab _ _ (sm _ _ hD) fun z => (ri.us D inD).1 z
        cases b' with
        | false =>
          simp only [Bool.false_eq_true, if_false] at el
          exact iteF ⟨m3, h3, acc, dacc, rest, xi3, r3, (rsi.mono xi2).mono x3, hD3, (qa.mono xi2.ext).mono x3.ext, el, eo⟩
        | true =>
          simp only [if_true] at el
          refine iteT ?_
          split at el
          · rename_i ds1 ed1
            cases er1 : lcL k1 t1 f (wipeE ρ1 vs1) ds1 h3 with
            | none => rw [er1] at el; cases el
            | some pr =>
              obtain ⟨out1, h4⟩ := pr
              rw [er1] at el
              simp only [obnd_some] at el
              cases er : lc2L k t i1 k1 t1 f vs1 (wipeE ρ vs) (ds.drop (i + 1)) h4 with
              | none => rw [er] at el; cases el
              | some pr =>
                obtain ⟨rest', h5⟩ := pr
                rw [er] at el
                simp only [obnd_some, Option.some.injEq, Prod.mk.injEq] at el
                obtain ⟨e5, e6⟩ := el
                subst e5 e6
                have rs3 := rs2.mono x3
                obtain ⟨a, J1, ea, hR, hit⟩ := datL_it (K := K) rs3 ed1
                refine hR _ ?_
                let P1 : Nat → Hp → Prop := fun j Hj => ∃ mj hj ac dac rst, ExtE M1 ⟨M1.u, mj⟩ H1 Hj ∧ Rep ⟨D :: M1.u, mj⟩ Hj hj ∧ RS ⟨D :: M1.u, mj⟩ Hj (wipeE ρ vs) (L2.wipe σ vs) ∧ RS ⟨D :: M1.u, mj⟩ Hj (wipeE ρ1 vs1) (L2.wipe σ2 vs1) ∧ Hj D = some (.lst ac) ∧ RDs ⟨D :: M1.u, mj⟩ Hj ac dac ∧ lcL k1 t1 f (wipeE ρ1 vs1) (ds1.drop j) hj = some (rst, h4) ∧ dac ++ (rst ++ rest') = out
                refine ⟨fun j n Hj => n + j = ds1.length ∧ P1 j Hj, ⟨ds1.length, by omega, m3, h3, acc, dacc, out1, xi3, r3, (rsi.mono xi2).mono x3, rs3.wipe vs1, hD3, (qa.mono xi2.ext).mono x3.ext, by rw [List.drop_zero]; exact er1, eo⟩, fun j n1 Hj w1 => ?_⟩
                obtain ⟨hn1, mj, hj, ac, dac, rst, xj, rj, rsj, rsk, hDj, qj, elj, eoj⟩ := w1
                have inDj : D ∈ (⟨D :: M1.u, mj⟩ : Mm).u := List.mem_cons_self
                obtain ⟨ity1, its1⟩ := hit _ Hj _ _ rsk (wipeE_out hi1) (L2.wipe_out hi1) _ Hj (Ext.refl _ _) fun a ha => rj.tracked ha
                by_cases hlt1 : j < ds1.length
                · refine .inr ?_
                  obtain ⟨go1, yl1⟩ := ity1 j _ (List.getElem?_eq_getElem hlt1)
                  rw [List.drop_eq_getElem_cons hlt1] at elj
                  refine ⟨go1, P1 (j + 1), fun H' p => ⟨n1 - 1, by omega, by omega, p⟩, fun x1' H6 hy1 => ?_⟩
                  obtain ⟨sm1, rx1⟩ := yl1 x1' H6 hy1
                  obtain ⟨rj2, xj2⟩ := rj.grow sm1
                  unfold lcL at elj
                  split at elj
                  · rename_i ρ2 ek1
                    refine ⟨_, hj, wipeE ρ1 vs1, .dat ds1[j], ρ2, rj2, rsk.mono xj2, rx1, ek1, fun σ3 rs4 l4 o4 => ⟨wipe_of (by rw [l4, L2.wipe_length]) o4 hs1, ?_⟩⟩
                    cases et1 : t1 ρ2 hj with
                    | none => rw [et1] at elj; cases elj
                    | some pr =>
                      obtain ⟨b1, h6⟩ := pr
                      rw [et1] at elj
                      simp only [obnd_some] at elj
                      refine ⟨_, hj, ρ2, rj2, rs4, b1, h6, et1, fun M6 H7 b1' x6 r6 eb1 => ?_⟩
                      subst eb1
                      obtain ⟨u6, m6⟩ := M6
                      obtain rfl : u6 = D :: M1.u := x6.same
                      have xj6 : ExtE M1 ⟨M1.u, m6⟩ H1 H7 := xj.trans ((xj2.trans x6).reu M1.u)
                      have hD6 : H7 D = some (.lst ac) := x6.stab _ _ (sm1 _ _ hDj) fun z => (rj.us D inDj).1 z
                      cases b1' with
                      | false =>
                        simp only [Bool.false_eq_true, if_false] at elj
                        exact iteF ⟨m6, h6, ac, dac, rst, xj6, r6, (rsj.mono xj2).mono x6, (rsk.mono xj2).mono x6, hD6, (qj.mono xj2.ext).mono x6.ext, elj, eoj⟩
                      | true =>
                        simp only [if_true] at elj
                        refine iteT ?_
                        cases ef : f ρ2 h6 with
                        | none => rw [ef] at elj; cases elj
                        | some pr =>
                          obtain ⟨w, h7⟩ := pr
                          rw [ef] at elj
                          simp only [obnd_some] at elj
                          refine ⟨_, h6, ρ2, r6, rs4.mono x6, w, h7, ef, fun M7 H8 y x7 r7 ry => ?_⟩
                          obtain ⟨u7, m7⟩ := M7
                          obtain rfl : u7 = D :: M1.u := x7.same
                          have hD7 : H8 D = some (.lst ac) := x7.stab _ _ hD6 fun z => (r6.us D List.mem_cons_self).1 z
                          split at elj
                          · rename_i d'
                            cases er7 : lcL k1 t1 f (wipeE ρ1 vs1) (ds1.drop (j + 1)) h7 with
                            | none => rw [er7] at elj; cases elj
                            | some pr =>
                              obtain ⟨rst', h8⟩ := pr
                              rw [er7] at elj
                              simp only [obnd_some, Option.some.injEq, Prod.mk.injEq] at elj
                              obtain ⟨e7, e8⟩ := elj
                              subst e7 e8
                              have q7 := ((qj.mono xj2.ext).mono x6.ext).mono x7.ext
                              have hlen : ac.length < sizeLine := by
                                have h9 := congrArg List.length eoj
                                rw [List.length_append, List.length_append, List.length_cons] at h9
                                rw [qj.length]; omega
                              have in7 : D ∈ (⟨D :: M1.u, m7⟩ : Mm).u := List.mem_cons_self
                              exact ⟨ac, hD7, hlen, m7, h7, ac ++ [y], dac ++ [d'], rst', (xj6.trans (x7.reu M1.u)).beside nD, r7.off in7, (((rsj.mono xj2).mono x6).mono x7).off in7, (((rsk.mono xj2).mono x6).mono x7).off in7, upd_same, (q7.off in7).app (.cons (RD.off in7 ry) .nil), er7, by rw [List.append_assoc]; exact eoj⟩
                          · cases elj
                  · cases elj
                · refine .inl ?_
                  have hj' : j = ds1.length := by omega
                  subst hj'
                  rw [List.drop_length] at elj
                  cases elj
                  exact ⟨its1, mj, _, ac, dac, rest', xj, rj, rsj, hDj, qj, er, eoj⟩
          · cases el
    · cases el
  · refine .inl ?_
    have hi' : i = ds.length := by omega
    subst hi'
    rw [List.drop_length] at el
    cases el
    rw [List.append_nil] at eo
    subst eo
    refine ⟨its, ?_⟩
    have c3 := c2 M1 H1 (.refl _ _)
    rw [if_pos outlen] at c3
    have nu : D ∉ M1.u := fun z => r1.new nD (.inl z)
    have nm : some D ∉ mi := (ri.us D inD).1
    cases m with
    | false =>
      exact c3.fin xi ri.told (RD.lst (fun z => z.elim nu nm) hD (qa.sub less_has))
    | true =>
      refine c3.fin (M' := ⟨M1.u, mi ++ [some D]⟩) ⟨rfl, xi.trk, xi.stab, fun a z => ?_, Nat.le_trans xi.len (by simp), fun j hj => ?_⟩ (ri.owned nu ⟨acc, hD, qa⟩) ⟨D, ?_, rfl⟩
      · rcases List.mem_append.mp z with z | z
        · exact xi.fresh a z
        · have : a = D := by simpa using z
          rw [this]; exact .inr nD
      · have hl : j < mi.length := Nat.lt_of_lt_of_le hj xi.len
        show (mi ++ [some D])[j]? = _
        rw [List.getElem?_append_left hl]; exact xi.pre j hj
      · show (mi ++ [some D])[h2.length]? = _
        rw [← show mi.length = h2.length from ri.len]; simp
section
variable {X : Cx}
theorem d_lc2 (m : Bool) (i1 : Nat) {elt tg iter tg1 : Expr} {x1 : Str} {px : Pos} {ifs ifs1 : List Expr} {scope : Scope} {own : List (Str × Nat)} {vs1 : List Nat} {pos : Pos} {gi : IM} {ts ts1 : List Nat} {k k1 : TM} {t t1 : BM} {f : EM} (hc : X.calm = true) (hN : X.N.Nodup) (hi : DI X tg iter gi) (ok : BlkOk X.N X.env.scope scope own)
    (hg : ∀ (s : Shared) (H : Hp) (C : Addr) (cl : List (Str × Addr)) (fp : List Addr), DG (X.blk s H scope (compEnvC scope cl C X.env) fp) tg ts k) (ht : ∀ (s : Shared) (H : Hp) (C : Addr) (cl : List (Str × Addr)) (fp : List Addr), DTs (X.blk s H scope (compEnvC scope cl C X.env) fp) ifs t)
    (hv1 : ∀ (s : Shared) (H : Hp) (C : Addr) (cl : List (Str × Addr)) (fp : List Addr), PE (X.blk s H scope (compEnvC scope cl C X.env) fp) (.Name x1 px) (tVar i1))
    (hg1 : ∀ (s : Shared) (H : Hp) (C : Addr) (cl : List (Str × Addr)) (fp : List Addr), DG (X.blk s H scope (compEnvC scope cl C X.env) fp) tg1 ts1 k1) (ht1 : ∀ (s : Shared) (H : Hp) (C : Addr) (cl : List (Str × Addr)) (fp : List Addr), DTs (X.blk s H scope (compEnvC scope cl C X.env) fp) ifs1 t1)
    (he : ∀ (s : Shared) (H : Hp) (C : Addr) (cl : List (Str × Addr)) (fp : List Addr), DE (X.blk s H scope (compEnvC scope cl C X.env) fp) elt f)
    (hsub : ∀ j ∈ ts, j ∈ own.map (·.2)) (hsub1 : ∀ j ∈ ts1, j ∈ vs1) (hi1 : i1 ∉ vs1) (hv : ∀ i ∈ vs1, i ∈ own.map (·.2)) (hs : ∀ x, foldedSetIterable iter X.env x = pure x := by intro _; rfl) (hs1 : ∀ env x, foldedSetIterable (.Name x1 px) env x = pure x := by intro _ _; rfl) :
    DE X (.ListComp elt [⟨tg, iter, ifs, 0⟩, ⟨tg1, .Name x1 px, ifs1, 0⟩] scope pos) (fLc2 m gi k t i1 k1 t1 f (own.map (·.2)) vs1) :=
  (pe_lc2 hc hN hi ok hv hg ht (fun s H C cl fp => (pi_list (hv1 s H C cl fp)).or (pi_tup (hv1 s H C cl fp))) hg1 ht1 he hs hs1).weak (lc2_imp (K := X.K) hsub hsub1 hi1)
end
end DL
set_option maxRecDepth 100000
set_option maxHeartbeats 1000000
namespace DL
open PySem PySem.Spec PyProof.Rows L2
end DL
set_option maxRecDepth 100000
set_option maxHeartbeats 1000000
namespace DL
open PySem PySem.W PySem.Calls PyProof.Rows PyProof.V PySem.Spec
end DL
set_option maxRecDepth 100000
set_option maxHeartbeats 1000000
namespace DL
open PySem PySem.Spec PyProof.Rows L2
end DL
set_option maxRecDepth 100000
set_option maxHeartbeats 1000000
namespace DL
open PySem PySem.Spec PyProof.Rows L2
section
variable {M : Mm} {H : Hp}
theorem tupAt_inj {a : Addr} {xs ys : List V} {ds es : List D} (t : TupAt H a xs ds) (u : TupAt H a ys es) : xs = ys := by
  rcases t with ⟨_, e⟩ | ⟨_, o, _, e⟩ <;> rcases u with ⟨_, e'⟩ | ⟨_, o', _, e'⟩ <;> rw [e] at e' <;> cases e' <;> rfl
mutual
theorem RD.one : ∀ {v : V} {d e : D}, RD M H v d → RD M H v e → d = e
  | _, _, _, .non, r => by cases r; rfl
  | _, _, _, .bl b, r => by cases r; rfl
  | _, _, _, .int b, r => by cases r; rfl
  | _, _, _, .str b, r => by cases r; rfl
  | _, _, _, .tup _ t q, r => by
    cases r with
    | tup _ t' q' =>
      have := tupAt_inj t t'
      subst this
      rw [RDs.one q q']
    | lst _ h _ => rcases t with ⟨_, e⟩ | ⟨_, o, _, e⟩ <;> rw [e] at h <;> cases h
    | dic _ h _ => rcases t with ⟨_, e⟩ | ⟨_, o, _, e⟩ <;> rw [e] at h <;> cases h
    | dit _ h _ => rcases t with ⟨_, e⟩ | ⟨_, o, _, e⟩ <;> rw [e] at h <;> cases h
  | _, _, _, .lst _ h q, r => by
    cases r with
    | tup _ t' _ => rcases t' with ⟨_, e⟩ | ⟨_, o, _, e⟩ <;> rw [e] at h <;> cases h
    | lst _ h' q' => rw [h] at h'; cases h'; rw [RDs.one q q']
    | dic _ h' _ => rw [h] at h'; cases h'
    | dit _ h' _ => rw [h] at h'; cases h'
  | _, _, _, .dic _ h q, r => by
    cases r with
    | tup _ t' _ => rcases t' with ⟨_, e⟩ | ⟨_, o, _, e⟩ <;> rw [e] at h <;> cases h
    | lst _ h' _ => rw [h] at h'; cases h'
    | dic _ h' q' => rw [h] at h'; cases h'; rw [RDk.one q q']
    | dit _ h' _ => rw [h] at h'; cases h'
  | _, _, _, .dit _ h q, r => by
    cases r with
    | tup _ t' _ => rcases t' with ⟨_, e⟩ | ⟨_, o, _, e⟩ <;> rw [e] at h <;> cases h
    | lst _ h' _ => rw [h] at h'; cases h'
    | dic _ h' _ => rw [h] at h'; cases h'
    | dit _ h' q' => rw [h] at h'; cases h'; rw [RDt.one q q']
theorem RDs.one : ∀ {v : List V} {d e : List D}, RDs M H v d → RDs M H v e → d = e
  | _, _, _, .nil, r => by cases r; rfl
  | _, _, _, .cons a t, r => by
    cases r with
    | cons a' t' => rw [RD.one a a', RDs.one t t']
theorem RDk.one : ∀ {v : List (Key × V)} {d e : List (D × D)}, RDk M H v d → RDk M H v e → d = e
  | _, _, _, .nil, r => by cases r; rfl
  | _, _, _, .cons a t, r => by
    cases r with
    | cons a' t' => rw [RD.one a a', RDk.one t t']
theorem RDt.one : ∀ {v : List (List Key × V)} {d e : List (D × D)}, RDt M H v d → RDt M H v e → d = e
  | _, _, _, .nil, r => by cases r; rfl
  | _, _, _, .cons a t, r => by
    cases r with
    | cons a' t' => rw [RD.one a a', RDt.one t t']
end
end
end DL
set_option maxRecDepth 100000
set_option maxHeartbeats 1000000
namespace DL
open PySem PySem.Spec PyProof.Rows L2
end DL
set_option maxRecDepth 100000
set_option maxHeartbeats 1000000
namespace DL
open PySem PySem.Spec PyProof.Rows L2
def tabsO (os : List (Option (Str × Addr × Addr))) : Hh := os.map fun o => o.map fun t => .tab t.1 t.2.2
theorem inj_O : ∀ (os : List (Option (Str × Addr × Addr))), ((os.filterMap id).map (·.2.2)).Nodup → ∀ {i j : Nat} {t1 t2 : Str × Addr × Addr}, os[i]? = some (some t1) → os[j]? = some (some t2) → t1.2.2 = t2.2.2 → i = j
  | [], _, i, j, t1, t2, h1, _, _ => by simp at h1
  | none :: os, nd, i, j, t1, t2, h1, h2, e => by
    cases i with
    | zero => simp at h1
    | succ i => cases j with
      | zero => simp at h2
      | succ j => exact congrArg (· + 1) (inj_O os nd (by simpa using h1) (by simpa using h2) e)
  | some t :: os, nd, i, j, t1, t2, h1, h2, e => by
    have nd' : (t.2.2 :: (os.filterMap id).map (·.2.2)).Nodup := nd
    obtain ⟨n1, n2⟩ := List.nodup_cons.mp nd'
    have inn : ∀ {k : Nat} {u : Str × Addr × Addr}, os[k]? = some (some u) → u.2.2 ∈ (os.filterMap id).map (·.2.2) := fun {k u} hk => List.mem_map.mpr ⟨u, List.mem_filterMap.mpr ⟨some u, List.mem_of_getElem? hk, rfl⟩, rfl⟩
    cases i with
    | zero => cases j with
      | zero => rfl
      | succ j =>
        simp at h1 h2
        subst h1
        exact (n1 (e ▸ inn h2)).elim
    | succ i => cases j with
      | zero =>
        simp at h1 h2
        subst h2
        exact (n1 (e ▸ inn h1)).elim
      | succ j => exact congrArg (· + 1) (inj_O os n2 (by simpa using h1) (by simpa using h2) e)
theorem walk_gO {l : PySem.W.OpenLaw} {k : Nat} {q : Program} {loose : List Str} {XP : (Str → Option Value) → Heap → Prop} {YP : World → Heap → Prop} {d : DefRec} {K : Params → PySem.W.Frag} {x : Str} {xs : List Str}
    (hn : l.most = some 63) (hdf : d.params.defaults = []) (hr : Room k callerA)
    (hY : ∀ (w : World) (h : Heap), YP w h → (K w.params).In h) (hnl : ∀ w : World, noList (K w.params) = true) (hrec : ∀ x ∈ xs, ((recsOf q).find? fun e => e.name == x).isSome = true)
    (F : ∀ (w : World) (mg : Str → Option Value) (fa : Addr) (h : Heap), (K w.params).In h → h.Ns mainGlobals mg → mg d.name = some (.ref fa) →
      ∃ (fd : FuncData) (os : List (Option (Str × Addr × Addr))) (m : FM), (∀ (s : Shared) (u : Value), BindsTo s fd ⟨[u], []⟩ [(x, u)]) ∧ (∀ t ∈ os.filterMap id, (∃ y ∈ xs, PySem.W.tabIn (K w.params) y = some (t.2.1, t.2.2)) ∧ (K w.params).lookup t.2.2 = none) ∧ ((os.filterMap id).map (·.2.2)).Nodup ∧
        (∀ base : Heap, (K w.params).In base → base.Ns mainGlobals mg → (∀ t ∈ os.filterMap id, LamX.TabB base mg t.2.1 t.2.2) → FnG l.prog w (K w.params) mg base CX0 k fa fd [x] (spD m)) ∧
        ∀ ns : List Int, ns.length ≤ 63 → ∃ h', m [.scr ns] (tabsO os) = some (.dat (.bool true), h')) :
    PySem.W.WalkO q loose XP YP l.row.toRowW d [] (fun f vs => PySem.call f vs) := by
  apply Att.attach_call hn hdf
  intro w s₀ s₁ mg mb fa o pm cd doc a vs ns G Y ho hd hcd hmg hobj hints hlen hg
  have KX := hY w _ Y
  obtain ⟨fd, os, m, hb, hts, hnd, hF, hm⟩ := F w mg fa _ KX G.T.g hmg
  generalize hos : os.filterMap id = ts at hts hnd hF
  have hka : (K w.params).lookup a = none := by
    cases e : (K w.params).lookup a with
    | none => rfl
    | some u =>
      exfalso
      have e1 := KX a u e
      rw [hobj] at e1
      cases e1
      have := List.all_eq_true.mp (hnl w) _ (lookup_mem e)
      cases this
  have hT : ∀ p ∈ ts.map (·.2), PySem.W.CodeHd s₁.heap p.1 p.2 ∧ s₁.heap.get? p.2 = some { cls := .none, data := .fields #[] } := by
    intro p hp
    obtain ⟨t, ht, rfl⟩ := List.mem_map.mp hp
    obtain ⟨⟨y, hy, e⟩, _⟩ := hts t ht
    obtain ⟨dr, hdr⟩ := Option.isSome_iff_exists.mp (hrec y hy)
    exact PySem.W.tab_of G.T KX hdr e
  have nT : ∀ p ∈ ts.map (·.2), (K w.params).lookup p.2 = none := by
    intro p hp
    obtain ⟨t, ht, rfl⟩ := List.mem_map.mp hp
    exact (hts t ht).2
  refine law_gT (sp := spD m) (cs := ts.map (·.2)) KX G.T.g G.T.b G.T.builtins G.T.nolimit hg hT nT G.T.bmain hobj hints (Nat.le_trans hlen (by decide)) hr (fun base kb nb TB => hF base kb nb fun t ht => TB t.2 (List.mem_map.mpr ⟨t, ht, rfl⟩)) hb hka ?_
  intro H ha hH hna
  obtain ⟨ob, ha⟩ := ha
  obtain ⟨h', e⟩ := hm ns hlen
  have at_ : ∀ (i : Nat) (b : Addr), (os.map fun o => o.map fun t => t.2.2)[i]? = some (some b) → ∃ t, os[i]? = some (some t) ∧ t.2.2 = b ∧ t ∈ ts := by
    intro i b z
    rw [List.getElem?_map] at z
    cases y : os[i]? with
    | none => rw [y] at z; cases z
    | some o =>
      cases o with
      | none => rw [y] at z; simp at z
      | some t =>
        rw [y] at z; simp at z
        exact ⟨t, rfl, z, by rw [← hos]; exact List.mem_filterMap.mpr ⟨some t, List.mem_of_getElem? y, rfl⟩⟩
  have rep : Rep ⟨[], os.map fun o => o.map fun t => t.2.2⟩ H (tabsO os) := by
    refine ⟨fun a z => (by cases z), by simp [tabsO], fun i j b z1 z2 => ?_, fun i b z => ?_, fun i z => ?_⟩
    · obtain ⟨t1, y1, e1, _⟩ := at_ i b z1
      obtain ⟨t2, y2, e2, _⟩ := at_ j b z2
      exact inj_O os (by rw [hos]; exact hnd) y1 y2 (e1.trans e2.symm)
    · obtain ⟨t, y, rfl, ht⟩ := at_ i b z
      refine ⟨.tab t.1 t.2.2, by simp [tabsO, y], rfl, #[], hH t.2 (List.mem_map.mpr ⟨t, ht, rfl⟩), trivial, fun pos cv hc => ?_⟩
      have z : codeAmong pos [] = some cv := hc
      simp [codeAmong] at z
    · have z' : (os.map fun o => o.map fun t => t.2.2)[i]? = some none := z
      rw [List.getElem?_map] at z'
      cases y : os[i]? with
      | none => rw [y] at z'; cases z'
      | some o =>
        cases o with
        | none => simp [tabsO, y]
        | some t => rw [y] at z'; simp at z'
  have nh : ¬ Mm.Has ⟨[], os.map fun o => o.map fun t => t.2.2⟩ a := fun z => by
    rcases z with z | z
    · cases z
    · obtain ⟨o, ho, e⟩ := List.mem_map.mp (show some a ∈ os.map fun o => o.map fun t => t.2.2 from z)
      cases o with
      | none => cases e
      | some t =>
        apply hna
        rw [List.map_map]
        exact List.mem_map.mpr ⟨t, by rw [← hos]; exact List.mem_filterMap.mpr ⟨some t, ho, rfl⟩, Option.some.inj e⟩
  refine ⟨_, tabsO os, [.scr ns], rep, .cons ⟨a, ob, rfl, nh, ha⟩ .nil, .dat (.bool true), h', e, fun M' H' v _ _ r => ?_⟩
  cases (show RD M' H' v _ from r)
  rfl
section
variable {X : Cx}
def divBW := intW (fun _ j => decide (0 < j ∧ j < 1000000000000000000)) fun i j => i / j
theorem divBW_e (x y : W) (h : Hh) : divBW x y h = intW (fun _ j => decide (0 < j ∧ j < 1000000000000000000)) (fun i j => i / j) x y h := rfl
end
end DL
set_option maxRecDepth 100000
set_option maxHeartbeats 1000000
namespace DL
open PySem PySem.Spec PyProof.Rows L2
end DL
set_option maxRecDepth 100000
set_option maxHeartbeats 1000000
namespace DL
open PySem PySem.Spec PyProof.Rows L2
section
variable {α : Type} {M : Model} {A : Around} {E : Value → Shared → Prop} {s : Shared}
theorem loop1 {f : α → PUnit → Sem (ForInStep PUnit)} {Q : PUnit → Shared → Prop} : ∀ (cs : List α), (∀ c ∈ cs, ∀ Q' : ForInStep PUnit → Shared → Prop, Q' (.yield ⟨⟩) s → wpAny M A (f c ⟨⟩) Q' E s) → Q ⟨⟩ s → wpAny M A (forIn cs PUnit.unit f) Q E s
  | [], _, q => by
    rw [List.forIn_nil]
    exact wpAny_pure q
  | c :: cs, h, q => by
    rw [List.forIn_cons]
    refine wpAny_bind (h c List.mem_cons_self _ ?_)
    exact loop1 cs (fun c' m => h c' (List.mem_cons_of_mem _ m)) q
theorem loop2 {β : Type} {f : α → β → Sem (ForInStep β)} {Q : β → Shared → Prop} {x y : β} : ∀ (cs : List α) (b : Bool), (∃ v : α → Bool, b = cs.any v ∧ ∀ c ∈ cs, ∀ Q' : ForInStep β → Shared → Prop, Q' (if v c = true then .done y else .yield x) s → wpAny M A (f c x) Q' E s) → Q (if b = true then y else x) s → wpAny M A (forIn cs x f) Q E s
  | [], b, ⟨v, e, _⟩, q => by
    rw [List.forIn_nil]
    subst e
    exact wpAny_pure q
  | c :: cs, b, ⟨v, e, h⟩, q => by
    rw [List.forIn_cons]
    refine wpAny_bind (h c List.mem_cons_self _ ?_)
    rw [List.any_cons] at e
    cases hv : v c with
    | true =>
      rw [hv, Bool.true_or] at e
      subst e
      exact wpAny_pure q
    | false =>
      rw [hv, Bool.false_or] at e
      subst e
      exact loop2 cs _ ⟨v, rfl, fun c' m => h c' (List.mem_cons_of_mem _ m)⟩ q
end
section
variable {M : Model} {K : PySem.W.Frag}
theorem exmAny_of {cls : Value} : ∀ {cs : List Value} {b : Bool}, PySem.W.exmAny K cls cs = some b → ∃ v : Value → Bool, b = cs.any v ∧ ∀ c ∈ cs, PySem.W.exmOne K cls c = some (v c)
  | [], b, e => ⟨fun _ => true, by cases e; rfl, fun c m => by cases m⟩
  | c :: cs, b, e => by
    obtain ⟨b1, d1, h1, h2, rfl⟩ := PySem.W.exmAny_cons e
    obtain ⟨v, e2, hv⟩ := exmAny_of h2
    have key : ∀ c' ∈ cs, v c' = (PySem.W.exmOne K cls c').getD false := fun c' m => by rw [hv c' m]; rfl
    refine ⟨fun c' => (PySem.W.exmOne K cls c').getD false, ?_, fun c' m => ?_⟩
    · rw [List.any_cons, h1, e2]
      show (b1 || _) = (b1 || _)
      congr 1
      clear h2 h1 e e2
      induction cs with
      | nil => rfl
      | cons x xs ih =>
        rw [List.any_cons, List.any_cons, key x List.mem_cons_self, ih (fun c' m => hv c' (List.mem_cons_of_mem _ m)) fun c' m => key c' (List.mem_cons_of_mem _ m)]
    · rcases List.mem_cons.mp m with rfl | m
      · show _ = some ((PySem.W.exmOne K cls c').getD false)
        rw [h1]; rfl
      · show _ = some ((PySem.W.exmOne K cls c').getD false)
        rw [hv c' m]; rfl
theorem exm_tup {cs : List Value} {cls : Value} {tp e : Addr} {b : Bool} {h : Heap} {dd : Option Addr} {n : Nat} {sl : Array (Option Value)} (X : K.In h) (LT : PySem.W.Looks M h (typeOf (.ref e)) cls) (hp : h.get? tp = some ⟨.type "tuple", dd, .seq cs.toArray n, sl⟩) (hx : PySem.W.exmAny K cls cs = some b) :
    PySem.W.Looks M h (excMatches (.ref e) (.ref tp)) b := by
  intro A Q E s k₀ q
  obtain ⟨hh, g, d, tk, os⟩ := s
  have k : ∀ b o, h.get? b = some o → hh.get? b = some o := k₀
  have LT0 : PySem.W.Looks M h (isInstance (.ref tp) (.type "tuple")) true := ((PySem.W.Looks.ld hp).andThen .now).andThen (PySem.W.Looks.of_pure isSubtype_tuple_tuple)
  have LT0 := LT0.keeps k
  have LT := LT.keeps k
  have hp' := k _ _ hp
  obtain ⟨v, eb, hv⟩ := exmAny_of hx
  unfold excMatches
  refine wpAny_bind (LT0.at ?_)
  dsimp only
  rw [if_pos rfl]
  first
    | refine wpAny_bind (wpAny_seqItems hp' rfl ?_)
    | refine wpAny_bind (wpAny_bind (wpAny_seqItems hp' rfl (wpAny_pure ?_)))
  dsimp only [Option.getD_some, Option.getD]
  first
    | refine wpAny_bind (loop1 _ (fun c m Q' q' => ?_) ?_)
    | (refine wpAny_pure ?_; refine wpAny_bind (loop1 _ (fun c m Q' q' => ?_) ?_))
    | (refine wpAny_bind (wpAny_pure ?_); refine wpAny_bind (loop1 _ (fun c m Q' q' => ?_) ?_))
  · obtain ⟨e1, _⟩ := PySem.W.exm_cls (M := M) X (hv c m)
    have e1 := e1.keeps k
    refine wpAny_bind (e1.at ?_)
    simp only [Bool.not_true, Bool.false_eq_true, if_false]
    exact wpAny_pure q'
  · refine wpAny_bind (LT.at ?_)
    refine wpAny_bind (loop2 (y := (some true, ())) _ b ⟨v, eb, fun c m Q' q' => ?_⟩ ?_)
    · obtain ⟨_, S1⟩ := PySem.W.exm_cls (M := M) X (hv c m)
      have S1 := S1.keeps k
      refine wpAny_bind (S1.at ?_)
      cases hb : v c with
      | true =>
        rw [hb, if_pos rfl] at q'
        rw [if_pos rfl]
        exact wpAny_pure q'
      | false =>
        rw [hb, if_neg Bool.false_ne_true] at q'
        rw [if_neg Bool.false_ne_true]
        exact wpAny_pure q'
    · cases b with
      | true => rw [if_pos rfl]; exact wpAny_pure q
      | false => rw [if_neg Bool.false_ne_true]; exact wpAny_pure q
end
end DL
set_option maxRecDepth 100000
set_option maxHeartbeats 1000000
namespace DL
open PySem PySem.Spec PyProof.Rows L2
theorem xo_ok {P : Program} {w : World} {H : Hp} {h : Heap} {a C : Addr} {d : Option Addr} {oe : Obj} {vs : Array Value} (e : h.get? a = some oe) (hc : oe.cls = .ref C) (hd : oe.dict = d) (hf : oe.data = .fields vs) : ObjOk P w H h a (XO C d a) :=
  ⟨⟨oe, vs, e, hc, hd, hf⟩, ⟨oe, e⟩, fun _ _ ⟨o, v, q, r⟩ k => ⟨o, v, k o q, r⟩⟩
theorem xo_at {P : Program} {w : World} {H : Hp} {h : Heap} {a C : Addr} {d : Option Addr} (x : HOk P w H h) (e : H a = some (XO C d a)) : ∃ (oe : Obj) (vs : Array Value), h.get? a = some oe ∧ oe.cls = .ref C ∧ oe.dict = d ∧ oe.data = .fields vs := by
  have z : ObjOk P w H h a (XO C d a) := x a _ e
  exact z.1
section
variable {X : Cx} {pins : List (Addr × Obj)} {σ : L2.St} {H : Hp} {s : Shared}
theorem inv_caught {a C : Addr} {d : Option Addr} {oe : Obj} {vs : Array Value} (I : Inv X pins σ H s) (ha : s.heap.get? a = some oe) (hc : oe.cls = .ref C) (hdt : oe.dict = d) (hd : oe.data = .fields vs) (na : H a = none) (n0 : X.s_0.heap.get? a = none)
    (nL : a ≠ X.env.locals) (np : ∀ p ∈ X.pn ++ pins, p.1 ≠ a) : Inv X pins σ (upd H a (XO C d a)) s := by
  have ne0 : ∀ b o, X.s_0.heap.get? b = some o → b ≠ a := fun b o e z => by rw [z, n0] at e; cases e
  refine ⟨I.ok, I.os, I.bare, ⟨I.base.keep, I.base.slot, fun b o e n hx => ?_, I.base.there, fun b xs e => ?_, fun b o u e => ?_, fun b ps e => ?_⟩, I.loc, I.cell, ?_, fun x c e => ?_, fun p hp => ?_, fun b u e => ?_, I.len⟩
  · rw [upd_ne (ne0 b o e)]; exact I.base.free b o e n hx
  · have q := I.base.tups b xs e
    rw [upd_ne (ne_of_none q na)]; exact q
  · have q := I.base.frzs b o u e
    rw [upd_ne (ne_of_none q na)]; exact q
  · obtain ⟨m, q⟩ := I.base.tbls b ps e
    exact ⟨m, by rw [upd_ne (ne_of_none q na)]; exact q⟩
  · rw [upd_ne (Ne.symm nL)]; exact I.free
  · have nc : c ≠ a := fun z => by
      obtain ⟨v, o, ho, hv⟩ := I.cell x c e
      rw [z, ha] at ho; cases ho
      rw [hd] at hv; cases hv
    rw [upd_ne nc]; exact I.freeC x c e
  · obtain ⟨e, n, r⟩ := I.pin p hp
    exact ⟨e, by rw [upd_ne (np p hp)]; exact n, r⟩
  · by_cases hb : b = a
    · subst hb
      rw [upd_same] at e
      cases e
      exact xo_ok ha hc hdt hd
    · rw [upd_ne hb] at e
      exact (I.hok b u e).stay (fun c v _ q => q) (fun c q => by rw [upd_ne (ne_of_none q na)]; exact q) fun c xs q => by rw [upd_ne (ne_of_none q na)]; exact q
theorem inv_suite (I : Inv X pins σ H s) (a : Addr) : Inv (X.suite a (X.pn ++ pins)) [] σ H s :=
  ⟨I.ok.suite _ _, I.os, I.bare, I.base, I.loc, I.cell, I.free, I.freeC, fun p hp => I.pin p (by rw [List.append_nil] at hp; exact hp), I.hok, I.len⟩
theorem inv_unsuite {a : Addr} {pn' : List (Addr × Obj)} (I : Inv (X.suite a (X.pn ++ pins)) pn' σ H s) (ok : X.Ok) : Inv X pins σ H s :=
  ⟨ok, I.os, I.bare, I.base, I.loc, I.cell, I.free, I.freeC, fun p hp => I.pin p (List.mem_append_left _ hp), I.hok, I.len⟩
end
theorem flyZ_keeps {B h h' : Heap} {l : List PySem.Env} {a : Addr} {Z : Obj → Prop} (x : HandSPX.FlyingZ B l a Z h) (k : ∀ b o, h.get? b = some o → h'.get? b = some o) : HandSPX.FlyingZ B l a Z h' := by
  obtain ⟨f1, f2, f3, oe, vs, T, oT, ts, he, hz, hd, h1, hn, hne, hT, hdT, h3⟩ := x
  exact ⟨fun b o q => k b o (f1 b o q), f2, f3.of_keeps fun b o q _ => ⟨o, k b o q, rfl⟩, oe, vs, T, oT, ts, k _ _ he, hz, hd, h1, hn, hne, k _ _ hT, hdT, h3⟩
def ClsTest (X : Cx) (tp : Expr) (cls : Value) (b : Bool) : Prop := ∀ (a : Addr) (pn pins : List (Addr × Obj)) (σ : L2.St) (H : Hp) (s : Shared) (Q : Bool → Shared → Prop) (E : Value → Shared → Prop), Inv (X.suite a pn) pins σ H s → PySem.W.Looks (model X.prog X.w) s.heap (typeOf (.ref a)) cls →
  (∀ h', (∀ q o, s.heap.get? q = some o → h'.get? q = some o) → Q b { s with heap := h' }) → wpAny (model X.prog X.w) (X.A.mark (some (.ref a))) (eval tp X.env) (fun c s₁ => wpAny (model X.prog X.w) (X.A.mark (some (.ref a))) (excMatches (.ref a) c) Q E s₁) E s
def wXc (X : Cx) (tp : Expr) (i : Nat) (ts : TS) (D : Ends) : WX := fun cls d σ H => ∃ C : Addr, cls = .ref C ∧ ClsTest X tp cls true ∧ ∀ a, H a = none → ts { nx := fun σ' H' => D.nx (σ'.set i none) H', rt := D.rt, bk := fun σ' H' => D.bk (σ'.set i none) H', ct := fun σ' H' => D.ct (σ'.set i none) H' } (σ.set i (some (.ref a))) (upd H a (XO C d a))
section
variable {X : Cx} {n : Str} {i : Nat} {body suite : List Stmt} {b₀ : Stmt} {tp : Expr} {pos pos' : Pos} {tb : WX → TS} {ts : TS}
theorem ps_try_xc (hex : X.ex = []) (hs : X.stack = X.env :: X.outer) (hf : X.env.frame = some X.env.locals) (hN : X.N.Nodup) (hi : X.N[i]? = some n) (hln : X.env.kindOf n = some .local)
    (hb : ∀ (W : WX) (pn : List (Addr × Obj)) (xe : Value → Shared → Prop), Takes (X.tr pn xe) W → PassesOwn (model X.prog X.w) X.A X.env xe → PSs (X.tr pn xe) body (tb W))
    (hsu : ∀ (a : Addr) (pn : List (Addr × Obj)), PSs (X.suite a pn) (b₀ :: suite) ts) :
    PS X (.Try body [.ExceptHandler (some tp) (some n) (b₀ :: suite) pos'] [] [] pos) (fun D σ H => tb (wXc X tp i ts D) D σ H) := by
  refine ⟨fun pins s σ H D I h => ?_⟩
  have ok := I.ok
  have hfr : X.A.frames = some (X.env :: X.outer) := by rw [ok.frames, hs]
  have hloc : Loc X.env.scope n := .inl hln
  refine wpAny_Try_except ?_
  refine wpAny_mono ((hb (wXc X tp i ts D) (X.pn ++ pins) (fun e s₁ => wpAny (model X.prog X.w) X.A (noteFrame e X.env) (fun _ s₂ => wpAny (model X.prog X.w) X.A (setFlight e none) (fun _ s₃ =>
    wpAny (model X.prog X.w) X.A (handleBy e X.env [.ExceptHandler (some tp) (some n) (b₀ :: suite) pos']) (SP X pins D) X.xe s₃) X.xe s₂) X.xe s₁) (fun u s' xx => ?_) PassesOwn.looking).run [] s σ H D (I.toTry _) h) (fun f s1 hsp => ?_) (fun e s1 he => he)
  · -- the catch
    obtain ⟨a, B, sI, pins', σ', H', cls, d, rfl, J', nb, up, sky, na, os, ag, C, rfl, htest, hyes⟩ := xx
    have J : Inv X pins σ' H' sI := J'.ofTry ok
    have sky' : Sky B (X.env :: X.outer) a (Zc (.ref C) d) X.env.locals s'.heap := by rw [← hs]; exact sky
    show wpAny (model X.prog X.w) X.A (noteFrame (.ref a) X.env) _ _ _
    refine Sky.land Zc.steady hfr hf sky' fun h3 fl3 up3 => ?_
    have J3 : Inv X pins σ' H' { s' with heap := h3 } := J.landed nb fl3.1 (up.trans up3) os ag
    obtain ⟨oe3, vs3, he3, hz3, hd3⟩ := fl3.there
    have notFr : ∀ {h : Heap} {o : Obj} {vs : Array Value}, h.FunFrames B (X.env :: X.outer) → h.get? a = some o → o.data = .fields vs → a ∉ frs (X.env :: X.outer) := fun {h o vs} ff e dd hm => by
      obtain ⟨_, o', e', hnf⟩ := ff.mem hm
      rw [e] at e'; cases e'
      exact hnf _ dd
    have nfr := notFr fl3.2.2.1 he3 hd3
    have nL : a ≠ X.env.locals := fun z => nfr (List.mem_filterMap.mpr ⟨X.env, List.mem_cons_self, by rw [hf, z]⟩)
    have nB : B.get? a = none := fl3.2.1
    have n0 : X.s_0.heap.get? a = none := by
      cases q : X.s_0.heap.get? a with
      | none => rfl
      | some o =>
        obtain ⟨o', q'⟩ := J.base.there a o q (by rw [hex]; exact fun z => nomatch z)
        have := nb a o' q' (by rw [hs]; exact nfr)
        rw [nB] at this; cases this
    have np : ∀ p ∈ X.pn ++ pins, p.1 ≠ a := fun p hp z => by
      obtain ⟨e, n', _, nf', _⟩ := J.pin p hp
      have := nb p.1 p.2 e (by rw [hs, z]; exact nfr)
      rw [z, nB] at this; cases this
    refine wpAny_handleBy_cons (codeAny_handlers_test ?_) (by intro q; cases q)
    have LT : PySem.W.Looks (model X.prog X.w) h3 (typeOf (.ref a)) (.ref C) := fun A Q E s k q => wpAny_typeOf_ref (k _ _ he3) (by rw [hz3.1]; exact q)
    refine htest a (X.pn ++ pins) [] σ' H' _ _ _ (inv_suite J3 a) LT fun h5 k5 => ?_
    have fl5 := flyZ_keeps fl3 k5
    refine codeAny_handlers_suite_as ?_
    refine HandSPX.lands_againZ fl5 fun h4 fl4 up4 => ?_
    have J4 : Inv X pins σ' H' { s' with heap := h4 } := J.landed nb fl4.1 (((up.trans up3).trans (Heap.UpToSlots.of_keeps k5)).trans up4) os ag
    obtain ⟨oe4, vs4, he4, hz4, hd4⟩ := fl4.there
    have K4 := inv_caught J4 he4 hz4.1 hz4.2 hd4 na n0 nL np
    have S4 := inv_suite K4 a
    refine store_ok (X := X.suite a (X.pn ++ pins)) (v := .ref a) S4 hN hi hloc rfl (fun s5 S5 => ?_) (.inr hln)
    refine wpAny_mono ((hsu a (X.pn ++ pins)).run [] s5 _ _ _ S5 (hyes a na)) (fun f s6 hsp => ?_) (fun _ _ z => False.elim z)
    have end_ : ∀ {σ6 : L2.St} {H6 : Hp} {Q : Shared → Prop}, Inv (X.suite a (X.pn ++ pins)) [] σ6 H6 s6 → (∀ s7, Inv X pins (σ6.set i none) H6 s7 → Q s7) →
        wpAny (model X.prog X.w) X.A (do bindName X.env n .none; unbindBehindTheSuite X.env n pos') (fun _ s7 => Q s7) X.xe s6 := fun {σ6 H6 Q} S6 hq => gone_ok (inv_unsuite S6 ok) hN hi hln hq
    cases f with
    | next =>
      obtain ⟨σ6, H6, S6, q6⟩ := hsp
      exact end_ S6 fun s7 J7 => ⟨_, _, J7, q6⟩
    | brk =>
      obtain ⟨σ6, H6, S6, q6⟩ := hsp
      exact end_ S6 fun s7 J7 => ⟨_, _, J7, q6⟩
    | cont =>
      obtain ⟨σ6, H6, S6, q6⟩ := hsp
      exact end_ S6 fun s7 J7 => ⟨_, _, J7, q6⟩
    | ret u =>
      obtain ⟨v6, σ6, H6, S6, r6, q6⟩ := hsp
      exact end_ S6 fun s7 J7 => ⟨_, _, _, J7, r6, q6⟩
  · cases f with
    | next =>
      obtain ⟨σ', H', J', q⟩ := hsp
      exact wpAny_execs_nil ⟨σ', H', J'.ofTry ok, q⟩
    | brk =>
      obtain ⟨σ', H', J', q⟩ := hsp
      exact ⟨σ', H', J'.ofTry ok, q⟩
    | cont =>
      obtain ⟨σ', H', J', q⟩ := hsp
      exact ⟨σ', H', J'.ofTry ok, q⟩
    | ret u =>
      obtain ⟨v, σ', H', J', r, q⟩ := hsp
      exact ⟨v, σ', H', J'.ofTry ok, r, q⟩
end
end DL
set_option maxRecDepth 100000
set_option maxHeartbeats 400000
namespace DL
open PySem PySem.Spec PyProof.Rows L2
abbrev Xc := Nat × Addr × List (Str × D)
def XR (M : Mm) (H : Hp) (cls : Value) (d : Option Addr) (x : Xc) : Prop := ∃ gs, cls = .ref x.2.1 ∧ XD M H d gs ∧ RF M H gs x.2.2
theorem XR.mono {M M' : Mm} {H H' : Hp} {cls : Value} {d : Option Addr} {x : Xc} (e : Ext M M' H H') : XR M H cls d x → XR M' H' cls d x
  | ⟨gs, q, y, z⟩ => ⟨gs, q, y.to (fun _ _ q n => e.out n q) fun _ _ q _ n => e.st n q, z.to fun _ _ => RD.mono e⟩
def XRr (M : Mm) (H : Hp) (v : Value × Option Addr) (x : Xc) : Prop := XR M H v.1 v.2 x
abbrev RE := Env → Hh → Option (Xc × Hh)
abbrev RM := Env → Hh → Option ((Env × Xc) × Hh)
def tRE (r : RE) (W : WX) : TE := fun σ H _ => ∃ M h ρ, Rep M H h ∧ RS M H ρ σ ∧ Cont XRr (r ρ h) M H (fun v H' => W v.1 v.2 σ H')
def RPost (W : WX) (M0 : Mm) (H0 : Hp) : Option ((Env × Xc) × Hh) → Prop
  | some ((ρ, x), h) => ∀ M H σ cls d, M.u = M0.u → Ext M0 M H0 H → Rep M H h → RS M H ρ σ → XR M H cls d x → W cls d σ H
  | none => False
def tRS (r : RM) (W : WX) : TS := fun _ σ H => ∃ M h ρ, Rep M H h ∧ RS M H ρ σ ∧ RPost W M H (r ρ h)
theorem RPost.mono {W : WX} {M0 M1 : Mm} {H0 H1 : Hp} {r : Option ((Env × Xc) × Hh)} (p : RPost W M0 H0 r) (u : M1.u = M0.u) (x : Ext M0 M1 H0 H1) : RPost W M1 H1 r := by
  match r, p with
  | some ((ρ, y), h), p => exact fun M H σ cls d e z => p M H σ cls d (e.trans u) (x.trans z)
abbrev DRE (X : Cx) (e : Expr) (r : RE) (W : WX) : Prop := PE X e (tRE r W)
abbrev DR (X : Cx) (st : Stmt) (r : RM) (W : WX) : Prop := PS X st (tRS r W)
abbrev DRs (X : Cx) (sts : List Stmt) (r : RM) (W : WX) : Prop := PSs X sts (tRS r W)
section
variable {X : Cx} {W : WX}
theorem pss_no (sts : List Stmt) : PSs X sts (fun _ _ _ => False) := ⟨fun _ _ _ _ _ _ h => h.elim⟩
theorem pss_or {sts : List Stmt} {t u : TS} (h1 : PSs X sts t) (h2 : PSs X sts u) : PSs X sts (fun D σ H => t D σ H ∨ u D σ H) := ⟨fun pins s σ H Q I h => h.elim (h1.run pins s σ H Q I) (h2.run pins s σ H Q I)⟩
theorem dr_fst {st : Stmt} {sts : List Stmt} {r : RM} (h1 : DR X st r W) : DRs X (st :: sts) r W := (pss_cons h1 (pss_no sts)).weak fun D σ H q => q
def rX (r : RE) : RM := fun ρ h => match r ρ h with
  | some (x, h1) => some ((ρ, x), h1)
  | none => none
theorem rx_imp {r : RE} {D : Ends} {σ : L2.St} {H : Hp} {Q : VK} (q : tRS (rX r) W D σ H) : tRE r W σ H Q := by
  obtain ⟨M, h, ρ, rp, rs, p⟩ := q
  refine ⟨M, h, ρ, rp, rs, ?_⟩
  unfold rX at p
  cases e : r ρ h with
  | none => rw [e] at p; exact p.elim
  | some q =>
    obtain ⟨x, h1⟩ := q
    rw [e] at p
    exact ⟨x, h1, rfl, fun M' H' v x' r' xr => p M' H' σ v.1 v.2 x'.same x'.ext r' (rs.mono x') xr⟩
theorem dr_expr {e : Expr} {pos : Pos} {r : RE} (he : DRE X e r W) (hs : swapsWith e none pos.line X.env = pure false := by rfl) : DR X (.Expr e pos) (rX r) W := (ps_expr he hs).weak fun D σ H q => rx_imp q
def rIf (t : BM) (r1 r2 : RM) : RM := fun ρ h => match t ρ h with
  | some (true, h1) => r1 ρ h1
  | some (false, h1) => r2 ρ h1
  | none => none
def rNo : RM := fun _ _ => none
theorem dr_no {sts : List Stmt} : DRs X sts rNo W := (pss_no sts).weak fun D σ H => by
  rintro ⟨M, h, ρ, rp, rs, p⟩
  exact p
theorem dr_if {c : Expr} {a b : List Stmt} {pos : Pos} {t : BM} {r1 r2 : RM} (hc : DT X c t) (ha : DRs X a r1 W) (hb : DRs X b r2 W) : DR X (.If c a b pos) (rIf t r1 r2) W := (ps_if hc ha hb).weak fun D σ H => by
  rintro ⟨M, h, ρ, r, rs, p⟩
  unfold rIf at p
  cases e : t ρ h with
  | none => rw [e] at p; exact p.elim
  | some q =>
    obtain ⟨w, h1⟩ := q
    rw [e] at p
    refine ⟨M, h, ρ, r, rs, w, h1, e, fun M1 H1 v x1 r1 v1 => ?_⟩
    subst v1
    cases v with
    | true => exact iteT ⟨M1, h1, ρ, r1, rs.mono x1, p.mono x1.same x1.ext⟩
    | false => exact iteF ⟨M1, h1, ρ, r1, rs.mono x1, p.mono x1.same x1.ext⟩
end
end DL
set_option maxRecDepth 100000
set_option maxHeartbeats 400000
namespace DL
open PySem PySem.Spec PyProof.Rows L2
abbrev FR := List W → Hh → Option (Xc × Hh)
def fnR (n N : Nat) (r : RM) : FR := fun ws h => if ws.length = n then match r (ws.map some ++ List.replicate (N - n) none) h with
    | some ((_, x), h') => if live (h'.take h.length) = live h then some (x, h'.take h.length) else none
    | none => none
  else none
def spR (r : FR) : Sp := fun vs H _ E => ∃ M h ws, Rep M H h ∧ RVs M H vs ws ∧ Cont XRr (r ws h) M H (fun v H' => E v.1 v.2 H')
theorem XR.sub {M M' : Mm} {H : Hp} {cls : Value} {d : Option Addr} {x : Xc} (s : ∀ b, M'.Has b → M.Has b) : XR M H cls d x → XR M' H cls d x
  | ⟨gs, q, y, z⟩ => ⟨gs, q, y.to (fun b _ _ n m => n (s b m)) (fun _ _ q _ _ => q), z.to fun _ _ => RD.sub s⟩
section
variable {P : Program} {w : World} {K : PySem.W.Frag} {mg : Str → Option Value} {base : Heap}
theorem fn_gX {x qual : Str} {st : Stmt} {f : Addr} {fd : FuncData} {N ps : List Str} {k : Nat} {sp : Sp} (F : Fun K x qual st f fd) (S : FnScope N ps (defScope st)) (len : ∀ vs H Q E, sp vs H Q E → vs.length = ps.length)
    (hb : ∀ (cdv : Value) (A : Around) (outer : List PySem.Env) (s : Shared) (H : Hp) (vs : List V) (Q : VK) (E : XK), RG k (A.deeper (envOfC qual (defScope st) s.heap.objs.size f cdv)) → sp vs H Q E →
      ∃ t, PSs (cxOf (L2.CX P w) P w K mg base N qual (defScope st) f cdv A outer s H E) (defBody st) t ∧ t { nx := fun _ H' => Q .non H', rt := Q } (L2.start N vs) H) : FnG P w K mg base (L2.CX P w) (k + 1) f fd ps sp := by
  obtain ⟨oc, od, kV, doc, pm, an, cdv, ct, osl, rfl, lk, hcd⟩ := F.ex
  constructor
  · exact len
  intro A outer s H args us vs Q E rg e0 bd vl q
  have kin : K.In s.heap := e0.mod.kin.keeps fun b o e => (e0.bs b o e).1
  have nl : s.heap.NoLimit := e0.mod.nolimit.keeps fun b o e => (e0.bs b o e).1
  have kinds : ∀ y ∈ ps.zip us, (defScope st).names.lookup y.1 = some .local ∨ ((defScope st).names.lookup y.1 = some .cell ∧ ((PySem.cellsFrom (s.heap.objs.size + 1) (defScope st).names []).lookup y.1).isSome = true) := by
    intro y hy
    have hp : y.1 ∈ ps := (List.of_mem_zip (show (y.1, y.2) ∈ ps.zip us from hy)).1
    rcases S.par y.1 hp with h | h
    · left; exact h
    · right; exact ⟨h, PySem.W.cellsFrom_some _ _ _ (.inl h)⟩
  apply codeAny_call_function rg.room.depth (kin _ _ lk) rfl S.co S.gen rfl (PySem.W.codeRec_of kin hcd)
  apply bd
  apply wpAny_newFunctionEnv_cells S.kind kinds
  intro env he s1 hx
  subst he
  constructor
  · exact nl.keeps hx.toInCall.keep
  apply codeAny_func
  obtain ⟨t, ht, hq⟩ := hb cdv A outer s H vs Q E ⟨rg.room.deeper _, rg.gd⟩ q
  have I0 := inv_start (CX := L2.CX P w) (E := E) S rg.room.hd e0 (len _ _ _ _ q) vl hx
  apply wpAny_mono (ht.run [] s1 _ H _ I0 hq)
  · intro fl s' hs
    cases fl
    case ret u => obtain ⟨v, σ', H', J, rv, q'⟩ := hs; exact ⟨v, H', J.os, J.bare, J.base, J.hok, rv, q'⟩
    case next => obtain ⟨σ', H', J, q'⟩ := hs; exact ⟨.non, H', J.os, J.bare, J.base, J.hok, rfl, q'⟩
    case brk => obtain ⟨_, _, _, q'⟩ := hs; exact q'.elim
    case cont => obtain ⟨_, _, _, q'⟩ := hs; exact q'.elim
  · intro e s' hs; exact hs
theorem fng_okR {x qual : Str} {st : Stmt} {f : Addr} {fd : FuncData} {N ps : List Str} {k : Nat} {r : RM} (F : Fun K x qual st f fd) (S : FnScope N ps (defScope st))
    (hb : ∀ (cdv : Value) (A : Around) (outer : List PySem.Env) (s : Shared) (H : Hp) (E : XK), RG k (A.deeper (envOfC qual (defScope st) s.heap.objs.size f cdv)) → DRs (cxOf (L2.CX P w) P w K mg base N qual (defScope st) f cdv A outer s H E) (defBody st) r (fun cls d _ H => E cls d H)) :
    FnG P w K mg base (L2.CX P w) (k + 1) f fd ps (spR (fnR ps.length N.length r)) := by
  refine fn_gX F S (fun vs H Q E q => ?_) (fun cdv A outer s H vs Q E hr q => ?_)
  · obtain ⟨M, h, ws, rep, rv, c⟩ := q
    unfold fnR at c
    split at c
    · rename_i hl
      rw [rv.length]; exact hl
    · exact c.no.elim
  · obtain ⟨M, h, ws, rep, rv, c⟩ := q
    unfold fnR at c
    split at c
    · rename_i hl
      refine ⟨_, hb cdv A outer s H E hr, M, h, ws.map some ++ List.replicate (N.length - ps.length) none, rep, ?_, ?_⟩
      · have e : L2.start N vs = vs.map some ++ List.replicate (N.length - ps.length) none := by unfold L2.start; rw [rv.length, hl]
        rw [e]
        exact rs_start rv _
      · cases eb : r (ws.map some ++ List.replicate (N.length - ps.length) none) h with
        | none => rw [eb] at c; exact c.no.elim
        | some pr =>
          obtain ⟨⟨ρ, x⟩, h'⟩ := pr
          rw [eb] at c
          dsimp only at c
          split at c
          · rename_i e
            exact fun M1 H1 σ cls d u x1 r1 rs1 xr => c.fin (v := (cls, d)) (leave_ext x1) (leave_rep x1 u rep r1 e) (show XR M H1 cls d x from xr.sub (leave_has x1 u rep r1 e))
          · exact c.no.elim
    · exact c.no.elim
structure GR (P : Program) (w : World) (K : PySem.W.Frag) (mg : Str → Option Value) (base : Heap) (k : Nat) (x : Str) (st : Stmt) (ps : List Str) (r : FR) : Prop where
  ex : ∃ (f : Addr) (fd : FuncData), Fun K x x st f fd ∧ mg x = some (.ref f) ∧ FnG P w K mg base (L2.CX P w) k f fd ps (spR r)
theorem gr_ok {x : Str} {st : Stmt} {f : Addr} {fd : FuncData} {N ps : List Str} {k : Nat} {r : RM} (F : Fun K x x st f fd) (hm : mg x = some (.ref f)) (S : FnScope N ps (defScope st))
    (hb : ∀ (cdv : Value) (A : Around) (outer : List PySem.Env) (s : Shared) (H : Hp) (E : XK), RG k (A.deeper (envOfC x (defScope st) s.heap.objs.size f cdv)) → DRs (cxOf (L2.CX P w) P w K mg base N x (defScope st) f cdv A outer s H E) (defBody st) r (fun cls d _ H => E cls d H)) :
    GR P w K mg base (k + 1) x st ps (fnR ps.length N.length r) := ⟨f, fd, F, hm, fng_okR F S hb⟩
end
section
variable {X : Cx} {W : WX} {k : Nat} {C : Addr} {m x qual : Str} {st : Stmt} {ps : List Str} {r : FR} {re : RE} {o e : Expr} {es : List Expr} {apos p pos : Pos} {go : EM} {ga : AM} {pl : Sem Bool}
theorem of_gR {pins : List (Addr × Obj)} {σ : L2.St} {H : Hp} {s : Shared} {Q : Value → Shared → Prop} {us : List Value} {vs : List V} {f : Addr} {fd : FuncData} {ps : List Str} (F : FnG X.prog X.w X.K X.mg X.base (L2.CX X.prog X.w) k f fd ps (spR r)) (hr : RG k X.A) (tk : Takes X W)
    (hb : Binds X.K fd ps []) (I : Inv X pins σ H s) (rv : Vals vs us) (h : spR r vs H (fun _ _ => False) (WE W σ)) : wpAny (model X.prog X.w) X.A (call (.ref f) us) Q X.xe s := by
  have hl : us.length = ps.length := by rw [← rv.length]; exact F.len _ _ _ _ h
  apply wpAny_call
  have bd := hb s us I.kIn (by simpa using hl)
  rw [List.append_nil] at bd
  apply codeAny_mono (F.run X.A X.stack s H ⟨us, []⟩ us vs _ _ hr I.env0 bd rv h)
  intro r s' hq
  cases r with
  | error e => exact passAt tk σ pins H s e s' I hq
  | ok fl =>
    cases fl with
    | ret u => obtain ⟨_, _, _, _, z⟩ := I.after hq; exact z.elim
    | next => exact hq.elim
    | brk => exact hq.elim
    | cont => exact hq.elim
def rA (r : FR) (g : AM) : RE := fun ρ h => match g ρ h with
  | some (ws, h1) => r ws h1
  | none => none
theorem ra_pre {σ : L2.St} {H : Hp} {Q : VK} {re : RE} {k : List DL.W → Hh → Option (Xc × Hh)} {g : AM} {R : List V → Hp → Prop} (he : re = fun ρ h => match g ρ h with | some (ws, h1) => k ws h1 | none => none)
    (hR : ∀ M H h vs ws, Rep M H h → RVs M H vs ws → Cont XRr (k ws h) M H (fun v H' => W v.1 v.2 σ H') → R vs H) (q : tRE re W σ H Q) : tA g σ H R := by
  obtain ⟨M, h, ρ, rp, rs, c⟩ := q
  subst he
  dsimp only at c
  cases eg : g ρ h with
  | none => rw [eg] at c; exact c.no.elim
  | some z =>
    obtain ⟨ws, h1⟩ := z
    rw [eg] at c
    obtain ⟨xx, h2, e2, q2⟩ := c
    exact ⟨M, h, ρ, rp, rs, ws, h1, eg, fun M1 H1 vs x1 r1 v1 => hR M1 H1 h1 vs ws r1 v1 ⟨xx, h2, e2, fun M' H' v y => q2 M' H' v (x1.trans y)⟩⟩
theorem dre_call (G : GR X.prog X.w X.K X.mg X.base k x st ps r) (hr : RG k X.A) (tk : Takes X W) (ha : DA X (e :: es) ga)
    (hbd : ∀ (kV doc pm : Value) (an : Option Addr) (cdv ct : Value) (us : List Value), us.length = ps.length → bindArgs (PySem.W.fnOf x x (defArgs st) (defBody st) (defScope st) .none kV doc pm an cdv ct) ⟨us, []⟩ = pure (ps.zip us))
    (hg : Gl X x := by rfl)
    (hdb : (x == ("__debug__" : Str)) = false := by decide) (he : starEach (e :: es) X.env = (false, eval e X.env) :: starEach es X.env := by rfl) (hpl : (backTo pos (starEach es X.env)).any (·.1) = false := by rfl) : DRE X (.Call (.Name x p) (e :: es) [] pos) (rA r ga) W := by
  obtain ⟨f, fd, F, hm, G⟩ := G.ex
  refine ⟨fun pins s σ H Q I q => ?_⟩
  apply wpAny_Call_Name_kw
  apply ld_glob I hg hm _ hdb
  apply PySem.W.callWith_K (h₀ := X.base) I.ok.mod.kin F.kp _ he hpl
  refine thn (ha.run pos pins s σ H (fun vs H1 => spR r vs H1 (fun _ _ => False) (WE W σ)) I (ra_pre (k := r) rfl (fun M H h vs ws rp rv c => ⟨M, h, ws, rp, rv, c⟩) q)) fun us s1 ⟨vs, H1, I1, rv, q⟩ => ⟨I1.kIn, ?_⟩
  exact of_gR G hr tk (F.binds (ps := ps) hbd) I1 rv q
end
end DL
set_option maxRecDepth 100000
set_option maxHeartbeats 400000
namespace DL
open PySem PySem.Spec PyProof.Rows L2
def okL (ks : List (Nat × Addr)) (k : Nat) (C : Addr) : Bool := decide ((k, C) ∈ ks)
theorem okL_of {ks : List (Nat × Addr)} {P : Addr → Prop} (h : ∀ kC ∈ ks, P kC.2) (k : Nat) (C : Addr) (e : okL ks k C = true) : P C := h (k, C) (of_decide_eq_true e)
theorem all_nil {α : Type} {P : α → Prop} : ∀ x ∈ ([] : List α), P x := fun _ m => nomatch m
theorem all_cons {α : Type} {P : α → Prop} {a : α} {l : List α} (h : P a) (t : ∀ x ∈ l, P x) : ∀ x ∈ a :: l, P x := fun x m => by
  rcases List.mem_cons.mp m with rfl | m
  · exact h
  · exact t x m
def sTry (f : SM) (r : RM) (ok : Nat → Addr → Bool) (i : Nat) (g : SM) : SM := fun ρ h => match r ρ h with
  | some ((ρ1, k, C, fs), h1) => if ok k C = true then match g (ρ1.set i (some (.exc k C fs))) h1 with
      | some (.nx ρ2, h2) => some (.nx (ρ2.set i none), h2)
      | _ => none
    else none
  | none => f ρ h
theorem rs_unset {M : Mm} {H : Hp} {ρ : Env} {σ : L2.St} {i : Nat} (rs : RS M H ρ σ) : RS M H (ρ.set i none) (σ.set i none) := by
  refine ⟨by simp [rs.1], fun j w q => ?_⟩
  by_cases hj : i = j
  · subst hj
    by_cases hl : i < ρ.length
    · rw [List.getElem?_set_self hl] at q; cases q
    · rw [List.getElem?_eq_none (by simp; omega)] at q; cases q
  · rw [List.getElem?_set_ne hj] at q ⊢
    exact rs.2 j w q
section
variable {X : Cx} {n : Str} {i : Nat} {body suite : List Stmt} {b₀ : Stmt} {tp : Expr} {pos pos' : Pos} {f g : SM} {r : RM} {ok : Nat → Addr → Bool}
theorem try_imp (hok : ∀ k C, ok k C = true → ClsTest X tp (.ref C) true) : ∀ D σ H, tS (sTry f r ok i g) D σ H → (tS f D σ H ∨ tRS r (wXc X tp i (tS g) D) D σ H) := fun D σ H => by
  rintro ⟨M, h, ρ, rep, rs, p⟩
  unfold sTry at p
  cases er : r ρ h with
  | none =>
    rw [er] at p
    exact .inl ⟨M, h, ρ, rep, rs, p⟩
  | some z =>
    refine .inr ⟨M, h, ρ, rep, rs, ?_⟩
    rw [er]
    have er' := er
    · obtain ⟨⟨ρ1, k, C, fs⟩, h1⟩ := z
      rw [er] at p
      dsimp only at p
      split at p
      · rename_i hk
        intro M1 H1 σ1 cls d u1 x1 r1 rs1 xr
        obtain ⟨gs, ec, xd, rf⟩ := xr
        dsimp only at ec xd rf
        subst ec
        refine ⟨C, rfl, hok k C hk, fun a na => ?_⟩
        have hN : H1 a = none := na
        have nM : ¬ M1.Has a := r1.new na
        have x2 := ext_new (M := M1) (o := XO C d a) na
        have r2 := r1.upd_new (o := XO C d a) na
        have rx : RX M1 (upd H1 a (XO C d a)) a C d gs fs := by
          refine ⟨nM, upd_same, ?_, rf.to fun _ _ => RD.mono x2.ext⟩
          refine xd.to (fun _ _ _ n => n) fun b o e _ n => ?_
          rw [upd_ne (ne_of_none e na)]; exact e
        have rs2 : RS M1 (upd H1 a (XO C d a)) (ρ1.set i (some (.exc k C fs))) (σ1.set i (some (.ref a))) := (rs1.mono x2).set (w := .exc k C fs) ⟨a, d, gs, rfl, rx⟩
        refine ⟨M1, h1, _, r2, rs2, ?_⟩
        cases eg : g (ρ1.set i (some (.exc k C fs))) h1 with
        | none => rw [eg] at p; exact p.elim
        | some z =>
          obtain ⟨o, h2⟩ := z
          rw [eg] at p
          cases o with
          | nx ρ2 => exact fun M3 H3 σ3 u3 x3 r3 rs3 => p M3 H3 _ (u3.trans u1) ((x1.trans x2.ext).trans x3) r3 (rs_unset rs3)
          | rt w => exact p.elim
          | bk ρ2 => exact p.elim
          | ct ρ2 => exact p.elim
      · exact p.elim
theorem ds_try (hex : X.ex = []) (hs : X.stack = X.env :: X.outer) (hf : X.env.frame = some X.env.locals) (hN : X.N.Nodup) (hi : X.N[i]? = some n) (hln : X.env.kindOf n = some .local)
    (hok : ∀ k C, ok k C = true → ClsTest X tp (.ref C) true)
    (hb : ∀ (pn : List (Addr × Obj)) (xe : Value → Shared → Prop), PassesOwn (model X.prog X.w) X.A X.env xe → DSs (X.tr pn xe) body f)
    (hr : ∀ (W : WX) (pn : List (Addr × Obj)) (xe : Value → Shared → Prop), Takes (X.tr pn xe) W → PassesOwn (model X.prog X.w) X.A X.env xe → DRs (X.tr pn xe) body r W)
    (hsu : ∀ (a : Addr) (pn : List (Addr × Obj)), DSs (X.suite a pn) (b₀ :: suite) g) :
    DS X (.Try body [.ExceptHandler (some tp) (some n) (b₀ :: suite) pos'] [] [] pos) (sTry f r ok i g) :=
  (ps_try_xc (tb := fun W D σ H => tS f D σ H ∨ tRS r W D σ H) hex hs hf hN hi hln (fun W pn xe tk pa => pss_or (hb pn xe pa) (hr W pn xe tk pa)) hsu).weak (try_imp hok)
end
end DL
set_option maxRecDepth 100000
set_option maxHeartbeats 400000
namespace DL
open PySem PySem.Spec PyProof.Rows L2
inductive ClsNames (X : Cx) : List Expr → List Value → Prop
  | nil : ClsNames X [] []
  | cons {x : Str} {np : Pos} {C : Addr} {es : List Expr} {cs : List Value} : X.mg x = some (.ref C) → ClsNames X es cs → (hg : Gl X x := by rfl) → (hd : (x == ("__debug__" : Str)) = false := by decide) →
      (hs : starEach (.Name x np :: es) X.env = (false, eval (.Name x np) X.env) :: starEach es X.env := by rfl) → ClsNames X (.Name x np :: es) (.ref C :: cs)
section
variable {X : Cx} {a : Addr} {pn pins : List (Addr × Obj)} {σ : L2.St} {H : Hp} {s : Shared} {E : Value → Shared → Prop}
theorem names_run {pos : Pos} (I : Inv (X.suite a pn) pins σ H s) : ∀ {es : List Expr} {cs : List Value} {Q : List Value → Shared → Prop}, ClsNames X es cs → Q cs s → wpAny (model X.prog X.w) (X.A.mark (some (.ref a))) (spliced (backTo pos (starEach es X.env))) Q E s
  | _, _, _, .nil, q => wpAny_items_nil q
  | _, _, _, .cons hm t hg hd hs, q => wpAny_items_cons (ld_glob (X := X.suite a pn) I hg hm (names_run I t q) hd) hs
theorem cls_tuple {es : List Expr} {k : Nat} {tpos : Pos} {cs : List Value} {Ce : Addr} {b : Bool} (hn : ClsNames X es cs) (hz : cs.length ≤ 100) (he : PySem.W.exmAny X.K (.ref Ce) cs = some b) : ClsTest X (.Tuple es k tpos) (.ref Ce) b :=
  fun a pn pins σ H s Q E I LT q => by
    refine wpAny_Tuple (names_run I hn ⟨by rw [sizeLine_eq]; omega, ?_⟩)
    have kp : ∀ q o, s.heap.get? q = some o → (s.heap.push { cls := .type "tuple", data := .seq cs.toArray }).get? q = some o := fun _ _ z => Heap.get?_push_of_some _ z
    exact (exm_tup ((I.kIn).keeps kp) (LT.keeps kp) (Heap.get?_push_size s.heap rfl) he).here (q _ kp)
structure EC (K : PySem.W.Frag) (C : Addr) : Prop where
  hg : PySem.W.findIn K (.ref C) "__getattribute__" = some (some (.builtin "BaseException.__getattribute__"))
  hk : PySem.W.findIn K (.ref C) "__getattr__" = some none
  hs : PySem.W.subIn K (.ref C) (.type "BaseException") = some true
  hd : PySem.W.hasDictIn K C = true
  ha : PySem.W.findIn K (.ref C) "__class__" = some (some (.builtin "object.__class__"))
  hn : PySem.W.specialIn K (.builtin "object.__class__") "__get__" = some (some (.builtin "getset_descriptor.__get__"))
  ht : PySem.W.takesIn K (.builtin "object.__class__") = some true
  hm : PySem.W.mroIn K C (.type "object") = some true
theorem EC.cl {K : PySem.W.Frag} {C : Addr} (e : EC K C) : (PySem.W.clsIn K C).isSome = true := by
  obtain ⟨cd, hc, _⟩ := PySem.W.any_some e.hd
  rw [hc]; rfl
def dOk (H : Hp) (d : Option Addr) : Prop := ∀ dd, d = some dd → ∃ gs, H dd = some (.xd gs)
theorem XD.dOk {M : Mm} {H : Hp} : ∀ {d : Option Addr} {gs : List (Str × V)}, XD M H d gs → dOk H d
  | none, _, _ => fun _ z => nomatch z
  | some _, _, e => fun _ z => by cases z; exact ⟨_, e.2⟩
theorem inst_xo {C : Addr} {d : Option Addr} (I : Inv X pins σ H s) (e : H a = some (XO C d a)) (hd : dOk H d) : ∃ oe od, PySem.W.InstAt s.heap a oe C od := by
  obtain ⟨oe, vs, h1, hc, hdt, hf⟩ := xo_at I.hok e
  have hno : PySem.W.notCls oe = true := by unfold PySem.W.notCls; rw [hf] <;> rfl
  cases d with
  | none => exact ⟨oe, none, h1, hc, hno, by rw [hdt]; trivial⟩
  | some dd =>
    obtain ⟨gs, hx⟩ := hd dd rfl
    obtain ⟨mA, hns, _⟩ := (show ObjOk X.prog X.w H s.heap dd (.xd gs) from I.hok dd _ hx)
    obtain ⟨od, ho, _⟩ := lookIn_ns hns
    exact ⟨oe, some od, h1, hc, hno, by rw [hdt]; exact ho⟩
def rIsX (K : PySem.W.Frag) : List V → Hp → VK → Prop := fun xs H Q => ∃ (a C : Addr) (d : Option Addr) (c : V) (u : Value) (b : Bool), xs = [.ref a, c] ∧ H a = some (XO C d a) ∧ dOk H d ∧ EC K C ∧ ClsV c u ∧ PySem.W.kitOne K (.ref C) u = some b ∧ Q (.bl b) H
def rIsXT (K : PySem.W.Frag) : List V → Hp → VK → Prop := fun xs H Q => ∃ (a C : Addr) (d : Option Addr) (tp : Addr) (cs : List V) (us : List Value) (b : Bool), xs = [.ref a, .ref tp] ∧ H a = some (XO C d a) ∧ dOk H d ∧ EC K C ∧ H tp = some (.tup cs) ∧ Paired ClsV cs us ∧ PySem.W.kitAny K (.ref C) us = some b ∧ Q (.bl b) H
theorem call_isX : CallR X (.builtin "isinstance") (rIsX X.K) := by
  intro pins s σ H xs us Q I r h
  obtain ⟨a, C, d, c, u, b, rfl, hx, hd, ec, k, e, q⟩ := h
  obtain ⟨u1, u2, rfl, r1, r2⟩ := vals2 r
  have e2 := k.eq r2
  subst e2
  cases (show u1 = Value.ref a from r1)
  obtain ⟨oe, od, J⟩ := inst_xo I hx hd
  exact PySem.W.kia_one (PySem.W.kitx_exc ec.cl ec.hg ec.hk ec.hs ec.ha ec.hn ec.ht ec.hm) I.kIn J e (fun z => nomatch z) fun tk => ⟨.bl b, H, I.tok tk, rfl, q⟩
theorem call_isXT : CallR X (.builtin "isinstance") (rIsXT X.K) := by
  intro pins s σ H xs us Q I r h
  obtain ⟨a, C, d, tp, cs, ws, b, rfl, hx, hd, ec, hT, k, e, q⟩ := h
  obtain ⟨u1, u2, rfl, r1, r2⟩ := vals2 r
  cases (show u2 = Value.ref tp from r2)
  cases (show u1 = Value.ref a from r1)
  obtain ⟨oe, od, J⟩ := inst_xo I hx hd
  obtain ⟨_, its, rv, o, h1, h2, n, h3⟩ := (show ObjOk X.prog X.w H s.heap tp (.tup cs) from I.hok tp _ hT)
  have e3 := ClsV.all k rv
  subst e3
  obtain ⟨oc, od', dt, sl⟩ := o
  simp only at h2 h3
  subst h2 h3
  exact PySem.W.kia_tup (PySem.W.kitx_exc ec.cl ec.hg ec.hk ec.hs ec.ha ec.hn ec.ht ec.hm) I.kIn J h1 e (fun z => nomatch z) fun tk => ⟨.bl b, H, I.tok tk, rfl, q⟩
end
def isE (ks : List (Nat × Addr)) (ys : List Nat) (w : W) (h : Hh) : Option (W × Hh) := match w with
  | .exc k C _ => if (k, C) ∈ ks then bok (decide (k ∈ ys)) h else none
  | _ => none
section
variable {X : Cx} {e : Expr} {f : EM} {p pt pos : Pos} {ks : List (Nat × Addr)} {ys : List Nat}
theorem isE_pre {σ : L2.St} {H : Hp} {Q : VK} {M1 : Mm} {H1 : Hp} {h1 : Hh} {v : V} {w : W} (r1 : Rep M1 H1 h1) (v1 : RV M1 H1 v w) (c2 : Cont RV (isE ks ys w h1) M1 H1 Q) : ∃ a k C d, v = .ref a ∧ ¬ M1.Has a ∧ H1 a = some (XO C d a) ∧ dOk H1 d ∧ (∀ dd, d = some dd → ¬ M1.Has dd) ∧ (k, C) ∈ ks ∧ Cont RV (bok (decide (k ∈ ys)) h1) M1 H1 Q := by
  unfold isE at c2
  split at c2
  · rename_i k C fs
    obtain ⟨a, d, gs, rfl, n, q, xd, rf⟩ := v1
    split at c2
    · rename_i hk
      refine ⟨a, k, C, d, rfl, n, q, xd.dOk, fun dd z => ?_, hk, c2⟩
      subst z
      exact xd.1
    · exact c2.no.elim
  · exact c2.no.elim
theorem d_isE {t : Str} {D : Addr} (hm : X.mg "isinstance" = none) (hmt : X.mg t = some (.ref D)) (hks : ∀ kC ∈ ks, EC X.K kC.2 ∧ PySem.W.kitOne X.K (.ref kC.2) (.ref D) = some (decide (kC.1 ∈ ys))) (he : DE X e f)
    (hg : Gl X "isinstance" := by rfl) (hgt : Gl X t := by rfl) (hdt : (t == ("__debug__" : Str)) = false := by decide)
    (h1 : starEach [e, .Name t pt] X.env = (false, eval e X.env) :: starEach [.Name t pt] X.env := by rfl) (h2 : starEach [.Name t pt] X.env = (false, eval (.Name t pt) X.env) :: starEach [] X.env := by rfl)
    (hpl : (backTo pos (starEach [.Name t pt] X.env)).any (·.1) = false := by rfl) : DE X (.Call (.Name "isinstance" p) [e, .Name t pt] [] pos) (f1 (isE ks ys) f) :=
  (pe_callB call_isX hg hm boot_isinstance (pa_cons he (pa_cons (pe_glob (v := .ref D) hgt hmt rfl hdt) pa_nil h2) h1) (by decide) (by decide) h1 hpl).weak fun σ H Q => by
    rintro ⟨M, h, ρ, r, rs, c⟩
    obtain ⟨w, h1, e1, c1⟩ := Cont.bind (δ := Unit) c
    refine ⟨M, h, ρ, r, rs, w, h1, e1, fun M1 H1 v x1 r1 v1 => ?_⟩
    obtain ⟨a, k, C, d, rfl, n, q, dk, _, hk, c3⟩ := isE_pre (σ := σ) (H := H) r1 v1 (c1 M1 H1 x1)
    exact ⟨a, C, d, .ref D, .ref D, _, rfl, q, dk, (hks _ hk).1, .own D, (hks _ hk).2, c3.here r1 (.bl _)⟩
theorem d_isEB {t : Str} {T : String} (hm : X.mg "isinstance" = none) (hmt : X.mg t = none) (hv : bootBuiltins t = some (.type T)) (hks : ∀ kC ∈ ks, EC X.K kC.2 ∧ PySem.W.kitOne X.K (.ref kC.2) (.type T) = some (decide (kC.1 ∈ ys))) (he : DE X e f)
    (hg : Gl X "isinstance" := by rfl) (hgt : Gl X t := by rfl) (hnt : t ≠ "__name__" := by decide) (hdt : (t == ("__debug__" : Str)) = false := by decide)
    (h1 : starEach [e, .Name t pt] X.env = (false, eval e X.env) :: starEach [.Name t pt] X.env := by rfl) (h2 : starEach [.Name t pt] X.env = (false, eval (.Name t pt) X.env) :: starEach [] X.env := by rfl)
    (hpl : (backTo pos (starEach [.Name t pt] X.env)).any (·.1) = false := by rfl) : DE X (.Call (.Name "isinstance" p) [e, .Name t pt] [] pos) (f1 (isE ks ys) f) :=
  (pe_callB call_isX hg hm boot_isinstance (pa_cons he (pa_cons (pe_bltn (v := .ty T) hgt hmt hv rfl hnt hdt) pa_nil h2) h1) (by decide) (by decide) h1 hpl).weak fun σ H Q => by
    rintro ⟨M, h, ρ, r, rs, c⟩
    obtain ⟨w, h1, e1, c1⟩ := Cont.bind (δ := Unit) c
    refine ⟨M, h, ρ, r, rs, w, h1, e1, fun M1 H1 v x1 r1 v1 => ?_⟩
    obtain ⟨a, k, C, d, rfl, n, q, dk, _, hk, c3⟩ := isE_pre (σ := σ) (H := H) r1 v1 (c1 M1 H1 x1)
    exact ⟨a, C, d, .ty T, .type T, _, rfl, q, dk, (hks _ hk).1, .ty T, (hks _ hk).2, c3.here r1 (.bl _)⟩
def tClsV (cs : List V) : TA := fun σ H Q => Q cs H
inductive ClsPA (X : Cx) : List Expr → List V → List Value → Prop
  | nil : ClsPA X [] [] []
  | cons {x : Str} {np : Pos} {C : Addr} {es : List Expr} {cs : List V} {us : List Value} : X.mg x = some (.ref C) → ClsPA X es cs us → (hg : Gl X x := by rfl) → (hd : (x == ("__debug__" : Str)) = false := by decide) →
      (hs : starEach (.Name x np :: es) X.env = (false, eval (.Name x np) X.env) :: starEach es X.env := by rfl) → ClsPA X (.Name x np :: es) (.ref C :: cs) (.ref C :: us)
  | consB {x : Str} {np : Pos} {T : String} {es : List Expr} {cs : List V} {us : List Value} : X.mg x = none → bootBuiltins x = some (.type T) → ClsPA X es cs us → (hg : Gl X x := by rfl) → (hn : x ≠ "__name__" := by decide) → (hd : (x == ("__debug__" : Str)) = false := by decide) →
      (hs : starEach (.Name x np :: es) X.env = (false, eval (.Name x np) X.env) :: starEach es X.env := by rfl) → ClsPA X (.Name x np :: es) (.ty T :: cs) (.type T :: us)
theorem ClsPA.pa : ∀ {es : List Expr} {cs : List V} {us : List Value}, ClsPA X es cs us → PA X es (tClsV cs)
  | _, _, _, .nil => pa_nil
  | _, _, _, .cons hm t hg hd hs => (pa_cons (pe_glob (v := .ref _) hg hm rfl hd) t.pa hs).weak fun σ H Q q => q
  | _, _, _, .consB hm hv t hg hn hd hs => (pa_cons (pe_bltn (v := .ty _) hg hm hv rfl hn hd) t.pa hs).weak fun σ H Q q => q
theorem ClsPA.cv : ∀ {es : List Expr} {cs : List V} {us : List Value}, ClsPA X es cs us → Paired ClsV cs us
  | _, _, _, .nil => .nil
  | _, _, _, .cons _ t _ _ _ => .cons (.own _) t.cv
  | _, _, _, .consB _ _ t _ _ _ _ => .cons (.ty _) t.cv
theorem d_isET {es : List Expr} {kt : Nat} {cs : List V} {us : List Value} (hm : X.mg "isinstance" = none) (hn : ClsPA X es cs us) (hz : cs.length ≤ 100) (hks : ∀ kC ∈ ks, EC X.K kC.2 ∧ PySem.W.kitAny X.K (.ref kC.2) us = some (decide (kC.1 ∈ ys))) (he : DE X e f)
    (hg : Gl X "isinstance" := by rfl)
    (h1 : starEach [e, .Tuple es kt pt] X.env = (false, eval e X.env) :: starEach [.Tuple es kt pt] X.env := by rfl) (h2 : starEach [.Tuple es kt pt] X.env = (false, eval (.Tuple es kt pt) X.env) :: starEach [] X.env := by rfl)
    (hpl : (backTo pos (starEach [.Tuple es kt pt] X.env)).any (·.1) = false := by rfl) : DE X (.Call (.Name "isinstance" p) [e, .Tuple es kt pt] [] pos) (f1 (isE ks ys) f) :=
  (pe_callB call_isXT hg hm boot_isinstance (pa_cons he (pa_cons (pe_tup hn.pa) pa_nil h2) h1) (by decide) (by decide) h1 hpl).weak fun σ H Q => by
    rintro ⟨M, h, ρ, r, rs, c⟩
    obtain ⟨w, h1, e1, c1⟩ := Cont.bind (δ := Unit) c
    refine ⟨M, h, ρ, r, rs, w, h1, e1, fun M1 H1 v x1 r1 v1 => ?_⟩
    obtain ⟨a, k, C, d, rfl, n, q, dk, dn, hk, c3⟩ := isE_pre (σ := σ) (H := H) r1 v1 (c1 M1 H1 x1)
    refine ⟨by rw [sizeLine_eq]; omega, fun tp np => ?_⟩
    have x2 := ext_new (M := M1) (o := .tup cs) np
    refine ⟨a, C, d, tp, cs, us, _, rfl, ?_, fun dd z => ?_, (hks _ hk).1, upd_same, hn.cv, (hks _ hk).2, c3.fin x2 (r1.upd_new np) (RD.bl _)⟩
    · rw [upd_ne (ne_of_none q np)]; exact q
    · obtain ⟨gs, e⟩ := dk dd z
      exact ⟨gs, by rw [upd_ne (ne_of_none e np)]; exact e⟩
def xfW (ks : List (Nat × Addr)) (n : Str) (w : W) (h : Hh) : Option (W × Hh) := match w with
  | .exc k C fs => if (k, C) ∈ ks then match fs.lookup n with
      | some d => some (.dat d, h)
      | none => none
    else none
  | _ => none
theorem rf_get {M : Mm} {H : Hp} {n : Str} {d : D} : ∀ {gs : List (Str × V)} {fs : List (Str × D)}, RF M H gs fs → fs.lookup n = some d → ∃ v, gs.lookup n = some v ∧ RD M H v d
  | _, _, .nil, e => by cases e
  | (a, v) :: gs, (b, d') :: fs, .cons ⟨r1, r2⟩ t, e => by
    dsimp only at r1 r2
    subst r1
    rw [List.lookup_cons] at e ⊢
    cases q : n == a with
    | true => rw [q] at e; cases e; exact ⟨v, rfl, r2⟩
    | false => rw [q] at e; exact rf_get t e
theorem d_xf {n : Str} (hks : ∀ kC ∈ ks, EC X.K kC.2 ∧ PySem.W.findIn X.K (.ref kC.2) n = some none) (he : DE X e f) (hb : attributeBase e n X.env (eval e X.env) = eval e X.env := by rfl) : DE X (.Attribute e n pos) (f1 (xfW ks n) f) :=
  ⟨fun pins s σ H Q I h => by
    refine attr_of hb (thn (he.run pins s σ H (fun x H1 => ∃ a C dd gs v, x = .ref a ∧ H1 a = some (XO C (some dd) a) ∧ H1 dd = some (.xd gs) ∧ gs.lookup n = some v ∧ EC X.K C ∧ PySem.W.findIn X.K (.ref C) n = some none ∧ Q v H1) I ?_) fun u s1 ⟨x, H1, I1, rx, a, C, dd, gs, v, ex, ea, ed, l, ec, hno, q⟩ => ?_)
    · obtain ⟨M, h, ρ, r, rs, c⟩ := h
      obtain ⟨w, h1, e1, c1⟩ := Cont.bind (δ := Unit) c
      refine ⟨M, h, ρ, r, rs, w, h1, e1, fun M1 H1 v x1 r1 v1 => ?_⟩
      have c2 := c1 M1 H1 x1
      unfold xfW at c2
      split at c2
      · rename_i k C fs
        obtain ⟨a, d, gs, rfl, n', q, xd, rf⟩ := v1
        split at c2
        · rename_i hk
          split at c2
          · rename_i dv el
            obtain ⟨v, el', rv⟩ := rf_get rf el
            cases d with
            | none => cases (show gs = [] from xd); cases el'
            | some dd => exact ⟨a, C, dd, gs, v, rfl, q, xd.2, el', (hks _ hk).1, (hks _ hk).2, c2.here r1 rv⟩
          · exact c2.no.elim
        · exact c2.no.elim
      · exact c2.no.elim
    · subst ex
      obtain rfl : u = Value.ref a := rx
      obtain ⟨oe, vs, h1, hc, hdt, hf⟩ := xo_at I1.hok ea
      obtain ⟨mA, hns, hr⟩ := (show ObjOk X.prog X.w H1 s1.heap dd (.xd gs) from I1.hok dd _ ed)
      obtain ⟨od, ho, hl⟩ := lookIn_ns hns
      obtain ⟨u, hu, ru⟩ := RelO.some_of (v := v) (o := mA n) (by rw [← l]; exact hr n)
      have J : PySem.W.InstAt s1.heap a oe C (some od) := ⟨h1, hc, by unfold PySem.W.notCls; rw [hf] <;> rfl, by rw [hdt]; exact ho⟩
      exact HandSPX.exc_get I1.kIn J ec.hg ec.hk ec.hs (PySem.W.findObj_own ec.hd hno rfl (by rw [hl, hu])) (handed_of ru) ⟨v, H1, I1.tok _, ru, q⟩⟩
end
end DL
set_option maxRecDepth 100000
set_option maxHeartbeats 400000
namespace DL
open PySem PySem.Spec PyProof.Rows L2
structure CE (K : PySem.W.Frag) (mg : Str → Option Value) (C : Addr) (x : Str) : Prop where
  at_ : mg x = some (.ref C)
  bP : PySem.W.subIn K (.ref C) (.type "BaseException") = some true
  hd : PySem.W.hasDictIn K C = true
  tP : PySem.W.typeIn K (.ref C) = some (.type "type")
section
variable {K : PySem.W.Frag} {mg : Str → Option Value} {C Ce : Addr} {x : Str} {cls c t : Value} {r : List Value} {b d : Bool}
theorem exo_of (c : CE K mg C x) (h4 : PySem.W.subIn K cls (.ref C) = some b) : PySem.W.exmOne K cls (.ref C) = some b := PySem.W.exm_ref c.bP c.hd c.tP h4
theorem exa_nil : PySem.W.exmAny K cls [] = some false := rfl
theorem exa_cons (h : PySem.W.exmOne K cls c = some b) (t : PySem.W.exmAny K cls r = some d) : PySem.W.exmAny K cls (c :: r) = some (b || d) := by
  unfold PySem.W.exmAny; rw [h, t]
theorem kit_same : PySem.W.kitOne K c c = some true := by unfold PySem.W.kitOne; rw [if_pos (beq_self_eq_true _)]
theorem CE.kitCls (c : CE K mg C x) : PySem.W.kitCls K t (.ref C) = PySem.W.subIn K t (.ref C) := by
  obtain ⟨cd, hc, _⟩ := PySem.W.any_some c.hd
  have e : ((PySem.W.clsIn K C).isSome && PySem.W.typeIn K (.ref C) == some (.type "type")) = true := by rw [hc, c.tP] <;> rfl
  unfold PySem.W.kitCls
  dsimp only
  rw [if_pos e]
theorem kit_not (c : CE K mg C x) (s1 : PySem.W.subIn K (.ref Ce) (.ref C) = some false) (s2 : PySem.W.subIn K (.ref Ce) (.ref Ce) = some true) : PySem.W.kitOne K (.ref Ce) (.ref C) = some false := by
  have ne : ((Value.ref Ce) == (Value.ref C)) = false := Bool.eq_false_iff.mpr fun q => by
    have e : Ce = C := Value.ref.inj (beq_iff_eq.mp q)
    rw [← e, s2] at s1
    cases s1
  unfold PySem.W.kitOne
  rw [ne, if_neg Bool.false_ne_true, c.kitCls]
  exact s1
theorem kit_bi {T : String} (hm : PySem.W.kitMeta T = true) (s : PySem.W.subIn K (.ref Ce) (.type T) = some b) : PySem.W.kitOne K (.ref Ce) (.type T) = some b := by
  unfold PySem.W.kitOne
  rw [if_neg (by intro q; cases (beq_iff_eq.mp q))]
  unfold PySem.W.kitCls
  dsimp only
  rw [if_pos hm]
  exact s
theorem ka_nil : PySem.W.kitAny K t [] = some false := rfl
theorem ka_no (h : PySem.W.kitOne K t c = some false) (q : PySem.W.kitAny K t r = some b) : PySem.W.kitAny K t (c :: r) = some b := by
  unfold PySem.W.kitAny; rw [h]; exact q
theorem bt_LE : bootBuiltins "LookupError" = some (.type "LookupError") := by decide +kernel
theorem km_LE : PySem.W.kitMeta "LookupError" = true := by decide +kernel
end
end DL
set_option maxRecDepth 100000
set_option maxHeartbeats 1000000
namespace DL
open PySem PySem.Spec PyProof.Rows L2
structure BaseF (B : String) (Bs : Str) (bm : List Value) (nI iI : String) : Prop where
  F : ExcBaseFacts B nI iI bm
  SF : StoreFacts B bm "object.__setattr__" "object"
  ty : typeOf (.type B) = pure (.type "type")
  st : Manifest.isStub B = false
  bt : bootBuiltins Bs = some (.type B)
  hi : PySem.W.handedIn (.builtin iI) = true
  nn : Bs ≠ "__name__"
  nd : (Bs == ("__debug__" : Str)) = false
theorem base_LE : BaseF "LookupError" "LookupError" [.type "LookupError", .type "Exception", .type "BaseException", .type "object"] "LookupError.__new__" "LookupError.__init__" where
  F := PySem.F.excBase_LookupError
  SF := PySem.F.store_LookupError
  ty := by kernel_rfl
  st := by decide +kernel
  bt := bt_LE
  hi := by decide +kernel
  nn := by decide
  nd := by decide
structure OexG (K : PySem.W.Frag) (C : Addr) (bm : List Value) (nI : String) : Prop where
  q : PySem.W.excInitIn K C bm nI = true
  ov : PySem.W.excOver K C bm = true
  hd : PySem.W.hasDictIn K C = true
  sa : PySem.W.findIn K (.ref C) "__setattr__" = some (some (.builtin "object.__setattr__"))
  exC : PySem.W.subIn K (.ref C) (.type "BaseException") = some true
  tyC : PySem.W.typeIn K (.ref C) = some (.type "type")
  kC : PySem.W.keepIn K (.ref C) = true
section
variable {prog : Program} {w : World} {A : Around} {R : Result → Shared → Prop} {hp : Heap} {g : Array GenState} {d : Drawn} {t : Nat} {os : OsState} {K : PySem.W.Frag} {B : String} {bm : List Value} {C x t0 : Addr} {f : Str} {tk : Tok} {v : Value}
theorem osa_first (SF : StoreFacts B bm "object.__setattr__" "object") (Y : K.In hp) (hx : hp.get? x = some (PySem.HandSPX.excO C t0)) (ov : PySem.W.excOver K C bm = true) (hd : PySem.W.hasDictIn K C = true) (hf : PySem.W.findIn K (.ref C) f = some none)
    (hq : ∀ h' tk' dx, (∀ b o, b ≠ x → hp.get? b = some o → h'.get? b = some o) → hp.objs.size ≤ dx → dx ≠ x → h'.get? x = some { cls := .ref C, dict := some dx, data := .fields #[.ref t0, .none, .none, .none, .bool false, .none] } → h'.Ns1 dx (fun y => if y = f then some v else none) → R (.ok (.ret .none)) ⟨h', g, d, tk', os⟩) :
    codeAny (model prog w) A (.call (.builtin "object.__setattr__") ⟨[.ref x, .str f tk, v], []⟩) R ⟨hp, g, d, t, os⟩ := by
  have ht : PySem.W.takerIn K C f = some none := by unfold PySem.W.takerIn; rw [hf]; rfl
  refine PySem.W.osa_openX (od := none) SF Y ⟨hx, rfl, rfl, trivial⟩ ov ht fun b => ?_
  obtain ⟨cd, hc, hd'⟩ := PySem.W.any_some hd
  refine wpAny_bind (wpAny_pure (wpAny_bind (PySem.W.instanceDict_exc (s := ⟨hp, g, d, t, os⟩) hx (PySem.W.looks_clsIn Y hc) hd' ?_)))
  have hxs : x ≠ hp.objs.size := Nat.ne_of_lt (Heap.lt_size hx)
  have h1 : (hp.push (PySem.W.dictOf [] 0)).get? x = some (PySem.HandSPX.excO C t0) := Heap.get?_push_of_some _ hx
  show wpAny _ _ (Builtin.ObjectAttr.storeInDict hp.objs.size (.str f tk) f v) _ _ _
  refine PySem.HandSPX.store_in_new ?_ fun h' tk' hn' hs => ?_
  · exact ⟨_, #[], _, (Heap.get?_update_ne _ _ _ _ hxs.symm).trans (Heap.get?_push_at rfl rfl), rfl, fun e he => absurd he (by simp), fun _ => rfl⟩
  · refine hq h' tk' hp.objs.size (fun b o hb ho => ?_) (Nat.le_refl _) hxs.symm ?_ hn'
    · exact (hs.2 b (Nat.ne_of_lt (Heap.lt_size ho))).trans ((Heap.get?_update_ne _ _ _ _ hb).trans (Heap.get?_push_of_some _ ho))
    · exact (hs.2 x hxs).trans (Heap.get?_update_self _ h1 rfl)
end
section
variable {X : Cx} {pins : List (Addr × Obj)} {σ : L2.St} {H : Hp} {s : Shared} {a C : Addr} {f : Str} {y : V} {u : Value} {E : Value → Shared → Prop} {A : Around} {B : String} {Bs : Str} {bm : List Value} {nI iI : String}
theorem one_new {Q : Unit → Shared → Prop} (T : OexG X.K C bm nI) (SF : StoreFacts B bm "object.__setattr__" "object") (I : Inv X pins σ H s) (e : H a = some (exo a C none)) (hno : PySem.W.findIn X.K (.ref C) f = some none) (ry : RelV y u)
    (h : ∀ dx s', H dx = none → dx ≠ a → Inv X pins σ (upd (upd H dx (exd dx [(f, y)])) a (exo a C (some dx))) s' → Q () s') : wpAny (model X.prog X.w) A (setAttr (.ref a) f u) Q E s := by
  obtain ⟨t1, ho⟩ := exo_at I.hok e
  obtain ⟨hp, g, d, t, os⟩ := s
  refine PySem.W.set_plain I.kIn (od := none) ⟨ho, rfl, rfl, trivial⟩ T.sa ?_
  refine osa_first SF I.kIn ho T.ov T.hd hno fun h' tk' dx k dn dne hx hn => ?_
  have hnd : H dx = none := I.hok.fresh dn
  have nd : ∀ {b : Addr} {o : Obj}, hp.get? b = some o → b ≠ dx := fun q => Nat.ne_of_lt (Nat.lt_of_lt_of_le (Heap.lt_size q) dn)
  have na : ∀ {b : Addr}, H b = none → b ≠ a := fun n => ne_of_none e n |>.symm
  refine h dx _ hnd dne (I.un (t' := tk') (h' := h') {
    keep := fun b o q n _ _ => k b o (na n) q
    slot := fun b o q n _ _ => ⟨o.slots, k b o (na n) q⟩
    free := fun b o q n _ => by rw [upd_ne (na n), upd_ne (nd q)]; exact n
    there := fun b o q _ => by
      by_cases z : b = a
      · subst z; exact ⟨_, hx⟩
      · exact ⟨o, k b o z q⟩
    tups := fun b xs q => by rw [upd_ne (at_ne e q exo_tup), upd_ne (ne_of_none q hnd)]; exact q
    frzs := fun b o v q => by rw [upd_ne (at_ne e q exo_frz), upd_ne (ne_of_none q hnd)]; exact q
    tbls := fun b ps q => ⟨#[], by rw [upd_ne (at_ne e q exo_tbl), upd_ne (ne_of_none q hnd), q]; simp⟩ } fun b o q => ?_)
  by_cases z : b = a
  · subst z
    rw [upd_same] at q; cases q
    exact exo_ok hx
  rw [upd_ne z] at q
  by_cases z2 : b = dx
  · subst z2
    rw [upd_same] at q; cases q
    exact exd_ok hn (relO_put (fs := []) ry fun _ => trivial)
  rw [upd_ne z2] at q
  refine (I.hok b o q).stay (fun c v hc y => k c v (hc.elim (fun w => w ▸ z) fun w => at_ne e w exo_own) y) (fun c w => ?_) fun c xs w => ?_
  · rw [upd_ne (at_ne e w exo_own), upd_ne (ne_of_none w hnd)]; exact w
  · rw [upd_ne (at_ne e w exo_tup), upd_ne (ne_of_none w hnd)]; exact w
theorem class_at (T : OexG X.K C bm nI) : ∃ nm q N bs b sn sub ab col dd k0 k1 k2 k3 k5 hdct, X.K.lookup C = some (excClassObj nm q C N bs b hdct sn sub ab col dd k0 k1 k2 k3 k5 nI) ∧ ∀ Y : String, b.contains (.type Y) = bm.contains (.type Y) := by
  have q := T.q
  unfold PySem.W.excInitIn at q
  split at q
  case h_2 => cases q
  case h_1 dd cd sl ho =>
  split at q
  case h_2 => cases q
  case h_1 C' b k0 k1 k2 k3 n k5 hm hs =>
  simp only [Bool.and_eq_true, beq_iff_eq, Bool.not_eq_true'] at q
  obtain ⟨⟨⟨e1, e2⟩, hdel⟩, ht⟩ := q
  subst e1 e2
  obtain ⟨nm, bs, mro, ns, qn, hd, sn, sb, ab, col, del⟩ := cd
  dsimp only at hm hdel
  subst hm hdel
  obtain ⟨l⟩ := sl
  dsimp only at hs
  subst hs
  exact ⟨nm, qn, ns, bs, b, sn, sb, ab, col, dd, k0, k1, k2, k3, k5, hd, ho, fun Y => PySem.W.excTail_contains Y _ ht⟩
theorem base_init {us : List Value} {Q : Value → Shared → Prop} (T : OexG X.K C bm nI) (F : ExcBaseFacts B nI iI bm) (I : Inv X pins σ H s) (e : H a = some (exo a C none)) (hl : us.length ≤ sizeLine) (h : ∀ s', Inv X pins σ H s' → Q .none s') :
    wpAny (model X.prog X.w) A (call (.builtin iI) (.ref a :: us)) Q E s := by
  obtain ⟨nm, q, N, bs, b, sn, sub, ab, col, dd, k0, k1, k2, k3, k5, hdct, hC, hT⟩ := class_at T
  obtain ⟨t1, ho⟩ := exo_at I.hok e
  obtain ⟨hp, g, d, t, os⟩ := s
  refine wpAny_call (PySem.HandSPX.init_base F hT (I.kIn _ _ hC) ho hl fun h' t2 k hx => ?_)
  have J := I.write (t' := t) (x := a) (e := a) (o := exo a C none) (by rw [e]; trivial) (.inl rfl) k ⟨_, hx⟩ (exo_ok hx)
  have eu : upd H a (exo a C none) = H := funext fun b => by
    by_cases z : b = a
    · subst z; rw [upd_same, e]
    · rw [upd_ne z]
  exact h _ (eu ▸ J)
end
def spI (C : Addr) (f : Str) : Sp := fun vs H Q _ => ∃ (a : Addr) (y : V), vs = [.ref a, y] ∧ H a = some (exo a C none) ∧ ∀ dx, H dx = none → dx ≠ a → Q .non (upd (upd H dx (exd dx [(f, y)])) a (exo a C (some dx)))
def tUA (C : Addr) : TE := fun σ H Q => ∃ (a : Addr) (y : V), σ[0]? = some (some (.ref a)) ∧ σ[1]? = some (some y) ∧ H a = some (exo a C none) ∧ Q .non H
def tUB (C : Addr) (f : Str) : TS := fun D σ H => ∃ (a : Addr) (y : V), σ[0]? = some (some (.ref a)) ∧ σ[1]? = some (some y) ∧ H a = some (exo a C none) ∧ ∀ dx, H dx = none → dx ≠ a → D.nx σ (upd (upd H dx (exd dx [(f, y)])) a (exo a C (some dx)))
section
variable {X : Cx} {C : Addr} {f : Str} {B : String} {Bs : Str} {bm : List Value} {nI iI : String} {a b a' b' : Expr} {p1 p2 p5 p6 p8 p10 : Pos}
theorem pe_binit {pl : Sem Bool} (BF : BaseF B Bs bm nI iI) (T : OexG X.K C bm nI) (hm : X.mg Bs = none) (vV : PySem.W.findCls X.K (.type B) (.type "type") "__init__" = some (.val (.builtin iI))) (pa : PE X a (tVar 0)) (pb : PE X b (tVar 1)) (hg : Gl X Bs)
    (hc : eval (.Call (.Attribute (.Name Bs p1) "__init__" p2) [a, b] [] p5) X.env = (do
      let ov ← eval (.Name Bs p1) X.env
      standAt p2.atName
      let (g, first) ← holding [ov] (getMethod ov "__init__" pl)
      callWith p5 g first (backTo p5 (starEach [a, b] X.env)) (backToKw p5 (keywordEach [] X.env))))
    (ha : starEach [a, b] X.env = (false, eval a X.env) :: starEach [b] X.env) (hb : starEach [b] X.env = (false, eval b X.env) :: starEach [] X.env) (hpl : (backTo p5 (starEach [b] X.env)).any (·.1) = false) :
    PE X (.Call (.Attribute (.Name Bs p1) "__init__" p2) [a, b] [] p5) (tUA C) := by
  refine ⟨fun pins s σ H Q I h => ?_⟩
  obtain ⟨x, y, s0, s1, e, q⟩ := h
  refine PySem.W.methodCall_KW (ld_blt I hg hm BF.bt ?_ BF.nn BF.nd) hc
  obtain ⟨m, fr⟩ := I.fr
  refine PySem.W.method_type fr I.ok.mod.kin BF.ty BF.st vV BF.hi ?_
  show wpAny _ _ (callWith p5 (Value.builtin iI) [] (backTo p5 (starEach [a, b] X.env)) []) _ _ _
  refine PyProof.Rows.callWith_method1 (thn ((pa_cons pa (pa_cons pb pa_nil hb) ha).run p5 pins _ σ H (fun vs H1 => vs = [.ref x, y] ∧ H1 = H) (I.tok _) ⟨_, s0, _, s1, rfl, rfl⟩) fun us s2 ⟨vs, H1, I1, r1, ev, eh⟩ => ?_) ha hpl
  subst ev eh
  obtain ⟨u1, u2, rfl, r1, r2⟩ := vals2 r1
  obtain rfl : u1 = Value.ref x := r1
  exact base_init T BF.F I1 e (by show 1 ≤ sizeLine; rw [sizeLine_eq]; omega) fun s' J => ⟨.non, H1, J, rfl, q⟩
theorem ps_one (SF : StoreFacts B bm "object.__setattr__" "object") (T : OexG X.K C bm nI) (hno : PySem.W.findIn X.K (.ref C) f = some none) (pa : PE X a' (tVar 0)) (pb : PE X b' (tVar 1)) (hs : swapsWith b' (some (.Attribute a' f p8)) p10.line X.env = pure false) : PS X (.Assign [.Attribute a' f p8] b' p10) (tUB C f) := by
  refine ⟨fun pins s σ H D I h => ?_⟩
  obtain ⟨x, y, s0, s1, e, q⟩ := h
  refine plainObj_wpAny_Assign_Attribute (thn (pb.run pins s σ H (fun v H1 => v = y ∧ H1 = H) I ⟨_, s1, rfl, rfl⟩) fun v s2 ⟨v1, H1, I1, r1, e1, e2⟩ => ?_) hs
  subst e1 e2
  refine thn (pa.run pins s2 σ H1 (fun v H2 => v = .ref x ∧ H2 = H1) I1 ⟨_, s0, rfl, rfl⟩) fun u s3 ⟨v2, H2, I2, r2, e1, e2⟩ => ?_
  subst e1 e2
  obtain rfl : u = Value.ref x := r2
  exact one_new T SF I2 e hno r1 fun dx s' n ne J => ⟨σ, _, J, q dx n ne⟩
theorem ui_body {pl : Sem Bool} (BF : BaseF B Bs bm nI iI) (T : OexG X.K C bm nI) (hm : X.mg Bs = none) (vV : PySem.W.findCls X.K (.type B) (.type "type") "__init__" = some (.val (.builtin iI))) (hno : PySem.W.findIn X.K (.ref C) f = some none)
    (pa : PE X a (tVar 0)) (pb : PE X b (tVar 1)) (pa' : PE X a' (tVar 0)) (pb' : PE X b' (tVar 1)) (hg : Gl X Bs := by rfl)
    (hc : eval (.Call (.Attribute (.Name Bs p1) "__init__" p2) [a, b] [] p5) X.env = (do
      let ov ← eval (.Name Bs p1) X.env
      standAt p2.atName
      let (g, first) ← holding [ov] (getMethod ov "__init__" pl)
      callWith p5 g first (backTo p5 (starEach [a, b] X.env)) (backToKw p5 (keywordEach [] X.env))) := by rfl)
    (ha : starEach [a, b] X.env = (false, eval a X.env) :: starEach [b] X.env := by rfl) (hb : starEach [b] X.env = (false, eval b X.env) :: starEach [] X.env := by rfl) (hpl : (backTo p5 (starEach [b] X.env)).any (·.1) = false := by rfl)
    (hs1 : swapsWith (.Call (.Attribute (.Name Bs p1) "__init__" p2) [a, b] [] p5) none p6.line X.env = pure false := by rfl) (hs2 : swapsWith b' (some (.Attribute a' f p8)) p10.line X.env = pure false := by rfl) :
    PSs X [.Expr (.Call (.Attribute (.Name Bs p1) "__init__" p2) [a, b] [] p5) p6, .Assign [.Attribute a' f p8] b' p10] (tSeq (tDrop (tUA C)) (tSeq (tUB C f) tNext)) :=
  pss_cons (ps_expr (pe_binit BF T hm vV pa pb hg hc ha hb hpl) hs1) (pss_cons (ps_one BF.SF T hno pa' pb' hs2) pss_nil)
end
section
variable {P : Program} {w : World} {K : PySem.W.Frag} {mg : Str → Option Value} {base : Heap}
theorem ui_ok {q n : Str} {st : Stmt} {fI C : Addr} {f : Str} {fd : FuncData} (F : Fun K "__init__" q st fI fd) (S : FnScope ["self", n] ["self", n] (defScope st))
    (hb : ∀ (cdv : Value) (A : Around) (outer : List PySem.Env) (s : Shared) (H : Hp) (E : XK), PSs (cxOf CX0 P w K mg base ["self", n] q (defScope st) fI cdv A outer s H E).nox (defBody st) (tSeq (tDrop (tUA C)) (tSeq (tUB C f) tNext))) :
    FnG P w K mg base CX0 1 fI fd ["self", n] (spI C f) :=
  fn_g0 (k := 0) F S (fun vs H Q E ⟨a, y, e, _⟩ => by subst e; rfl) fun cdv _ A outer s H vs Q E _ ⟨a, y, e, ha, q⟩ => ⟨_, hb cdv A outer s H E, by
    subst e
    exact ⟨a, y, rfl, rfl, ha, a, y, rfl, rfl, ha, fun dx n ne => q dx n ne⟩⟩
structure UE1 (K : PySem.W.Frag) (mg : Str → Option Value) (C : Addr) (x f : Str) : Prop where
  at_ : mg x = some (.ref C)
  ex : ∃ (B nI iI : String) (bm : List Value) (fI : Addr) (fd : FuncData) (ps : List Str), ExcBaseFacts B nI iI bm ∧ OexG K C bm nI ∧ PySem.W.findIn K (.ref C) "__init__" = some (some (.ref fI)) ∧ PySem.W.typeIn K (.ref fI) = some (.type "function") ∧ Binds K fd ps [] ∧ ∀ (P : Program) (w : World) (base : Heap), FnG P w K mg base CX0 1 fI fd ps (spI C f)
end
section
variable {X : Cx} {W : WX} {C : Addr} {x fl : Str} {f : EM} {e : Expr} {p pos pos' : Pos}
theorem pmk_own1 (u : UE1 X.K X.mg C x fl) (hr : RG 2 X.A) (he : DE X e f) (hg : Gl X x) (hdb : (x == ("__debug__" : Str)) = false) (h1 : starEach [e] X.env = (false, eval e X.env) :: starEach [] X.env) (hpl : (backTo pos (starEach [] X.env)).any (·.1) = false) :
    PMk X (.Call (.Name x p) [e] [] pos) (fun σ H Q => tE f σ H fun y H1 => ∀ dx, H1 dx = none → Q (.ref C) (some dx) (upd H1 dx (.xd [(fl, y)]))) := by
  intro pins s σ H Q I h
  obtain ⟨B, nI, iI, bm, fI, fd, ps, BF, T, iC, tI, hbd, F0⟩ := u.ex
  have F1 := F0 X.prog X.w X.base
  obtain ⟨nm, q, N, bs, b, sn, sub, ab, col, dd, k0, k1, k2, k3, k5, hdct, hC, hT⟩ := class_at T
  refine wpAny_Call_Name_kw (ld_glob I hg u.at_ ?_ hdb)
  refine PySem.W.callWith_K (h₀ := X.base) I.ok.mod.kin T.kC (thn ((pa_cons he pa_nil h1).run pos pins s σ H (fun vs H1 => ∃ y, vs = [y] ∧ ∀ dx, H1 dx = none → Q (.ref C) (some dx) (upd H1 dx (.xd [(fl, y)]))) I ?_) fun us s1 ⟨vs, H1, I1, r1, y, ev, q1⟩ => ⟨I1.kIn, ?_⟩) h1 hpl
  · obtain ⟨M, hh, ρ, rp, rs, c⟩ := h
    obtain ⟨w, h', ef, k⟩ := c
    exact ⟨M, hh, ρ, rp, rs, w, h', ef, fun M1 H1 v x r rv => ⟨v, rfl, k M1 H1 v x r rv⟩⟩
  subst ev
  obtain ⟨u0, rfl, ry⟩ := vals1 r1
  show wpAny _ _ (call (.ref C) [u0]) _ _ _
  obtain ⟨hp, g, dr, tk, os⟩ := s1
  have hsz : hp.objs.size ≤ hp.objs.size + 1 := Nat.le_succ _
  have hn : H1 (hp.objs.size + 1) = none := I1.hok.fresh hsz
  have kk : ∀ b o, hp.get? b = some o → ((hp.push (PySem.W.kdv_tup [u0])).push (PySem.HandSPX.excO C hp.objs.size)).get? b = some o := fun b o e => Heap.get?_push_of_some _ (Heap.get?_push_of_some _ e)
  have hget : ((hp.push (PySem.W.kdv_tup [u0])).push (PySem.HandSPX.excO C hp.objs.size)).get? (hp.objs.size + 1) = some (PySem.HandSPX.excO C hp.objs.size) := by heap_get
  have I2 : Inv X pins σ (upd H1 (hp.objs.size + 1) (exo (hp.objs.size + 1) C none)) ⟨(hp.push (PySem.W.kdv_tup [u0])).push (PySem.HandSPX.excO C hp.objs.size), g, dr, tk, os⟩ :=
    I1.laid (t' := tk) kk hsz (exo_ok hget)
  let QQ : VK := fun v H2 => v = .non ∧ ∃ (d : Addr) (fs : List (Str × V)), H2 (hp.objs.size + 1) = some (exo (hp.objs.size + 1) C (some d)) ∧ H2 d = some (exd d fs) ∧ H1 d = none ∧ Q (.ref C) (some d) (upd (del H2 (hp.objs.size + 1)) d (.xd fs))
  have hq : spI C fl [.ref (hp.objs.size + 1), y] (upd H1 (hp.objs.size + 1) (exo (hp.objs.size + 1) C none)) QQ E0 := ⟨hp.objs.size + 1, y, rfl, upd_same, fun dx nd ne => by
    rw [upd_ne ne] at nd
    refine ⟨rfl, dx, [(fl, y)], upd_same, by rw [upd_ne ne, upd_same], nd, ?_⟩
    have eh : upd (del (upd (upd (upd H1 (hp.objs.size + 1) (exo (hp.objs.size + 1) C none)) dx (exd dx [(fl, y)])) (hp.objs.size + 1) (exo (hp.objs.size + 1) C (some dx))) (hp.objs.size + 1)) dx (.xd [(fl, y)]) = upd H1 dx (.xd [(fl, y)]) := funext fun b => by
      by_cases z : b = dx
      · subst z; rw [upd_same, upd_same]
      rw [upd_ne z, upd_ne z]
      by_cases z2 : b = hp.objs.size + 1
      · subst z2; rw [del_same, hn]
      · rw [del_ne z2, upd_ne z2, upd_ne z, upd_ne z2]
    rw [eh]
    exact q1 dx nd⟩
  have r2 : Vals [V.ref (hp.objs.size + 1), y] [Value.ref (hp.objs.size + 1), u0] := .cons rfl (.cons ry .nil)
  have bd := hbd { heap := (hp.push (PySem.W.kdv_tup [u0])).push (PySem.HandSPX.excO C hp.objs.size), gens := g, drawn := dr, toks := tk, os := os } [Value.ref (hp.objs.size + 1), u0] I2.kIn (by
    have e := F1.len _ _ _ _ hq
    simpa using e)
  rw [List.append_nil] at bd
  refine wpAny_call (PySem.HandSPX.call_own BF hT (I1.kIn _ _ hC) (PySem.W.looks_findIn I1.kIn iC) (fun self => PySem.W.bind_fn I1.kIn self tI) (by show 1 ≤ sizeLine; rw [sizeLine_eq]; omega)
    (codeAny_mono (F1.run _ X.stack _ _ ⟨[Value.ref (hp.objs.size + 1), u0], []⟩ [Value.ref (hp.objs.size + 1), u0] _ QQ E0 ⟨hr.room.make C [u0] [], hr.gd⟩ (I2.env0.make C [u0] []) bd r2 hq) fun r s' hq' => ?_))
  cases r with
  | error er => exact False.elim hq'
  | ok fl' =>
    cases fl' with
    | ret u =>
      obtain ⟨v, H2, os2, bare2, un2, hok2, rv, ev, d, fs, ea, ed, hd1, q2⟩ := hq'
      subst ev
      obtain ⟨h2, g2, d2, t2, os'⟩ := s'
      exact ⟨rv, mk_end (raises_own T.exC T.tyC) I1 hsz kk un2 hok2 os2 bare2 ea ed hd1 q2⟩
    | next => exact False.elim hq'
    | brk => exact False.elim hq'
    | cont => exact False.elim hq'
def rNew1 (k : Nat) (C : Addr) (n : Str) (f : EM) : RM := fun ρ h => match f ρ h with
  | some (.dat d, h1) => some ((ρ, k, C, [(n, d)]), h1)
  | _ => none
theorem dr_raise1 {k : Nat} (u : UE1 X.K X.mg C x fl) (hr : RG 2 X.A) (hc : X.calm = true) (tk : Takes X W) (he : DE X e f) (hg : Gl X x := by rfl) (hdb : (x == ("__debug__" : Str)) = false := by decide)
    (h1 : starEach [e] X.env = (false, eval e X.env) :: starEach [] X.env := by rfl) (hpl : (backTo pos (starEach [] X.env)).any (·.1) = false := by rfl) : DR X (.Raise (some (.Call (.Name x p) [e] [] pos)) none pos') (rNew1 k C fl f) W :=
  (ps_raise hc tk (pmk_own1 u hr he hg hdb h1 hpl)).weak fun D σ H => by
    rintro ⟨M, h, ρ, rp, rs, q⟩
    unfold rNew1 at q
    cases ef : f ρ h with
    | none => rw [ef] at q; exact q.elim
    | some z =>
      obtain ⟨w, h1⟩ := z
      rw [ef] at q
      cases w
      case dat d =>
        refine ⟨M, h, ρ, rp, rs, .dat d, h1, ef, fun M1 H1 v x1 r1 v1 dx nd => ?_⟩
        have x2 := ext_new (M := M1) (o := .xd [(fl, v)]) nd
        refine q M1 _ σ (.ref C) (some dx) x1.same (x1.ext.trans x2.ext) (r1.upd_new nd) ((rs.mono x1).mono x2) ⟨[(fl, v)], rfl, ⟨r1.new nd, upd_same⟩, .cons ⟨rfl, RD.mono x2.ext (show RD M1 H1 v d from v1)⟩ .nil⟩
      all_goals exact q.elim
end
end DL
set_option maxRecDepth 100000
set_option maxHeartbeats 4000000
namespace DL
open PySem PySem.Spec PyProof.Rows L2
end DL
set_option maxRecDepth 100000
set_option maxHeartbeats 4000000
namespace DL
open PySem PySem.Spec PyProof.Rows L2
end DL
set_option maxRecDepth 100000
set_option maxHeartbeats 4000000
namespace DL
open PySem PySem.Spec PyProof.Rows L2
end DL
set_option maxRecDepth 100000
set_option maxHeartbeats 4000000
namespace DL
open PySem PySem.Spec PyProof.Rows L2
end DL
set_option maxRecDepth 100000
set_option maxHeartbeats 4000000
namespace DL
open PySem PySem.Spec PyProof.Rows L2
end DL
set_option maxRecDepth 100000
set_option maxHeartbeats 4000000
namespace DL
open PySem PySem.Spec PyProof.Rows L2
end DL
set_option maxRecDepth 100000
set_option maxHeartbeats 4000000
namespace DL
open PySem PySem.Spec PyProof.Rows L2
section
variable {X : Cx} {C : Addr} {k : Nat} {ps : List Str} {qual : Str} {st : Stmt} {mm : FM} {pos : Pos}
theorem RG.one {A : Around} (hr : RG (k + 1) A) : RG k A.in1 := ⟨hr.room.in1, hr.gd⟩
end
end DL
set_option maxRecDepth 100000
set_option maxHeartbeats 400000
namespace DL
open PySem PySem.Spec PyProof.Rows L2
end DL
set_option maxRecDepth 100000
set_option maxHeartbeats 4000000
namespace DL
open PySem PySem.Spec PyProof.Rows L2
end DL
set_option maxRecDepth 100000
set_option maxHeartbeats 4000000
namespace DL
open PySem PySem.Spec PyProof.Rows L2
end DL
set_option maxRecDepth 100000
set_option maxHeartbeats 4000000
namespace DL
open PySem PySem.Spec PyProof.Rows L2
end DL
set_option maxRecDepth 100000
set_option maxHeartbeats 4000000
namespace DL
open PySem PySem.Spec PyProof.Rows L2
abbrev dc2N (kx vx t0 i0 t1 i1 : Expr) (scope : Scope) (pos : Pos) : Expr := .DictComp kx vx [⟨t0, i0, [], 0⟩, ⟨t1, i1, [], 0⟩] scope pos
section
variable {prog : Program} {w : World} {A : Around} {R : Result → Shared → Prop} {s : Shared} {kx vx t0 i0 t1 i1 : Expr} {scope : Scope} {pos : Pos} {it : Value} {D : Addr} {env : PySem.Env}
theorem dc2_out (hs : ∀ x, foldedSetIterable i1 env x = pure x) (I : Nat → Shared → Prop)
    (turn : ∀ n s, I n s → wpAny (model prog w) A (pyNext it) (fun r s₁ => match r with
      | none => R (.ok .next) s₁
      | some v => wpAny (model prog w) A (letOwnedTupleGo t0 it v) (fun _ s₂ => wpAny (model prog w) A (assign t0 env v) (fun _ s₃ => wpAny (model prog w) A (eval i1 env) (fun x s₄ => wpAny (model prog w) A (pyIter x) (fun it1 s₅ =>
          codeAny (model prog w) A (.compStart (dc2N kx vx t0 i0 t1 i1 scope pos) 1 it1 (.ref D) env) (fun r s' => match r with
            | .ok _ => ∃ m, m < n ∧ I m s'
            | .error _ => False) s₅) (fun _ _ => False) s₄) (fun _ _ => False) s₃) (fun _ _ => False) s₂) (fun _ _ => False) s₁) (fun _ _ => False) s)
    (n : Nat) (h : I n s) : codeAny (model prog w) A (.compLoop (dc2N kx vx t0 i0 t1 i1 scope pos) 0 it (.ref D) env) R s := by
  refine codeAny_loop rfl I (fun n s hI => ?_) n h
  have unf : compTurn (dc2N kx vx t0 i0 t1 i1 scope pos) 0 it (.ref D) env = (do
      standAt i0.pos
      match ← pyNext it with
      | none => pure (.done .next)
      | some v =>
        letOwnedTupleGo t0 it v
        assign t0 env v
        let mut ok := true
        for c in ([] : List Expr) do
          if ok then ok ← isTrue c env (eval c env)
        if ok then
          let x ← eval i1 env
          standAt i1.pos
          let x ← foldedSetIterable i1 env x
          let _ ← runOwn (.compStart (dc2N kx vx t0 i0 t1 i1 scope pos) 1 (← holding [x] (pyIter x)) (.ref D) env) env
        again (.compLoop (dc2N kx vx t0 i0 t1 i1 scope pos) 0 it (.ref D) env)) := by rfl
  show wpAny _ A ((compTurn (dc2N kx vx t0 i0 t1 i1 scope pos) 0 it (.ref D) env).onRaise (fun x => do noteFrame x env; theTreesLotGoes x)) _ _ s
  refine wpAny_noted ?_
  rw [unf]
  refine wpAny_bind (wpAny_standAt (wpAny_bind (wpAny_mono (turn n s hI) (fun r s₁ q₁ => ?_) fun _ _ z => z.elim)))
  cases r with
  | none => exact wpAny_pure q₁
  | some v =>
    refine wpAny_bind (wpAny_mono q₁ (fun _ s₂ q₂ => wpAny_bind (wpAny_mono q₂ (fun _ s₃ q₃ => ?_) fun _ _ z => z.elim)) fun _ _ z => z.elim)
    refine wpAny_bind (wpAny_tests_nil ?_)
    refine wpAny_bind (wpAny_mono q₃ (fun x s₄ q₄ => wpAny_bind (wpAny_standAt (wpAny_bind (wpAny_of_eq (hs x) (wpAny_bind (wpAny_holding (wpAny_mono q₄ (fun it1 s₅ q₅ => ?_) fun _ _ z => z.elim))))))) fun _ _ z => z.elim)
    refine wpAny_bind (wpAny_runOwn ?_)
    rw [Around.mark_none]
    refine codeAny_mono q₅ fun r s' hr => ?_
    cases r with
    | ok f =>
      first
        | exact wpAny_pure ⟨rfl, hr⟩
        | exact wpAny_bind (wpAny_pure (wpAny_pure ⟨rfl, hr⟩))
    | error e => exact hr.elim
theorem dc2_in (I : Nat → Shared → Prop)
    (turn : ∀ n s, I n s → wpAny (model prog w) A (pyNext it) (fun r s₁ => match r with
      | none => R (.ok .next) s₁
      | some v => wpAny (model prog w) A (letOwnedTupleGo t1 it v) (fun _ s₂ => wpAny (model prog w) A (assign t1 env v) (fun _ s₃ => wpAny (model prog w) A (eval kx env) (fun kv s₄ => wpAny (model prog w) A (eval vx env) (fun vv s₅ =>
          wpAny (model prog w) A (dictSet D kv vv) (fun _ s₆ => ∃ m, m < n ∧ I m s₆) (fun _ _ => False) s₅) (fun _ _ => False) s₄) (fun _ _ => False) s₃) (fun _ _ => False) s₂) (fun _ _ => False) s₁) (fun _ _ => False) s)
    (n : Nat) (h : I n s) : codeAny (model prog w) A (.compLoop (dc2N kx vx t0 i0 t1 i1 scope pos) 1 it (.ref D) env) R s := by
  refine codeAny_loop rfl I (fun n s hI => ?_) n h
  have unf : compTurn (dc2N kx vx t0 i0 t1 i1 scope pos) 1 it (.ref D) env = (do
      standAt i1.pos
      match ← pyNext it with
      | none => pure (.done .next)
      | some v =>
        letOwnedTupleGo t1 it v
        assign t1 env v
        let mut ok := true
        for c in ([] : List Expr) do
          if ok then ok ← isTrue c env (eval c env)
        if ok then
          (do
            let kv ← eval kx env
            let vv ← holding [kv] (eval vx env)
            standAt { kx.pos with endLine := vx.pos.endLine, endCol := vx.pos.endCol }
            holding [kv, vv] (dictSet D kv vv))
        again (.compLoop (dc2N kx vx t0 i0 t1 i1 scope pos) 1 it (.ref D) env)) := by rfl
  show wpAny _ A ((compTurn (dc2N kx vx t0 i0 t1 i1 scope pos) 1 it (.ref D) env).onRaise (fun x => do noteFrame x env; theTreesLotGoes x)) _ _ s
  refine wpAny_noted ?_
  rw [unf]
  refine wpAny_bind (wpAny_standAt (wpAny_bind (wpAny_mono (turn n s hI) (fun r s₁ q₁ => ?_) fun _ _ z => z.elim)))
  cases r with
  | none => exact wpAny_pure q₁
  | some v =>
    refine wpAny_bind (wpAny_mono q₁ (fun _ s₂ q₂ => wpAny_bind (wpAny_mono q₂ (fun _ s₃ q₃ => ?_) fun _ _ z => z.elim)) fun _ _ z => z.elim)
    refine wpAny_bind (wpAny_tests_nil ?_)
    exact wpAny_bind (wpAny_bind (wpAny_mono q₃ (fun kv s₄ q₄ => wpAny_bind (wpAny_holding (wpAny_mono q₄ (fun vv s₅ q₅ => wpAny_bind (wpAny_standAt (wpAny_holding (wpAny_mono q₅ (fun _ s₆ q₆ => wpAny_pure ⟨rfl, q₆⟩) fun _ _ z => z.elim)))) fun _ _ z => z.elim))) fun _ _ z => z.elim))
theorem dc2_start (h0 : codeAny (model prog w) A (.compLoop (dc2N kx vx t0 i0 t1 i1 scope pos) 1 it (.ref D) env) R s)
    (h : wpAny (model prog w) A (pyIter it) (fun it' s' => codeAny (model prog w) A (.compLoop (dc2N kx vx t0 i0 t1 i1 scope pos) 1 it' (.ref D) env) R s') (notedBy (model prog w) A env fun x s' => R (.error x) s') s) :
    codeAny (model prog w) A (.compStart (dc2N kx vx t0 i0 t1 i1 scope pos) 1 it (.ref D) env) R s := by
  refine codeAny_of_tree ?_
  show wpAny _ _ ((compStart (dc2N kx vx t0 i0 t1 i1 scope pos) 1 it (.ref D) env).onRaise (fun x => do noteFrame x env; standAt theWindowsPlace)) _ _ s
  refine wpAny_notedAt ?_
  unfold compStart
  show wpAny _ _ (ask >>= _) _ _ s
  refine wpAny_bind (wpAny_askSetting (wpAny_ite ?_))
  split
  · first
      | exact wpAny_bind (wpAny_pure (wpAny_pure ⟨rfl, h0⟩))
      | exact wpAny_pure ⟨rfl, h0⟩
  · first
      | exact wpAny_bind (wpAny_rule (wpAny_bind (wpAny_standAt (wpAny_bind (wpAny_mono h (fun _ _ q => wpAny_pure ⟨rfl, q⟩) fun _ _ z => z)))))
      | (refine wpAny_bind (wpAny_rule ?_); show wpAny _ _ (standAt i1.pos >>= _) _ _ s; exact wpAny_bind (wpAny_standAt (wpAny_bind (wpAny_mono h (fun _ _ q => wpAny_pure ⟨rfl, q⟩) fun _ _ z => z))))
end
section
variable {X : Cx}
def tDc2 (wi : TI) (g : TG) (wi1 : TI) (g1 : TG) (tk tv : TE) (vs vs1 : List Nat) : TE := fun σ H Q => wi σ H fun J H1 => ∀ D, H1 D = none → ∃ W : Nat → Nat → Hp → Prop, (∃ m, W 0 m (upd H1 D (.dK []))) ∧ ∀ i m H, W i m H →
  (J.stop i H ∧ Q (.ref D) H) ∨ (J.go i H ∧ ∃ Nx : Hp → Prop, (∀ H', Nx H' → ∃ m', m' < m ∧ W (i + 1) m' H') ∧ ∀ x H', J.yld i H x H' → g x (L2.wipe σ vs) H' fun σ2 H2 => L2.wipe σ2 vs = L2.wipe σ vs ∧
    wi1 σ2 H2 fun J1 H4 => ∃ W1 : Nat → Nat → Hp → Prop, (∃ m, W1 0 m H4) ∧ ∀ j k H, W1 j k H →
      (J1.stop j H ∧ Nx H) ∨ (J1.go j H ∧ ∃ Nx1 : Hp → Prop, (∀ H', Nx1 H' → ∃ k', k' < k ∧ W1 (j + 1) k' H') ∧ ∀ x H', J1.yld j H x H' → g1 x (L2.wipe σ2 vs1) H' fun σ3 H5 => L2.wipe σ3 vs1 = L2.wipe σ2 vs1 ∧
        tk σ3 H5 fun y H6 => tv σ3 H6 fun z H7 => ∃ kvs key, y = kV key ∧ H7 D = some (.dK kvs) ∧ kvs.length < sizeLine ∧ Nx1 (upd H7 D (.dK (putK kvs key z)))))
variable {pins : List (Addr × Obj)} {s : Shared} {σ : L2.St} {H : Hp} {Q : VK} {kx vx tg iter tg1 iter1 : Expr} {scope : Scope} {own : List (Str × Nat)} {vs1 : List Nat} {pos pos' : Pos} {wi wi1 : TI} {g g1 : TG} {tk tv : TE} {use : Option (Value → Sem Unit)} {Qf : Value → Shared → Prop}
theorem dc2_core (hc : X.calm = true) (hN : X.N.Nodup) (I : Inv X pins σ H s) (hi : PI X tg iter wi) (ok : BlkOk X.N X.env.scope scope own) (hv : ∀ i ∈ vs1, i ∈ own.map (·.2))
    (hg : ∀ (s : Shared) (H : Hp) (C : Addr) (cl : List (Str × Addr)) (fp : List Addr), PG (X.blk s H scope (compEnvC scope cl C X.env) fp) tg g)
    (hi1 : ∀ (s : Shared) (H : Hp) (C : Addr) (cl : List (Str × Addr)) (fp : List Addr), PI (X.blk s H scope (compEnvC scope cl C X.env) fp) tg1 iter1 wi1)
    (hg1 : ∀ (s : Shared) (H : Hp) (C : Addr) (cl : List (Str × Addr)) (fp : List Addr), PG (X.blk s H scope (compEnvC scope cl C X.env) fp) tg1 g1)
    (hk : ∀ (s : Shared) (H : Hp) (C : Addr) (cl : List (Str × Addr)) (fp : List Addr), PE (X.blk s H scope (compEnvC scope cl C X.env) fp) kx tk) (he : ∀ (s : Shared) (H : Hp) (C : Addr) (cl : List (Str × Addr)) (fp : List Addr), PE (X.blk s H scope (compEnvC scope cl C X.env) fp) vx tv)
    (hs : ∀ x, foldedSetIterable iter X.env x = pure x) (hs1 : ∀ env x, foldedSetIterable iter1 env x = pure x) (h : tDc2 wi g wi1 g1 tk tv (own.map (·.2)) vs1 σ H Q)
    (hRR : ∀ D C s' m H', Inv X pins σ H' s' → Q (.ref D) H' → s'.heap.Ns C m → FpOk X pins H' C → compPost (model X.prog X.w) X.A X.xe use Qf (.ref D) C (.ok .next) s') :
    wpAny (model X.prog X.w) X.A (comprehension (dc2N kx vx tg iter tg1 iter1 scope pos) scope X.env pos' newDict false (eval iter X.env) use) Qf X.xe s := by
  have cells : ∀ y ∈ scope.names, y.2 = .free → ∃ c, X.env.cells.lookup y.1 = some c := fun y hy e => (ok.free y hy e).elim (fun k => I.ok.has _ (.inl k)) fun k => I.ok.has _ (.inr k)
  refine wpAny_comprehension_free (use := use) rfl hs (closure_ok cells) ok.kind (fun y hy e => by rw [ok.uniq y hy, e]) (thn (hi.run pins s σ H _ I h) fun xv s1 hx => thn hx fun itv s2 h2 => ?_)
  obtain ⟨it, fp, tn, J, H2, rfl, I2, T, st2, f2, q⟩ := h2
  refine wpAny_newObj_type (newEnv_comp ?_)
  -- the new dict
  generalize hD : s2.heap.objs.size = D
  obtain ⟨W, ⟨m0, w0⟩, turn⟩ := q D (I2.hok.fresh (Nat.le_of_eq hD))
  generalize hs3 : ({ s2 with heap := s2.heap.push { cls := .type "dict", data := .dict #[] } } : Shared) = s3
  have p3 : s3.heap = s2.heap.push { cls := .type "dict", data := .dict #[] } := by rw [← hs3]
  have I3 : Inv X pins σ (upd H2 D (.dK [])) s3 := by
    rw [← hs3]
    exact I2.laid (t' := s2.toks) (fun b o e => Heap.get?_push_of_some _ e) (Nat.le_of_eq hD) (by rw [← hD]; exact dk_empty s2.heap I2.big)
  have lt2 : ∀ b ∈ fp, b < s2.heap.objs.size := fun b hb => let ⟨_, e, _⟩ := T.obj _ _ st2 b hb; Heap.lt_size e
  have f3 : ∀ b ∈ fp, FpOk X pins (upd H2 D (.dK [])) b ∧ b < s3.heap.objs.size := fun b hb =>
    ⟨⟨(upd_ne (by rw [← hD]; exact Nat.ne_of_lt (lt2 b hb))).trans (f2 b hb).1, (f2 b hb).2⟩, by rw [p3, Heap.size_push]; exact Nat.lt_succ_of_lt (lt2 b hb)⟩
  have st3 : tn 0 s3.heap := T.keep _ _ _ st2 fun b _ o e => by rw [p3]; exact Heap.get?_push_of_some _ e
  have I4 := block_start I3 ok hN f3
  -- the block's own rules
  generalize hcl : cellsFrom (s3.heap.objs.size + 1) scope.names (cloFrom X.env.cells scope.names []) = cl at I4 ⊢
  have pg := hg s3 (upd H2 D (.dK [])) s3.heap.objs.size cl fp
  have pi1 := hi1 s3 (upd H2 D (.dK [])) s3.heap.objs.size cl fp
  have pg1 := hg1 s3 (upd H2 D (.dK [])) s3.heap.objs.size cl fp
  have pk := hk s3 (upd H2 D (.dK [])) s3.heap.objs.size cl fp
  have pv := he s3 (upd H2 D (.dK [])) s3.heap.objs.size cl fp
  show codeAny _ _ (.compStart (dc2N kx vx tg iter tg1 iter1 scope pos) 0 (.ref it) (.ref D) (compEnvC scope cl s3.heap.objs.size X.env)) (compPost (model X.prog X.w) X.A X.xe use Qf (.ref D) s3.heap.objs.size) { s3 with heap := pushCells (s3.heap.push { cls := .type "dict", data := .dict #[] }) scope.names }
  have n3 : ∀ b ∈ fp, (upd H2 D (.dK [])) b = none := fun b hb => (f3 b hb).1.1
  generalize hce : compEnvC scope cl s3.heap.objs.size X.env = ce at I4 pg pi1 pg1 pk pv ⊢
  have cL : ce.locals = s3.heap.objs.size := by rw [← hce]; rfl
  generalize hH3 : upd H2 D (.dK []) = H3 at I3 I4 pg pi1 pg1 pk pv w0 n3 f3
  generalize hs4 : ({ s3 with heap := pushCells (s3.heap.push { cls := .type "dict", data := .dict #[] }) scope.names } : Shared) = s4 at I4 ⊢
  have st4 : tn 0 s4.heap := T.keep _ _ _ st3 fun b _ o e => by rw [← hs4]; exact pushCells_keeps _ _ _ _ (Heap.get?_push_of_some _ e)
  have stat : ∀ {σ' : L2.St} {H' : Hp} {s' : Shared}, Inv (X.blk s3 H3 scope ce fp) [] σ' H' s' → (∀ b ∈ fp, H' b = none) → ∀ b ∈ fp, FpOk (X.blk s3 H3 scope ce fp) [] H' b := fun {σ' H' s'} I' hn b hb =>
    ⟨hn b hb, (I'.ok.exf b hb).1, I'.ok.exfs b hb, .inl hb, fun x c e => (I'.ok.exf b hb).2 x c e, fun p hp => absurd (show p ∈ ([] : List (Addr × Obj)) ++ [] from hp) (by simp)⟩
  -- what the outer loop keeps
  let Out : Nat → Shared → Prop := fun n s' => ∃ i H', Inv (X.blk s3 H3 scope ce fp) [] (L2.wipe σ (own.map (·.2))) H' s' ∧ tn i s'.heap ∧ (∀ b ∈ fp, H' b = none) ∧ W i n H'
  have loop : codeAny (model X.prog X.w) X.A (.compLoop (dc2N kx vx tg iter tg1 iter1 scope pos) 0 (.ref it) (.ref D) ce) (compPost (model X.prog X.w) X.A X.xe use Qf (.ref D) s3.heap.objs.size) s4 := by
    refine dc2_out (hs1 ce) Out ?_ m0 ⟨0, H3, I4, st4, n3, w0⟩
    rintro n s5 ⟨i, H5, I5, st5, n5, w5⟩
    rcases turn i n H5 w5 with ⟨stop, qq⟩ | ⟨go, Nx, hNx, step⟩
    · refine thnF (T.done (X.blk s3 H3 scope ce fp) rfl rfl rfl hc i [] s5 _ H5 (fun _ _ => False) I5 (stat I5 n5) st5 stop) fun r s6 ⟨hr, I6⟩ => ?_
      subst hr
      have I7 : Inv X pins σ H5 s6 := I3.call' (ch := fp) I6.os I6.base I6.hok I6.bare fun b hb => ⟨(f3 b hb).1.2.2.2.1, (f3 b hb).1.2.1, (f3 b hb).1.2.2.2.2.1, (f3 b hb).1.2.2.2.2.2⟩
      have nC : H5 s3.heap.objs.size = none := cL ▸ (show H5 ce.locals = none from I6.free)
      obtain ⟨m, hn, _⟩ := I6.loc
      exact hRR D s3.heap.objs.size s6 m H5 I7 qq (cL ▸ (show s6.heap.Ns ce.locals m from hn)) (I3.fpOk (Nat.le_refl _) nC)
    · refine thnF (T.item (X.blk s3 H3 scope ce fp) rfl rfl rfl hc i [] s5 _ H5 (fun _ _ => False) I5 (stat I5 n5) st5 go) fun r s6 ⟨u, hr, h6⟩ => ?_
      subst hr
      refine thnF h6 fun _ s7 ⟨x, H7, I7, r7, y7, st7, n7⟩ => ?_
      refine thnF (pg.run _ s7 _ H7 x u _ (I7.pinned (stat I7 n7) (T.obj _ _ st7)) r7 (step x H7 y7)) fun _ s8 ⟨σ8, H8, I8, hw8, q8⟩ => ?_
      -- the turn's end
      have fin : ∀ {σ9 : L2.St} {s' : Shared} {H' : Hp}, Inv (X.blk s3 H3 scope ce fp) ([] ++ pinsAt fp s7.heap) σ9 H' s' → (L2.wipe σ (own.map (·.2))).length = σ9.length → (∀ (j : Nat) v, (L2.wipe σ (own.map (·.2)))[j]? = some (some v) → σ9[j]? = some (some v)) → Nx H' → ∃ m, m < n ∧ Out m s' := fun {σ9 s' H'} I' hl hk nx => by
        obtain ⟨m', hm, w'⟩ := hNx H' nx
        have pin' : ∀ b ∈ fp, ∀ o, s7.heap.get? b = some o → s'.heap.get? b = some o ∧ H' b = none := fun b hb o e =>
          have z := I'.pin (b, o) (List.mem_append_right _ (List.mem_append_right _ (mem_pinsAt hb e)))
          ⟨z.1, z.2.1⟩
        exact ⟨m', hm, i + 1, H', (I'.unpinned (pins := [])).weak hl hk, T.keep _ _ _ st7 fun b hb o e => (pin' b hb o e).1, fun b hb => let ⟨o, e, _⟩ := T.obj _ _ st7 b hb; (pin' b hb o e).2, w'⟩
      have hl8 : (L2.wipe σ (own.map (·.2))).length = σ8.length := by rw [← hw8, L2.wipe_length]
      have hk9 : ∀ (j : Nat) v, (L2.wipe σ (own.map (·.2)))[j]? = some (some v) → (L2.wipe σ8 vs1)[j]? = some (some v) := fun j v e => by
        rw [← hw8] at e
        obtain ⟨a1, a2⟩ := L2.wipe_some e
        rw [L2.wipe_out fun z => a2 (hv j z)]
        exact a1
      -- the inner source
      refine thnF (pi1.run _ s8 σ8 H8 _ I8 q8) fun xv s10 hx => thnF hx fun itv s11 h11 => ?_
      obtain ⟨it1, fp1, tn1, J1, H11, rfl, I11, T1, st11, f11, W1, ⟨m1, w1⟩, turn1⟩ := h11
      let In : Nat → Shared → Prop := fun k s' => ∃ j H', Inv (X.blk s3 H3 scope ce fp) ([] ++ pinsAt fp s7.heap) (L2.wipe σ8 vs1) H' s' ∧ tn1 j s'.heap ∧ (∀ b ∈ fp1, H' b = none) ∧ W1 j k H'
      have stat1 : ∀ {H' : Hp}, (∀ b ∈ fp1, H' b = none) → ∀ b ∈ fp1, FpOk (X.blk s3 H3 scope ce fp) ([] ++ pinsAt fp s7.heap) H' b := fun hn b hb => ⟨hn b hb, (f11 b hb).2⟩
      have loop1 : codeAny (model X.prog X.w) X.A (.compLoop (dc2N kx vx tg iter tg1 iter1 scope pos) 1 (.ref it1) (.ref D) ce) (fun r s' => match r with
          | .ok _ => ∃ m, m < n ∧ Out m s'
          | .error _ => False) s11 := by
        refine dc2_in In ?_ m1 ⟨0, H11, I11.weak (L2.wipe_length _ _) (fun j v e => (L2.wipe_some e).1), st11, fun b hb => (f11 b hb).1, w1⟩
        rintro k s12 ⟨j, H12, I12, st12, n12, w12⟩
        rcases turn1 j k H12 w12 with ⟨stop1, nx1⟩ | ⟨go1, Nx1, hNx1, step1⟩
        · refine thnF (T1.done (X.blk s3 H3 scope ce fp) rfl rfl rfl hc j _ s12 (L2.wipe σ8 vs1) H12 (fun _ _ => False) I12 (stat1 n12) st12 stop1) fun r s13 ⟨hr, I13⟩ => ?_
          subst hr
          exact fin I13 (hl8.trans (L2.wipe_length σ8 vs1).symm) hk9 nx1
        · refine thnF (T1.item (X.blk s3 H3 scope ce fp) rfl rfl rfl hc j _ s12 (L2.wipe σ8 vs1) H12 (fun _ _ => False) I12 (stat1 n12) st12 go1) fun r s13 ⟨u1, hr, h13⟩ => ?_
          subst hr
          refine thnF h13 fun _ s14 ⟨x1, H14, I14, r14, y14, st14, n14⟩ => ?_
          refine thnF (pg1.run _ s14 (L2.wipe σ8 vs1) H14 x1 u1 _ (I14.pinned (stat1 n14) (T1.obj _ _ st14)) r14 (step1 x1 H14 y14)) fun _ s15 ⟨σ15, H15, I15, hw15, q15⟩ => ?_
          have fin1 : ∀ {s' : Shared} {H' : Hp}, Inv (X.blk s3 H3 scope ce fp) (([] ++ pinsAt fp s7.heap) ++ pinsAt fp1 s14.heap) σ15 H' s' → Nx1 H' → ∃ m, m < k ∧ In m s' := fun {s' H'} I' nx => by
            obtain ⟨m', hm, w'⟩ := hNx1 H' nx
            have pin' : ∀ b ∈ fp1, ∀ o, s14.heap.get? b = some o → s'.heap.get? b = some o ∧ H' b = none := fun b hb o e =>
              have z := I'.pin (b, o) (List.mem_append_right _ (List.mem_append_right _ (mem_pinsAt hb e)))
              ⟨z.1, z.2.1⟩
            exact ⟨m', hm, j + 1, H', I'.unpinned.weak (by rw [← hw15, L2.wipe_length]) (fun j v e => by rw [← hw15] at e; exact (L2.wipe_some e).1), T1.keep _ _ _ st14 fun b hb o e => (pin' b hb o e).1, fun b hb => let ⟨o, e, _⟩ := T1.obj _ _ st14 b hb; (pin' b hb o e).2, w'⟩
          refine thnF (pk.run _ s15 σ15 H15 _ I15 q15) fun z s16 ⟨yk, H16, I16, r16, q16⟩ => ?_
          refine thnF (pv.run _ s16 σ15 H16 _ I16 q16) fun z2 s17 ⟨yv, H17, I17, r17, kvs, key, ek, hD17, hz17, nx⟩ => ?_
          subst ek
          exact d_dictSet (X := X.blk s3 H3 scope ce fp) I17 hD17 hz17 r16 r17 fun s18 I18 => fin1 I18 nx
      exact dc2_start loop1 (T1.self X.A 0 _ _ _ st11 loop1)
  exact codeAny_compStart_dict loop (T.self X.A 0 _ _ _ st4 loop)
theorem pe_dc2 (hc : X.calm = true) (hN : X.N.Nodup) (hi : PI X tg iter wi) (ok : BlkOk X.N X.env.scope scope own) (hv : ∀ i ∈ vs1, i ∈ own.map (·.2))
    (hg : ∀ (s : Shared) (H : Hp) (C : Addr) (cl : List (Str × Addr)) (fp : List Addr), PG (X.blk s H scope (compEnvC scope cl C X.env) fp) tg g)
    (hi1 : ∀ (s : Shared) (H : Hp) (C : Addr) (cl : List (Str × Addr)) (fp : List Addr), PI (X.blk s H scope (compEnvC scope cl C X.env) fp) tg1 iter1 wi1)
    (hg1 : ∀ (s : Shared) (H : Hp) (C : Addr) (cl : List (Str × Addr)) (fp : List Addr), PG (X.blk s H scope (compEnvC scope cl C X.env) fp) tg1 g1)
    (hk : ∀ (s : Shared) (H : Hp) (C : Addr) (cl : List (Str × Addr)) (fp : List Addr), PE (X.blk s H scope (compEnvC scope cl C X.env) fp) kx tk) (he : ∀ (s : Shared) (H : Hp) (C : Addr) (cl : List (Str × Addr)) (fp : List Addr), PE (X.blk s H scope (compEnvC scope cl C X.env) fp) vx tv)
    (hs : ∀ x, foldedSetIterable iter X.env x = pure x := by intro _; rfl) (hs1 : ∀ env x, foldedSetIterable iter1 env x = pure x := by intro _ _; rfl) :
    PE X (dc2N kx vx tg iter tg1 iter1 scope pos) (tDc2 wi g wi1 g1 tk tv (own.map (·.2)) vs1) := by
  constructor
  intro pins s σ H Q I h
  rw [arm_eval_DictComp]
  refine dc2_core hc hN I hi ok hv hg hi1 hg1 hk he hs hs1 h fun D C s' m H' I' q hn f => ⟨m, hn, fun h'' sb => ?_⟩
  exact ⟨.ref D, H', I'.turned (t' := s'.toks) (fun b o hb e => (sb.2 b hb).trans e) f.1 f.2.1 f.2.2.2.1 f.2.2.2.2.1 f.2.2.2.2.2, rfl, q⟩
end
end DL
set_option maxRecDepth 100000
set_option maxHeartbeats 1000000
namespace DL
open PySem PySem.Spec PyProof.Rows L2
def dc2L (k : TM) (i1 : Nat) (k1 : TM) (fk fv : EM) (vs1 : List Nat) (ρ : Env) : List D → List (D × D) → Hh → Option (List (D × D) × Hh)
  | [], es, h => some (es, h)
  | d :: ds, es, h => match k (.dat d) ρ h with
    | some ρ1 => match datL ρ1[i1]? with
      | some ds1 => obnd (dcL k1 bYes fk fv (wipeE ρ1 vs1) ds1 es h) fun es' h3 => dc2L k i1 k1 fk fv vs1 ρ ds es' h3
      | none => none
    | none => none
def fDc2 (m : Bool) (gi : IM) (k : TM) (i1 : Nat) (k1 : TM) (fk fv : EM) (vs vs1 : List Nat) : EM := fun ρ h => obnd (gi ρ h) fun ds h1 => obnd (dc2L k i1 k1 fk fv vs1 (wipeE ρ vs) ds [] h1) fun es h2 => mkK m es h2
theorem dc2_imp {K : PySem.W.Frag} {gi : IM} {k : TM} {i1 : Nat} {k1 : TM} {fk fv : EM} {ts ts1 vs vs1 : List Nat} {m : Bool} (hs : ∀ j ∈ ts, j ∈ vs) (hs1 : ∀ j ∈ ts1, j ∈ vs1) (hi1 : i1 ∉ vs1) :
    ∀ σ H Q, tE (fDc2 m gi k i1 k1 fk fv vs vs1) σ H Q → tDc2 (tI gi) (tGd ts k) (iV K i1) (tGd ts1 k1) (tE fk) (tE fv) vs vs1 σ H Q := fun σ H Q => by
  rintro ⟨M, h, ρ, r, rs, c⟩
  obtain ⟨ds, h1, e1, c1⟩ := Cont.bind (δ := Unit) c
  refine ⟨M, h, ρ, ds, h1, r, rs, e1, fun M1 H1 J x1 r1 it D nD => ?_⟩
  obtain ⟨out, h2, e2, c2⟩ := Cont.bind (δ := Unit) (c1 M1 H1 x1)
  have x0 := ext_made (M := M1) (o := .dK []) nD
  have r0 := r1.make (o := .dK []) nD
  have rs0 : RS (M1.made D) (upd H1 D (.dK [])) (wipeE ρ vs) (L2.wipe σ vs) := ((rs.mono x1).moveu x0 rfl).wipe vs
  let P : Nat → Hp → Prop := fun i Hi => ∃ mi hi acc dacc, ExtE M1 ⟨M1.u, mi⟩ H1 Hi ∧ Rep ⟨D :: M1.u, mi⟩ Hi hi ∧ RS ⟨D :: M1.u, mi⟩ Hi (wipeE ρ vs) (L2.wipe σ vs) ∧ Hi D = some (.dK acc) ∧ RDk ⟨D :: M1.u, mi⟩ Hi acc dacc ∧ dc2L k i1 k1 fk fv vs1 (wipeE ρ vs) (ds.drop i) dacc hi = some (out, h2)
  refine ⟨fun i n Hi => n + i = ds.length ∧ P i Hi, ⟨ds.length, by omega, M1.m, h1, [], [], (ExtE.refl M1 H1).beside nD, r0, rs0, upd_same, .nil, by rw [List.drop_zero]; exact e2⟩, fun i n Hi w => ?_⟩
  obtain ⟨hn, mi, hi, acc, dacc, xi, ri, rsi, hD, qa, el⟩ := w
  have inD : D ∈ (⟨D :: M1.u, mi⟩ : Mm).u := List.mem_cons_self
  obtain ⟨ity, its⟩ := it _ Hi (xi.into nD) fun a ha => ri.tracked ha
  by_cases hlt : i < ds.length
  · refine .inr ?_
    obtain ⟨go, yl⟩ := ity i _ (List.getElem?_eq_getElem hlt)
    rw [List.drop_eq_getElem_cons hlt] at el
    refine ⟨go, P (i + 1), fun H' p => ⟨n - 1, by omega, by omega, p⟩, fun x H2 hy => ?_⟩
    obtain ⟨sm, rx⟩ := yl x H2 hy
    obtain ⟨ri2, xi2⟩ := ri.grow sm
    unfold dc2L at el
    split at el
    · rename_i ρ1 ek
      refine ⟨_, hi, wipeE ρ vs, .dat ds[i], ρ1, ri2, rsi.mono xi2, rx, ek, fun σ2 rs2 l2 o2 => ⟨wipe_of (by rw [l2, L2.wipe_length]) o2 hs, ?_⟩⟩
      split at el
      · rename_i ds1 ed1
        cases er1 : dcL k1 bYes fk fv (wipeE ρ1 vs1) ds1 dacc hi with
        | none => rw [er1] at el; cases el
        | some pr =>
          obtain ⟨out1, h4⟩ := pr
          rw [er1] at el
          simp only [obnd_some] at el
          have hD2 : H2 D = some (.dK acc) := sm _ _ hD
          have xi3 : ExtE M1 ⟨M1.u, mi⟩ H1 H2 := xi.trans (xi2.reu M1.u)
          obtain ⟨a, J1, ea, hR, hit⟩ := datL_it (K := K) rs2 ed1
          refine hR _ ?_
          let P1 : Nat → Hp → Prop := fun j Hj => ∃ mj hj ac dac, ExtE M1 ⟨M1.u, mj⟩ H1 Hj ∧ Rep ⟨D :: M1.u, mj⟩ Hj hj ∧ RS ⟨D :: M1.u, mj⟩ Hj (wipeE ρ vs) (L2.wipe σ vs) ∧ RS ⟨D :: M1.u, mj⟩ Hj (wipeE ρ1 vs1) (L2.wipe σ2 vs1) ∧ Hj D = some (.dK ac) ∧ RDk ⟨D :: M1.u, mj⟩ Hj ac dac ∧ dcL k1 bYes fk fv (wipeE ρ1 vs1) (ds1.drop j) dac hj = some (out1, h4)
          refine ⟨fun j n Hj => n + j = ds1.length ∧ P1 j Hj, ⟨ds1.length, by omega, mi, hi, acc, dacc, xi3, ri2, rsi.mono xi2, rs2.wipe vs1, hD2, qa.mono xi2.ext, by rw [List.drop_zero]; exact er1⟩, fun j n1 Hj w1 => ?_⟩
          obtain ⟨hn1, mj, hj, ac, dac, xj, rj, rsj, rsk, hDj, qj, elj⟩ := w1
          have inDj : D ∈ (⟨D :: M1.u, mj⟩ : Mm).u := List.mem_cons_self
          obtain ⟨ity1, its1⟩ := hit _ Hj _ _ rsk (wipeE_out hi1) (L2.wipe_out hi1) _ Hj (Ext.refl _ _) fun a ha => rj.tracked ha
          by_cases hlt1 : j < ds1.length
          · refine .inr ?_
            obtain ⟨go1, yl1⟩ := ity1 j _ (List.getElem?_eq_getElem hlt1)
            rw [List.drop_eq_getElem_cons hlt1] at elj
            refine ⟨go1, P1 (j + 1), fun H' p => ⟨n1 - 1, by omega, by omega, p⟩, fun x1' H6 hy1 => ?_⟩
            obtain ⟨sm1, rx1⟩ := yl1 x1' H6 hy1
            obtain ⟨rj2, xj2⟩ := rj.grow sm1
            unfold dcL at elj
            split at elj
            · rename_i ρ2 ek1
              refine ⟨_, hj, wipeE ρ1 vs1, .dat ds1[j], ρ2, rj2, rsk.mono xj2, rx1, ek1, fun σ3 rs4 l4 o4 => ⟨wipe_of (by rw [l4, L2.wipe_length]) o4 hs1, ?_⟩⟩
              simp only [bYes, obnd_some, if_true] at elj
              have hD6 : H6 D = some (.dK ac) := sm1 _ _ hDj
              cases ef : fk ρ2 hj with
              | none => rw [ef] at elj; cases elj
              | some pr =>
                obtain ⟨w, h6⟩ := pr
                rw [ef] at elj
                simp only [obnd_some] at elj
                refine ⟨_, hj, ρ2, rj2, rs4, w, h6, ef, fun M7 H8 y x7 r7 ry => ?_⟩
                obtain ⟨u7, m7⟩ := M7
                obtain rfl : u7 = D :: M1.u := x7.same
                have hD7 : H8 D = some (.dK ac) := x7.stab _ _ hD6 fun z => (rj2.us D List.mem_cons_self).1 z
                cases eg : fv ρ2 h6 with
                | none => rw [eg] at elj; cases elj
                | some pr =>
                  obtain ⟨w', h7⟩ := pr
                  rw [eg] at elj
                  simp only [obnd_some] at elj
                  refine ⟨_, h6, ρ2, r7, rs4.mono x7, w', h7, eg, fun M8 H9 z x8 r8 rz => ?_⟩
                  obtain ⟨u8, m8⟩ := M8
                  obtain rfl : u8 = D :: M1.u := x8.same
                  have hD8 : H9 D = some (.dK ac) := x8.stab _ _ hD7 fun z => (r7.us D List.mem_cons_self).1 z
                  split at elj
                  · rename_i kd d'
                    split at elj
                    · rename_i key ekey
                      split at elj
                      · rename_i hz
                        have := kP_dKey ekey
                        subst this
                        have ry' : RD ⟨D :: M1.u, m8⟩ H9 y (kP key) := (show RD _ _ y _ from ry).mono x8.ext
                        have q8 := ((qj.mono xj2.ext).mono x7.ext).mono x8.ext
                        have in8 : D ∈ (⟨D :: M1.u, m8⟩ : Mm).u := List.mem_cons_self
                        have xj8 : ExtE M1 ⟨M1.u, m8⟩ H1 H9 := xj.trans (((xj2.trans x7).trans x8).reu M1.u)
                        exact ⟨ac, key, rd_kP ry', hD8, by rw [qj.length]; exact hz, m8, h7, _, putK' dac key d', xj8.beside nD, r8.off in8, (((rsj.mono xj2).mono x7).mono x8).off in8, (((rsk.mono xj2).mono x7).mono x8).off in8, upd_same, (q8.put key rz).off in8, elj⟩
                      · cases elj
                    · cases elj
                  · cases elj
            · cases elj
          · refine .inl ?_
            have hj' : j = ds1.length := by omega
            subst hj'
            rw [List.drop_length] at elj
            cases elj
            exact ⟨its1, mj, _, ac, _, xj, rj, rsj, hDj, qj, el⟩
      · cases el
    · cases el
  · refine .inl ?_
    have hi' : i = ds.length := by omega
    subst hi'
    rw [List.drop_length] at el
    cases el
    refine ⟨its, ?_⟩
    have c3 := c2 M1 H1 (.refl _ _)
    have nu : D ∉ M1.u := fun z => r1.new nD (.inl z)
    have nm : some D ∉ mi := (ri.us D inD).1
    cases m with
    | false => exact c3.fin xi ri.told (RD.dic (fun z => z.elim nu nm) hD (qa.sub less_has))
    | true =>
      refine c3.fin (M' := ⟨M1.u, mi ++ [some D]⟩) ⟨rfl, xi.trk, xi.stab, fun a z => ?_, Nat.le_trans xi.len (by simp), fun j hj => ?_⟩ (ri.owned nu ⟨acc, hD, qa⟩) ⟨D, ?_, rfl⟩
      · rcases List.mem_append.mp z with z | z
        · exact xi.fresh a z
        · have : a = D := by simpa using z
          rw [this]; exact .inr nD
      · have hl : j < mi.length := Nat.lt_of_lt_of_le hj xi.len
        show (mi ++ [some D])[j]? = _
        rw [List.getElem?_append_left hl]; exact xi.pre j hj
      · show (mi ++ [some D])[h2.length]? = _
        rw [← show mi.length = h2.length from ri.len]; simp
section
variable {X : Cx}
theorem d_dc2 (m : Bool) (i1 : Nat) {kx vx tg iter tg1 : Expr} {x1 : Str} {px : Pos} {scope : Scope} {own : List (Str × Nat)} {vs1 : List Nat} {pos : Pos} {gi : IM} {ts ts1 : List Nat} {k k1 : TM} {fk fv : EM} (hc : X.calm = true) (hN : X.N.Nodup) (hi : DI X tg iter gi) (ok : BlkOk X.N X.env.scope scope own)
    (hg : ∀ (s : Shared) (H : Hp) (C : Addr) (cl : List (Str × Addr)) (fp : List Addr), DG (X.blk s H scope (compEnvC scope cl C X.env) fp) tg ts k)
    (hv1 : ∀ (s : Shared) (H : Hp) (C : Addr) (cl : List (Str × Addr)) (fp : List Addr), PE (X.blk s H scope (compEnvC scope cl C X.env) fp) (.Name x1 px) (tVar i1))
    (hg1 : ∀ (s : Shared) (H : Hp) (C : Addr) (cl : List (Str × Addr)) (fp : List Addr), DG (X.blk s H scope (compEnvC scope cl C X.env) fp) tg1 ts1 k1)
    (hk : ∀ (s : Shared) (H : Hp) (C : Addr) (cl : List (Str × Addr)) (fp : List Addr), DE (X.blk s H scope (compEnvC scope cl C X.env) fp) kx fk) (he : ∀ (s : Shared) (H : Hp) (C : Addr) (cl : List (Str × Addr)) (fp : List Addr), DE (X.blk s H scope (compEnvC scope cl C X.env) fp) vx fv)
    (hsub : ∀ j ∈ ts, j ∈ own.map (·.2)) (hsub1 : ∀ j ∈ ts1, j ∈ vs1) (hi1 : i1 ∉ vs1) (hv : ∀ i ∈ vs1, i ∈ own.map (·.2)) (hs : ∀ x, foldedSetIterable iter X.env x = pure x := by intro _; rfl) (hs1 : ∀ env x, foldedSetIterable (.Name x1 px) env x = pure x := by intro _ _; rfl) :
    DE X (.DictComp kx vx [⟨tg, iter, [], 0⟩, ⟨tg1, .Name x1 px, [], 0⟩] scope pos) (fDc2 m gi k i1 k1 fk fv (own.map (·.2)) vs1) :=
  (pe_dc2 hc hN hi ok hv hg (fun s H C cl fp => (pi_list (hv1 s H C cl fp)).or (pi_tup (hv1 s H C cl fp))) hg1 hk he hs hs1).weak (dc2_imp (K := X.K) hsub hsub1 hi1)
end
end DL
set_option maxRecDepth 100000
set_option maxHeartbeats 1000000
namespace DL
open PySem PySem.Spec PyProof.Rows L2
def datE (w : W) : Option (List D) := match w with
  | .dat (.list ds) => some ds
  | .dat (.tuple ds) => some ds
  | _ => none
def lc2EL (k : TM) (t : BM) (f1 : EM) (k1 : TM) (t1 : BM) (f : EM) (vs1 : List Nat) (ρ : Env) : List D → Hh → Option (List D × Hh)
  | [], h => some ([], h)
  | d :: ds, h => match k (.dat d) ρ h with
    | some ρ1 => obnd (t ρ1 h) fun b h2 => if b = true then obnd (f1 ρ1 h2) fun w h2' => match datE w with
        | some ds1 => obnd (lcL k1 t1 f (wipeE ρ1 vs1) ds1 h2') fun r1 h3 => obnd (lc2EL k t f1 k1 t1 f vs1 ρ ds h3) fun r h4 => some (r1 ++ r, h4)
        | none => none
      else lc2EL k t f1 k1 t1 f vs1 ρ ds h2
    | none => none
def fLc2E (m : Bool) (gi : IM) (k : TM) (t : BM) (f1 : EM) (k1 : TM) (t1 : BM) (f : EM) (vs vs1 : List Nat) : EM := fun ρ h => obnd (gi ρ h) fun ds h1 => obnd (lc2EL k t f1 k1 t1 f vs1 (wipeE ρ vs) ds h1) fun r h2 => if r.length ≤ sizeLine then mkL m r h2 else none
def iE (K : PySem.W.Frag) (f1 : EM) : TI := fun σ H R => iList K (tE f1) σ H R ∨ iTup K (tE f1) σ H R
theorem datE_it {K : PySem.W.Frag} {M : Mm} {H : Hp} {h h' : Hh} {ρ : Env} {σ : L2.St} {f1 : EM} {w : W} {ds1 : List D} {R : It → Hp → Prop} (r : Rep M H h) (rs : RS M H ρ σ) (e : f1 ρ h = some (w, h')) (ed : datE w = some ds1)
    (hr : ∀ (M4 : Mm) (H4 : Hp) (v : V) (J : It), ExtE M M4 H H4 → Rep M4 H4 h' → RV M4 H4 v w → (∀ (M5 : Mm) (H5 : Hp), RV M5 H5 v w → ItD M5 H5 J ds1) → R J H4) : iE K f1 σ H R := by
  unfold datE at ed
  split at ed
  · cases ed
    refine .inl ⟨M, h, ρ, r, rs, _, h', e, fun M4 H4 v x4 r4 rv => ?_⟩
    cases (show RD M4 H4 v _ from rv) with
    | lst n ha qa =>
      rename_i a xs
      refine ⟨a, rfl, ⟨_, .of ha⟩, hr M4 H4 (.ref a) (Itl K a) x4 r4 (RD.lst n ha qa) fun M5 H5 r5 => ?_⟩
      cases (show RD M5 H5 (.ref a) (.list ds1) from r5) with
      | lst n1 ha1 qa1 => exact itd_list n1 ha1 qa1
  · cases ed
    refine .inr ⟨M, h, ρ, r, rs, _, h', e, fun M4 H4 v x4 r4 rv => ?_⟩
    cases (show RD M4 H4 v _ from rv) with
    | tup n ha qa =>
      rename_i a xs
      refine ⟨a, rfl, ⟨_, ha.sq⟩, hr M4 H4 (.ref a) (Itt K a) x4 r4 rv fun M5 H5 r5 => ?_⟩
      cases (show RD M5 H5 (.ref a) (.tuple ds1) from r5) with
      | tup n1 ha1 qa1 => exact itd_tup n1 ha1 qa1
  · cases ed
theorem lc2E_imp {K : PySem.W.Frag} {gi : IM} {k : TM} {t : BM} {f1 : EM} {k1 : TM} {t1 : BM} {f : EM} {ts ts1 vs vs1 : List Nat} {m : Bool} (hs : ∀ j ∈ ts, j ∈ vs) (hs1 : ∀ j ∈ ts1, j ∈ vs1) :
    ∀ σ H Q, tE (fLc2E m gi k t f1 k1 t1 f vs vs1) σ H Q → tLc2 (tI gi) (tGd ts k) (tT t) (iE K f1) (tGd ts1 k1) (tT t1) (tE f) vs vs1 σ H Q := fun σ H Q => by
  rintro ⟨M, h, ρ, r, rs, c⟩
  obtain ⟨ds, h1, e1, c1⟩ := Cont.bind (δ := Unit) c
  refine ⟨M, h, ρ, ds, h1, r, rs, e1, fun M1 H1 J x1 r1 it D nD => ?_⟩
  obtain ⟨out, h2, e2, c2⟩ := Cont.bind (δ := Unit) (c1 M1 H1 x1)
  have x0 := ext_made (M := M1) (o := .lst []) nD
  have r0 := r1.make (o := .lst []) nD
  have rs0 : RS (M1.made D) (upd H1 D (.lst [])) (wipeE ρ vs) (L2.wipe σ vs) := ((rs.mono x1).moveu x0 rfl).wipe vs
  let P : Nat → Hp → Prop := fun i Hi => ∃ mi hi acc dacc rest, ExtE M1 ⟨M1.u, mi⟩ H1 Hi ∧ Rep ⟨D :: M1.u, mi⟩ Hi hi ∧ RS ⟨D :: M1.u, mi⟩ Hi (wipeE ρ vs) (L2.wipe σ vs) ∧ Hi D = some (.lst acc) ∧ RDs ⟨D :: M1.u, mi⟩ Hi acc dacc ∧ lc2EL k t f1 k1 t1 f vs1 (wipeE ρ vs) (ds.drop i) hi = some (rest, h2) ∧ dacc ++ rest = out
  have outlen : out.length ≤ sizeLine := by
    have c3 := c2 M1 H1 (.refl _ _)
    by_cases hz : out.length ≤ sizeLine
    · exact hz
    · rw [if_neg hz] at c3; exact c3.no.elim
  refine ⟨fun i n Hi => n + i = ds.length ∧ P i Hi, ⟨ds.length, by omega, M1.m, h1, [], [], out, (ExtE.refl M1 H1).beside nD, r0, rs0, upd_same, .nil, by rw [List.drop_zero]; exact e2, rfl⟩, fun i n Hi w => ?_⟩
  obtain ⟨hn, mi, hi, acc, dacc, rest, xi, ri, rsi, hD, qa, el, eo⟩ := w
  have inD : D ∈ (⟨D :: M1.u, mi⟩ : Mm).u := List.mem_cons_self
  obtain ⟨ity, its⟩ := it _ Hi (xi.into nD) fun a ha => ri.tracked ha
  by_cases hlt : i < ds.length
  · refine .inr ?_
    obtain ⟨go, yl⟩ := ity i _ (List.getElem?_eq_getElem hlt)
    rw [List.drop_eq_getElem_cons hlt] at el
    refine ⟨go, P (i + 1), fun H' p => ⟨n - 1, by omega, by omega, p⟩, fun x H2 hy => ?_⟩
    obtain ⟨sm, rx⟩ := yl x H2 hy
    obtain ⟨ri2, xi2⟩ := ri.grow sm
    unfold lc2EL at el
    split at el
    · rename_i ρ1 ek
      refine ⟨_, hi, wipeE ρ vs, .dat ds[i], ρ1, ri2, rsi.mono xi2, rx, ek, fun σ2 rs2 l2 o2 => ⟨wipe_of (by rw [l2, L2.wipe_length]) o2 hs, ?_⟩⟩
      cases et : t ρ1 hi with
      | none => rw [et] at el; cases el
      | some pr =>
        obtain ⟨b, h3⟩ := pr
        rw [et] at el
        simp only [obnd_some] at el
        refine ⟨_, hi, ρ1, ri2, rs2, b, h3, et, fun M3 H3 b' x3 r3 eb => ?_⟩
        subst eb
        obtain ⟨u3, m3⟩ := M3
        obtain rfl : u3 = D :: M1.u := x3.same
        have xi3 : ExtE M1 ⟨M1.u, m3⟩ H1 H3 := xi.trans ((xi2.trans x3).reu M1.u)
        have hD3 : H3 D = some (.lst acc) := x3.stab _ _ (sm _ _ hD) fun z => (ri.us D inD).1 z
        cases b' with
        | false =>
          simp only [Bool.false_eq_true, if_false] at el
          exact iteF ⟨m3, h3, acc, dacc, rest, xi3, r3, (rsi.mono xi2).mono x3, hD3, (qa.mono xi2.ext).mono x3.ext, el, eo⟩
        | true =>
          simp only [if_true] at el
          refine iteT ?_
          cases ef1 : f1 ρ1 h3 with
          | none => rw [ef1] at el; cases el
          | some pr =>
          obtain ⟨w1, h3'⟩ := pr
          rw [ef1] at el
          simp only [obnd_some] at el
          split at el
          · rename_i ds1 ed1
            cases er1 : lcL k1 t1 f (wipeE ρ1 vs1) ds1 h3' with
            | none => rw [er1] at el; cases el
            | some pr =>
              obtain ⟨out1, h4⟩ := pr
              rw [er1] at el
              simp only [obnd_some] at el
              cases er : lc2EL k t f1 k1 t1 f vs1 (wipeE ρ vs) (ds.drop (i + 1)) h4 with
              | none => rw [er] at el; cases el
              | some pr =>
                obtain ⟨rest', h5⟩ := pr
                rw [er] at el
                simp only [obnd_some, Option.some.injEq, Prod.mk.injEq] at el
                obtain ⟨e5, e6⟩ := el
                subst e5 e6
                have rs3 := rs2.mono x3
                refine datE_it (K := K) (w := w1) (ds1 := ds1) r3 rs3 ef1 ed1 fun M4 H4 v J1 x4 r4 rv4 hit => ?_
                obtain ⟨u4, m4⟩ := M4
                obtain rfl : u4 = D :: M1.u := x4.same
                have xi4 : ExtE M1 ⟨M1.u, m4⟩ H1 H4 := xi3.trans (x4.reu M1.u)
                have hD4 : H4 D = some (.lst acc) := x4.stab _ _ hD3 fun z => (r3.us D List.mem_cons_self).1 z
                let P1 : Nat → Hp → Prop := fun j Hj => ∃ mj hj ac dac rst, ExtE M1 ⟨M1.u, mj⟩ H1 Hj ∧ Rep ⟨D :: M1.u, mj⟩ Hj hj ∧ RS ⟨D :: M1.u, mj⟩ Hj (wipeE ρ vs) (L2.wipe σ vs) ∧ RS ⟨D :: M1.u, mj⟩ Hj (wipeE ρ1 vs1) (L2.wipe σ2 vs1) ∧ RV ⟨D :: M1.u, mj⟩ Hj v w1 ∧ Hj D = some (.lst ac) ∧ RDs ⟨D :: M1.u, mj⟩ Hj ac dac ∧ lcL k1 t1 f (wipeE ρ1 vs1) (ds1.drop j) hj = some (rst, h4) ∧ dac ++ (rst ++ rest') = out
                refine ⟨fun j n Hj => n + j = ds1.length ∧ P1 j Hj, ⟨ds1.length, by omega, m4, h3', acc, dacc, out1, xi4, r4, ((rsi.mono xi2).mono x3).mono x4, (rs3.mono x4).wipe vs1, rv4, hD4, ((qa.mono xi2.ext).mono x3.ext).mono x4.ext, by rw [List.drop_zero]; exact er1, eo⟩, fun j n1 Hj wj => ?_⟩
                obtain ⟨hn1, mj, hj, ac, dac, rst, xj, rj, rsj, rsk, rvj, hDj, qj, elj, eoj⟩ := wj
                have inDj : D ∈ (⟨D :: M1.u, mj⟩ : Mm).u := List.mem_cons_self
                obtain ⟨ity1, its1⟩ := hit _ Hj rvj _ Hj (Ext.refl _ _) fun a ha => rj.tracked ha
                by_cases hlt1 : j < ds1.length
                · refine .inr ?_
                  obtain ⟨go1, yl1⟩ := ity1 j _ (List.getElem?_eq_getElem hlt1)
                  rw [List.drop_eq_getElem_cons hlt1] at elj
                  refine ⟨go1, P1 (j + 1), fun H' p => ⟨n1 - 1, by omega, by omega, p⟩, fun x1' H6 hy1 => ?_⟩
                  obtain ⟨sm1, rx1⟩ := yl1 x1' H6 hy1
                  obtain ⟨rj2, xj2⟩ := rj.grow sm1
                  unfold lcL at elj
                  split at elj
                  · rename_i ρ2 ek1
                    refine ⟨_, hj, wipeE ρ1 vs1, .dat ds1[j], ρ2, rj2, rsk.mono xj2, rx1, ek1, fun σ3 rs4 l4 o4 => ⟨wipe_of (by rw [l4, L2.wipe_length]) o4 hs1, ?_⟩⟩
                    cases et1 : t1 ρ2 hj with
                    | none => rw [et1] at elj; cases elj
                    | some pr =>
                      obtain ⟨b1, h6⟩ := pr
                      rw [et1] at elj
                      simp only [obnd_some] at elj
                      refine ⟨_, hj, ρ2, rj2, rs4, b1, h6, et1, fun M6 H7 b1' x6 r6 eb1 => ?_⟩
                      subst eb1
                      obtain ⟨u6, m6⟩ := M6
                      obtain rfl : u6 = D :: M1.u := x6.same
                      have xj6 : ExtE M1 ⟨M1.u, m6⟩ H1 H7 := xj.trans ((xj2.trans x6).reu M1.u)
                      have hD6 : H7 D = some (.lst ac) := x6.stab _ _ (sm1 _ _ hDj) fun z => (rj.us D inDj).1 z
                      cases b1' with
                      | false =>
                        simp only [Bool.false_eq_true, if_false] at elj
                        exact iteF ⟨m6, h6, ac, dac, rst, xj6, r6, (rsj.mono xj2).mono x6, (rsk.mono xj2).mono x6, (rvj.mono xj2).mono x6, hD6, (qj.mono xj2.ext).mono x6.ext, elj, eoj⟩
                      | true =>
                        simp only [if_true] at elj
                        refine iteT ?_
                        cases ef : f ρ2 h6 with
                        | none => rw [ef] at elj; cases elj
                        | some pr =>
                          obtain ⟨w, h7⟩ := pr
                          rw [ef] at elj
                          simp only [obnd_some] at elj
                          refine ⟨_, h6, ρ2, r6, rs4.mono x6, w, h7, ef, fun M7 H8 y x7 r7 ry => ?_⟩
                          obtain ⟨u7, m7⟩ := M7
                          obtain rfl : u7 = D :: M1.u := x7.same
                          have hD7 : H8 D = some (.lst ac) := x7.stab _ _ hD6 fun z => (r6.us D List.mem_cons_self).1 z
                          split at elj
                          · rename_i d'
                            cases er7 : lcL k1 t1 f (wipeE ρ1 vs1) (ds1.drop (j + 1)) h7 with
                            | none => rw [er7] at elj; cases elj
                            | some pr =>
                              obtain ⟨rst', h8⟩ := pr
                              rw [er7] at elj
                              simp only [obnd_some, Option.some.injEq, Prod.mk.injEq] at elj
                              obtain ⟨e7, e8⟩ := elj
                              subst e7 e8
                              have q7 := ((qj.mono xj2.ext).mono x6.ext).mono x7.ext
                              have hlen : ac.length < sizeLine := by
                                have h9 := congrArg List.length eoj
                                rw [List.length_append, List.length_append, List.length_cons] at h9
                                rw [qj.length]; omega
                              have in7 : D ∈ (⟨D :: M1.u, m7⟩ : Mm).u := List.mem_cons_self
                              exact ⟨ac, hD7, hlen, m7, h7, ac ++ [y], dac ++ [d'], rst', (xj6.trans (x7.reu M1.u)).beside nD, r7.off in7, (((rsj.mono xj2).mono x6).mono x7).off in7, (((rsk.mono xj2).mono x6).mono x7).off in7, RV.off in7 (((rvj.mono xj2).mono x6).mono x7), upd_same, (q7.off in7).app (.cons (RD.off in7 ry) .nil), er7, by rw [List.append_assoc]; exact eoj⟩
                          · cases elj
                  · cases elj
                · refine .inl ?_
                  have hj' : j = ds1.length := by omega
                  subst hj'
                  rw [List.drop_length] at elj
                  cases elj
                  exact ⟨its1, mj, _, ac, dac, rest', xj, rj, rsj, hDj, qj, er, eoj⟩
          · cases el
    · cases el
  · refine .inl ?_
    have hi' : i = ds.length := by omega
    subst hi'
    rw [List.drop_length] at el
    cases el
    rw [List.append_nil] at eo
    subst eo
    refine ⟨its, ?_⟩
    have c3 := c2 M1 H1 (.refl _ _)
    rw [if_pos outlen] at c3
    have nu : D ∉ M1.u := fun z => r1.new nD (.inl z)
    have nm : some D ∉ mi := (ri.us D inD).1
    cases m with
    | false =>
      exact c3.fin xi ri.told (RD.lst (fun z => z.elim nu nm) hD (qa.sub less_has))
    | true =>
      refine c3.fin (M' := ⟨M1.u, mi ++ [some D]⟩) ⟨rfl, xi.trk, xi.stab, fun a z => ?_, Nat.le_trans xi.len (by simp), fun j hj => ?_⟩ (ri.owned nu ⟨acc, hD, qa⟩) ⟨D, ?_, rfl⟩
      · rcases List.mem_append.mp z with z | z
        · exact xi.fresh a z
        · have : a = D := by simpa using z
          rw [this]; exact .inr nD
      · have hl : j < mi.length := Nat.lt_of_lt_of_le hj xi.len
        show (mi ++ [some D])[j]? = _
        rw [List.getElem?_append_left hl]; exact xi.pre j hj
      · show (mi ++ [some D])[h2.length]? = _
        rw [← show mi.length = h2.length from ri.len]; simp
section
variable {X : Cx}
theorem d_lc2E (m : Bool) {elt tg iter tg1 iter1 : Expr} {ifs ifs1 : List Expr} {scope : Scope} {own : List (Str × Nat)} {vs1 : List Nat} {pos : Pos} {gi : IM} {ts ts1 : List Nat} {k k1 : TM} {t t1 : BM} {f f1 : EM} (hc : X.calm = true) (hN : X.N.Nodup) (hi : DI X tg iter gi) (ok : BlkOk X.N X.env.scope scope own)
    (hg : ∀ (s : Shared) (H : Hp) (C : Addr) (cl : List (Str × Addr)) (fp : List Addr), DG (X.blk s H scope (compEnvC scope cl C X.env) fp) tg ts k) (ht : ∀ (s : Shared) (H : Hp) (C : Addr) (cl : List (Str × Addr)) (fp : List Addr), DTs (X.blk s H scope (compEnvC scope cl C X.env) fp) ifs t)
    (hv1 : ∀ (s : Shared) (H : Hp) (C : Addr) (cl : List (Str × Addr)) (fp : List Addr), DE (X.blk s H scope (compEnvC scope cl C X.env) fp) iter1 f1)
    (hg1 : ∀ (s : Shared) (H : Hp) (C : Addr) (cl : List (Str × Addr)) (fp : List Addr), DG (X.blk s H scope (compEnvC scope cl C X.env) fp) tg1 ts1 k1) (ht1 : ∀ (s : Shared) (H : Hp) (C : Addr) (cl : List (Str × Addr)) (fp : List Addr), DTs (X.blk s H scope (compEnvC scope cl C X.env) fp) ifs1 t1)
    (he : ∀ (s : Shared) (H : Hp) (C : Addr) (cl : List (Str × Addr)) (fp : List Addr), DE (X.blk s H scope (compEnvC scope cl C X.env) fp) elt f)
    (hsub : ∀ j ∈ ts, j ∈ own.map (·.2)) (hsub1 : ∀ j ∈ ts1, j ∈ vs1) (hv : ∀ i ∈ vs1, i ∈ own.map (·.2)) (hs : ∀ x, foldedSetIterable iter X.env x = pure x := by intro _; rfl) (hs1 : ∀ env x, foldedSetIterable iter1 env x = pure x := by intro _ _; rfl) :
    DE X (.ListComp elt [⟨tg, iter, ifs, 0⟩, ⟨tg1, iter1, ifs1, 0⟩] scope pos) (fLc2E m gi k t f1 k1 t1 f (own.map (·.2)) vs1) :=
  (pe_lc2 hc hN hi ok hv hg ht (fun s H C cl fp => (pi_list (hv1 s H C cl fp)).or (pi_tup (hv1 s H C cl fp))) hg1 ht1 he hs hs1).weak (lc2E_imp (K := X.K) hsub hsub1)
end
end DL
set_option maxRecDepth 100000
set_option maxHeartbeats 4000000
namespace DL
open PySem PySem.Spec PyProof.Rows L2
section
variable {P : Program} {w : World} {A : Around} {E : Value → Shared → Prop} {s : Shared}
set_option maxHeartbeats 3200000 in
theorem call_set_txsT {l : Addr} {its : Array Value} {xs : List Str} {Q : Value → Shared → Prop} (hh : A.handled = none) (hl : s.heap.IsTuple l its) (hi : StrsAre its.toList xs) (hb : xs.length + 1 < scanBound)
    (h : ∀ h' tk, TxAt P w h' s.heap.objs.size (uq xs) → (∀ b o, s.heap.get? b = some o → h'.get? b = some o) → Q (.ref s.heap.objs.size) { s with heap := h', toks := tk }) : wpAny (model P w) A (call (.type "set") [.ref l]) Q E s := by
  obtain ⟨c0, c1, k1⟩ := F.called_set.mro
  have k2 := F.called_set.made
  have k3 := F.called_set.sub
  apply wpAny_call
  apply codeAny_of_tree
  show wpAny _ _ (callAny (.type "set") _) _ _ _
  refine wpAny_pure ⟨Code.quiet_builtin _ (by decide +kernel), ?_⟩
  apply codeAny_builtin F.entry_type_call
  rw [Around.under_plain (weight_type_call_type "set" [.ref l] []) rfl]
  have k4 := F.called_set.notType
  have k5 := F.called_set.canCreate
  have k6 := F.typeCall_set_1 (.ref l)
  repeat (any_goals (first | assumption | wp_step))
  refine codeAny_mono (code_set_led1 (.ref l) (E := E) (Q₁ := fun o s1 => o = .ref s.heap.objs.size ∧ s1 = { s with heap := s.heap.push (nSet w) }) ⟨rfl, rfl⟩) fun q s1 hq => ?_
  cases q with
  | error _ => exact hq
  | ok f =>
    cases f with
    | ret o =>
      obtain ⟨rfl, rfl⟩ := hq
      have at1 : (s.heap.push (nSet w)).get? s.heap.objs.size = some (nSet w) := Heap.get?_push_size _ rfl
      have ty1 : Shared.TypeIs { s with heap := s.heap.push (nSet w) } (.ref s.heap.objs.size) "set" := ⟨_, at1, rfl⟩
      have k7 := F.called_set.init.lookup
      have k8 := F.called_set.init.bind (.ref s.heap.objs.size)
      repeat (any_goals (first | assumption | wp_step))
      refine codeAny_mono (codeAny_call_builtin (R := wants (fun z s2 => z = .none ∧ ∃ h' tk, s2 = { s with heap := h', toks := tk } ∧ TxAt P w h' s.heap.objs.size (uq xs) ∧ ∀ b o, s.heap.get? b = some o → h'.get? b = some o) E) F.called_set.init.plain F.entry_set_init (check_set_init_1 ty1 ?_)) fun q2 s2 hq2 => ?_
      · obtain ⟨⟨oc, od, odt, os⟩, ho, hoc, m, hod⟩ := hl
        simp only at hoc hod
        subst hoc
        subst hod
        have ho' : (s.heap.push (nSet w)).get? l = some { cls := .type "tuple", dict := od, data := .seq its m, slots := os } := Heap.get?_push_of_some _ ho
        have f1 := PySem.F.sub_tuple_set
        have f2 := PySem.F.sub_tuple_frozenset
        have f3 : (Value.type "tuple" == Value.type "dict") = false := by decide
        have hl' : (s.heap.push (nSet w)).IsTuple l its := ⟨_, ho', rfl, m, rfl⟩
        unfold Builtin.«set.__init__» noKeywords Builtin.Frozenset.updateFrom
        generalize eI : pyIter = pI
        wp_walk
        subst eI
        apply wpAny_pyIter_tuple hl'
        apply wpAny_bind
        apply wpAny_runValue
        have lt : l < s.heap.objs.size := Heap.lt_size ho
        have zs : (s.heap.push (nSet w)).objs.size = s.heap.objs.size + 1 := Heap.size_push ..
        have n1 : l ≠ (s.heap.push (nSet w)).objs.size := by rw [zs]; exact Nat.ne_of_lt (Nat.lt_succ_of_lt lt)
        have n2 : s.heap.objs.size ∉ [(s.heap.push (nSet w)).objs.size, l] := by
          rw [zs]
          simp only [List.mem_cons, List.not_mem_nil, or_false, not_or]
          exact ⟨Nat.ne_of_lt (Nat.lt_succ_self _), Nat.ne_of_gt lt⟩
        have len : xs.length = its.size := by rw [← StrsAre.len_eq hi, Array.length_toList]
        have val : ∀ (i : Nat) (v : Value), its[i]? = some v → ∃ (y : Str) (t : Tok), xs[i]? = some y ∧ v = .str y t := fun i v hv => by
          have hv' : its.toList[i]? = some v := by rw [Array.getElem?_toList]; exact hv
          obtain ⟨t, e⟩ := SS.strs_at hi i v hv'
          have hlt : i < xs.length := by have := (List.getElem?_eq_some_iff.mp hv').1; rw [Array.length_toList] at this; omega
          exact ⟨xs[i], t, List.getElem?_eq_getElem hlt, by rw [e, List.getD_eq_getElem?_getD, List.getElem?_eq_getElem hlt]; rfl⟩
        refine txs_loopU ((Walks.tuple (by simp [hh]) _ l n1 its).toS) s.heap.objs.size n2 xs len (by rw [← len]; exact hb) val its.size 0 _ (by omega) ⟨⟨_, Heap.get?_push_size _ rfl, rfl, rfl⟩, hl'.push _⟩ ?_ ?_
        · rw [List.take_zero]
          exact nSet_txs (Heap.get?_push_of_some _ at1)
        · intro s3 mv x3
          obtain ⟨h3, g3, d3, t3, o3⟩ := s3
          have q1 : g3 = s.gens := mv.gens
          have q2 : d3 = s.drawn := mv.drawn
          have q3 : o3 = s.os := mv.os
          subst q1
          subst q2
          subst q3
          show wpAny _ _ _ _ _ _
          apply wpAny_pure
          show wpAny _ _ (ret Value.none) _ _ _
          refine wpAny_pure ⟨rfl, h3, t3, rfl, x3, fun b o e => mv.heap b o (fun z => ?_) (Heap.get?_push_of_some _ (Heap.get?_push_of_some _ e))⟩
          have lb := Heap.lt_size e
          simp only [List.mem_cons, List.not_mem_nil, or_false, zs] at z
          rcases z with z | z
          · exact absurd lb (by rw [z]; exact Nat.lt_irrefl _)
          · exact absurd lb (by rw [z]; exact Nat.not_lt_of_le (Nat.le_succ _))
      · cases q2 with
        | error _ => exact hq2
        | ok f2 =>
          cases f2 with
          | ret z =>
            obtain ⟨rfl, h', tk, rfl, x', k'⟩ := hq2
            repeat (any_goals (first | assumption | wp_step))
            exact h _ _ x' k'
          | _ => exact hq2.elim
    | _ => exact hq.elim
end
section
variable {X : Cx}
theorem cr_setT (hc : X.calm = true) : CallR X (.type "set") (fun xs H Q => ∃ (a : Addr) (l : List Str), xs = [.ref a] ∧ SqT X.K H a (l.map V.str) ∧ l.length + 1 < scanBound ∧ ∀ p, H p = none → Q (.ref p) (upd H p (SetX X.prog X.w p (uq l)))) := by
  rintro pins s σ H xs us Q I r ⟨a, l, rfl, hl, hb, q⟩
  rw [Vals.ref1 r]
  obtain ⟨its, rv, pl, hz⟩ := I.tuple hl
  refine call_set_txsT (P := X.prog) (w := X.w) (its := its.toArray) (xs := l) (I.ok.hd hc) pl rv.strs hb fun h' tk x k => ?_
  exact ⟨.ref s.heap.objs.size, _, I.laid (t' := tk) (o := SetX X.prog X.w s.heap.objs.size (uq l)) k (Nat.le_refl _) (setX_new x), rfl, q _ (I.hok.fresh (Nat.le_refl _))⟩
noncomputable def sortTW (m : Bool) (ws : List W) (h : Hh) : Option (W × Hh) := match ws with
  | [w] => match deref h w with
    | some (.tuple ds) => match rowS ds with
      | some l => if l.length < 1000 then mkL m (((uq l).mergeSort leT).map .str) h else none
      | none => none
    | _ => none
  | _ => none
theorem d_sortT {k : Nat} (hr : RG k X.A) (hc : X.calm = true) (m : Bool) (hm : X.mg "sorted" = none) (hm2 : X.mg "set" = none) {e : Expr} {p p2 q pos : Pos} {g : AM} (ha : DA X [e] g) (hg : Gl X "sorted" := by rfl) (hg2 : Gl X "set" := by rfl)
    (he : starEach [.Call (.Name "set" p2) [e] [] q] X.env = (false, eval (.Call (.Name "set" p2) [e] [] q) X.env) :: starEach [] X.env := by rfl) (hpl : (backTo pos (starEach [] X.env)).any (·.1) = false := by rfl) (he2 : starEach [e] X.env = (false, eval e X.env) :: starEach [] X.env := by rfl) (hpl2 : (backTo q (starEach [] X.env)).any (·.1) = false := by rfl) :
    DE X (.Call (.Name "sorted" p) [.Call (.Name "set" p2) [e] [] q] [] pos) (fA (sortTW m) g) :=
  (pe_callB (cr_sortX hr.room hc) hg hm (by decide +kernel) (pa_cons (pe_callTy (cr_setT hc) hg2 hm2 (by decide +kernel) ha (by decide) (by decide) he2 hpl2) pa_nil) (by decide) (by decide) he hpl).weak fun σ H Q => by
    rintro ⟨M, h, ρ, r, rs, c⟩
    obtain ⟨w, h1, e1, c1⟩ := Cont.bind (δ := Unit) c
    refine ⟨M, h, ρ, r, rs, w, h1, e1, fun M1 H1 v x1 r1 v1 => ?_⟩
    have c2 := c1 M1 H1 x1
    unfold sortTW at c2
    split at c2
    · obtain ⟨v, rfl, rv⟩ := rvs1 v1
      split at c2
      · rename_i ds ed
        obtain ⟨a, xs, rfl, _, ha, qa⟩ := rr_tup (deref_rr r1 rv ed)
        split at c2
        · rename_i l el
          split at c2
          · rename_i hz
            have := rowS_map el
            subst this
            have := rds_strs qa
            subst this
            have sb : l.length + 1 < scanBound := by have : scanBound = 4096 := rfl; omega
            have ul := uq_len l
            refine ⟨a, l, rfl, ha.sq, sb, fun p np => ?_⟩
            refine ⟨p, uq l, rfl, upd_same, uq_nodup l, by omega, by rw [sizeLine_eq]; omega, fun p' np' => ?_⟩
            have x2 := ext_new (M := M1) (o := SetX X.prog X.w p (uq l)) np
            have c3 : Cont RV (mkL m (((uq l).mergeSort leT).map .str) h1) M1 (upd H1 p (SetX X.prog X.w p (uq l))) Q := by
              obtain ⟨w', h', ee, kk⟩ := c2
              exact ⟨w', h', ee, fun M' H' v' xx => kk M' H' v' (x2.trans xx)⟩
            exact mkL_fin (r1.upd_new np) np' (rds_ofS _) c3
          · exact c2.no.elim
        · exact c2.no.elim
      · exact c2.no.elim
    · exact c2.no.elim
end
end DL
set_option maxRecDepth 100000
namespace DL
open PySem L2
noncomputable def m__law_box : FM := fnM true 2 3 (sSeq (sAsg (fC (.int 0)) (gN 2))
    (sSeq (sIf (fB (f2 lt_W (fVar 1) (fA lenW (fCons (fVar 0) (fNil))))) (sAsg (f2 idxW (fVar 0) (fVar 1)) (gN 2)) (sSkip))
    (sRet (fA (lstW true) (fCons (f2 (mulW false) (fA absW (fCons (fVar 2) (fNil))) (fA intC (fCons (f2 ge_W (fA absW (fCons (fVar 2) (fNil))) (f2 powW (fC (.int 10)) (fC (.int 18)))) (fNil)))) (fCons (f2 (addW false) (f2 (addW false) (f2 modW (fVar 2) (fC (.int 2147483629))) (f2 (mulW false) (fC (.int 7919)) (fVar 1))) (fC (.int 11))) (fCons (fC (.int 0)) (fNil))))))))
noncomputable def m__law_take : FM := fnM false 2 4 (sSeq (sIf (fB (f2 gt_W (f2 idxW (fVar 0) (fC (.int 0))) (fC (.int 0)))) (sSeq (sAsg (f2 modW (f2 idxW (fVar 0) (fC (.int 0))) (fVar 1)) (gN 3))
    (sSeq (sSub (f2 divW (f2 idxW (fVar 0) (fC (.int 0))) (fVar 1)) (fVar 0) (fC (.int 0)))
    (sRet (fVar 3)))) (sSkip))
    (sSeq (sSub (f2 (addW false) (f2 idxW (fVar 0) (fC (.int 2))) (fC (.int 1))) (fVar 0) (fC (.int 2)))
    (sSeq (sAsg (f2 modW (f2 powW (f2 (addW false) (f2 idxW (fVar 0) (fC (.int 1))) (f2 (mulW false) (fC (.int 39373)) (f2 idxW (fVar 0) (fC (.int 2))))) (fC (.int 5))) (fC (.int 2147483647))) (gN 2))
    (sRet (f2 modW (f2 divW (f2 modW (f2 (addW false) (f2 (mulW false) (fVar 2) (f2 (addW false) (f2 modW (fVar 2) (fC (.int 40009))) (fC (.int 7)))) (f2 (mulW false) (f2 idxW (fVar 0) (fC (.int 2))) (fC (.int 7919)))) (fC (.int 2147483629))) (fC (.int 64))) (fVar 1))))))
noncomputable def m__law_same : Nat → FM
  | 0 => fun _ _ => none
  | n + 1 => fnM false 2 4 (sSeq (sIf (fB (f1 (isiW ["list", "tuple"]) (fVar 1))) (sSeq (sIf (bOr (fB (f2 (eqW true) (f1 (isiW ["list"]) (fVar 0)) (f1 (isiW ["list"]) (fVar 1)))) (fB (f2 (eqW true) (f1 (isiW ["tuple"]) (fVar 0)) (f1 (isiW ["tuple"]) (fVar 1))))) (sRet (fC (.bool false))) (sSkip))
    (sSeq (sIf (fB (f2 (eqW true) (fA lenW (fCons (fVar 0) (fNil))) (fA lenW (fCons (fVar 1) (fNil))))) (sRet (fC (.bool false))) (sSkip))
    (sRet (fA allW (fCons (fLc false (zipI (fCons (fVar 0) (fCons (fVar 1) (fNil)))) (gT 2 (gC (gN 2) (gC (gN 3) (gE)))) (bYes) (fA (m__law_same n) (fCons (fVar 2) (fCons (fVar 3) (fNil)))) [2, 3]) (fNil)))))) (sSkip))
    (sSeq (sIf (bOr (fB (f2 (isW false) (fVar 1) (fC .none))) (fB (f1 (isiW ["str"]) (fVar 1)))) (sRet (fAnd (f2 (eqW false) (fVar 0) (fVar 1)) (f2 (eqW false) (f1 (isiW ["str"]) (fVar 0)) (f1 (isiW ["str"]) (fVar 1))))) (sSkip))
    (sRet (fAnd (f1 (isiW ["int"]) (fVar 0)) (fAnd (f2 (eqW false) (f1 (isiW ["bool"]) (fVar 0)) (f1 (isiW ["bool"]) (fVar 1))) (f2 (eqW false) (fVar 0) (fVar 1)))))))
noncomputable def m__law_strewn : FM := fnM false 2 4 (sSeq (sAsg (fA (lstW true) (fNil)) (gN 2))
    (sSeq (sFor (seqI (fVar 1)) (gN 3)
    (sExpr (fM isL insertW (fVar 2) (fCons (fA (m__law_take) (fCons (fVar 0) (fCons (f2 (addW false) (fA lenW (fCons (fVar 2) (fNil))) (fC (.int 1))) (fNil)))) (fCons (fVar 3) (fNil))))))
    (sRet (fVar 2))))
end DL
namespace DL
open PySem L2
noncomputable def m__law_of : FM := fnM false 2 2 (sRet (f2 idxW (fVar 1) (fA (m__law_take) (fCons (fVar 0) (fCons (fA lenW (fCons (fVar 1) (fNil))) (fNil))))))
noncomputable def m__law_ask : FM := fnM false 2 12 (sSeq (sPar (fCons (fA (sortW false) (fCons (fVar 1) (fNil))) (fCons (fA (m__law_take) (fCons (fVar 0) (fCons (fC (.int 6)) (fNil)))) (fNil))) [3, 4])
    (sSeq (sPar (fCons (fSl false (fA (m__law_strewn) (fCons (fVar 0) (fCons (fVar 3) (fNil)))) (oNone) (oSome (f2 (addW false) (fC (.int 1)) (fA (m__law_take) (fCons (fVar 0) (fCons (fC (.int 3)) (fNil))))))) (fCons (fA (m__law_strewn) (fCons (fVar 0) (fCons (fVar 3) (fNil)))) (fNil))) [5, 6])
    (sSeq (sAsg (fA (lstW true) (fNil)) (gN 2))
    (sSeq (sFor (enumA (fCons (fVar 3) (fNil))) (gT 2 (gC (gN 7) (gC (gN 8) (gE))))
    (sSeq (sPar (fCons (fA (m__law_of) (fCons (fVar 0) (fCons (fVar 3) (fNil)))) (fCons (fA (m__law_of) (fCons (fVar 0) (fCons (fVar 5) (fNil)))) (fNil))) [10, 11])
    (sSeq (sAsg (fIf (fB (f2 (eqW false) (fA (m__law_take) (fCons (fVar 0) (fCons (fC (.int 4)) (fNil)))) (fC (.int 0)))) (fVar 10) (fVar 8)) (gN 9))
    (sExpr (fM isL appendW (fVar 2) (fCons (fA tupW (fCons (fVar 8) (fCons (f2 idxW (fA (lstW false) (fCons (fVar 10) (fCons (fVar 10) (fCons (fVar 11) (fCons (fVar 9) (fCons (f2 idxW (fVar 6) (fVar 7)) (fCons (fVar 11) (fNil)))))))) (fVar 4)) (fNil)))) (fNil)))))))
    (sFrz 2 (sRet (fA tupleW (fCons (fVar 2) (fNil)))))))))
end DL
namespace DL
open PySem L2
noncomputable def m_gone : FM := fnM false 2 4 (sSeq (sPar (fCons (f2 idxW (fVar 0) (f2 idxW (fVar 1) (fC (.int 0)))) (fCons (f2 idxW (fVar 0) (f2 idxW (fVar 1) (fC (.int 1)))) (fNil))) [2, 3])
    (sRet (fIf (fB (f2 (eqW false) (fVar 2) (fVar 3))) (fVar 1) (fA tupW (fCons (fVar 2) (fCons (fVar 3) (fNil)))))))
noncomputable def m__law_asks : FM := fnM false 3 4 (sRet (fLc false (rng1I (fCons (fA (m__law_take) (fCons (fVar 0) (fCons (f2 (addW false) (fVar 2) (fC (.int 1))) (fNil)))) (fNil))) (gN 3) (bYes) (fA (m__law_ask) (fCons (fVar 0) (fCons (fVar 1) (fNil)))) [3]))
end DL
namespace DL
open PySem L2
end DL
namespace DL
open PySem L2
noncomputable def m__law_folded : FM := fnM false 2 5 (sSeq (sAsg (fA (listW true) (fCons (fSl false (fVar 0) (oNone) (oSome (fVar 1))) (fNil))) (gN 2))
    (sSeq (sFor (enumA (fCons (fSl false (fVar 0) (oSome (fVar 1)) (oSome (fC (.int 63)))) (fNil))) (gT 2 (gC (gN 3) (gC (gN 4) (gE))))
    (sSub (f2 (addW false) (f2 idxW (fVar 2) (f2 modW (fVar 3) (fVar 1))) (f2 (mulW false) (fVar 4) (f2 (addW false) (fVar 3) (fC (.int 2))))) (fVar 2) (f2 modW (fVar 3) (fVar 1))))
    (sFrz 2 (sRet (fIf (fB (f2 (eqW true) (fVar 2) (fA (lstW false) (fNil)))) (fVar 2) (fA (lstW false) (fCons (fC (.int 0)) (fNil))))))))
noncomputable def m__law_pick : FM := fnM false 2 2 (sRet (f2 idxW (fVar 1) (fA (m__law_take) (fCons (fVar 0) (fCons (fA lenW (fCons (fVar 1) (fNil))) (fNil))))))
noncomputable def m__law_row : FM := fnM false 2 4 (sSeq (sPar (fCons (fA (listW true) (fCons (fVar 1) (fNil))) (fCons (fA (lstW true) (fNil)) (fNil))) [2, 3])
    (sSeq (sWhile 100000 (fB (f2 (eqW true) (fVar 2) (fA (lstW false) (fNil))))
    (sExpr (fM isL appendW (fVar 3) (fCons (fM isL popAtW (fVar 2) (fCons (fA (m__law_take) (fCons (fVar 0) (fCons (fA lenW (fCons (fVar 2) (fNil))) (fNil)))) (fNil))) (fNil)))))
    (sFrz 3 (sRet (fA tupleW (fCons (fVar 3) (fNil)))))))
noncomputable def m__law_names : FM := fnM false 2 6 (sSeq (sPar (fCons (f2 (addW false) (fC (.int 1)) (fA (m__law_take) (fCons (fVar 0) (fCons (fVar 1) (fNil))))) (fCons (fA (lstW false) (fNil)) (fNil))) [2, 3])
    (sSeq (sWhile 100000 (fB (f2 lt_W (fA lenW (fCons (fVar 3) (fNil))) (fVar 2)))
    (sSeq (sAsg (fJoin (fC (.str "")) (fLc false (rng1I (fCons (f2 (addW false) (fC (.int 1)) (fA (m__law_take) (fCons (fVar 0) (fCons (fC (.int 3)) (fNil))))) (fNil))) (gN 5) (bYes) (fA (m__law_pick) (fCons (fVar 0) (fCons (fC (.str "abkmxz")) (fNil)))) [5])) (gN 4))
    (sAsg (fA (sortSW false) (fCons (f2 (addW false) (fVar 3) (fA (lstW false) (fCons (f2 (addW false) (fVar 4) (f2 idxW (fC (.str "abcdefghijklmnopqrstuvwx")) (fA lenW (fCons (fVar 3) (fNil))))) (fNil)))) (fNil))) (gN 3))))
    (sRet (fVar 3))))
noncomputable def m__law_call : FM := fnM false 2 7 (sSeq (sAsg (fA (m__law_pick) (fCons (fVar 0) (fCons (fA (lstW false) (fCons (fC (.int 1)) (fCons (fC (.int 2)) (fCons (fA lenW (fCons (fVar 1) (fNil))) (fCons (fA lenW (fCons (fVar 1) (fNil))) (fNil)))))) (fNil)))) (gN 2))
    (sSeq (sAsg (fLc false (rng1I (fCons (fVar 2) (fNil))) (gN 5) (bYes) (fA (m__law_pick) (fCons (fVar 0) (fCons (fVar 1) (fNil)))) [5]) (gN 3))
    (sSeq (sAsg (f2 (addW false) (fC (.int 1)) (fA (m__law_take) (fCons (fVar 0) (fCons (fC (.int 4)) (fNil))))) (gN 4))
    (sRet (fA tupleW (fCons (fLc false (seqI (fVar 1)) (gN 6) (bYes) (fA tupW (fCons (fVar 6) (fCons (fIf (fB (f2 gt_W (fA (m__law_take) (fCons (fVar 0) (fCons (fVar 4) (fNil)))) (fC (.int 0)))) (fVar 6) (fA (m__law_pick) (fCons (fVar 0) (fCons (fVar 3) (fNil))))) (fNil)))) [6]) (fNil)))))))
end DL
namespace DL
open PySem L2
end DL
namespace DL
open PySem L2
end DL
set_option maxRecDepth 100000
namespace DL
open PySem L2
end DL
set_option maxRecDepth 100000
namespace DL
open PySem L2
end DL
set_option maxRecDepth 100000
namespace DL
open PySem L2
end DL
set_option maxRecDepth 100000
namespace DL
open PySem L2
end DL
set_option maxRecDepth 100000
namespace DL
open PySem L2
end DL
set_option maxRecDepth 100000
namespace DL
open PySem L2
end DL
set_option maxRecDepth 100000
namespace DL
open PySem L2
end DL
namespace DL
open PySem L2
end DL
namespace DL
open PySem L2
end DL
namespace DL
open PySem L2
end DL
namespace DL
open PySem L2
end DL
namespace DL
open PySem L2
end DL
set_option maxRecDepth 100000
set_option maxHeartbeats 400000
namespace DL
open PySem L2
@[reducible] def Dm {α : Sort u} (_ : α) : Type := Unit
def ob {α β : Type} (k : α → Hh → Option (β × Hh)) (u : Dm k) (r : Option (α × Hh)) : Option (β × Hh) := obnd r k
theorem obnd_x {α β : Type} (r : Option (α × Hh)) (k : α → Hh → Option (β × Hh)) : obnd r k = ob k () r := rfl
theorem ob_some {α β : Type} (k : α → Hh → Option (β × Hh)) (u : Dm k) (a : α) (h : Hh) : ob k u (some (a, h)) = k a h := rfl
def sb {α : Type} (k : α → Hh → Option (Out × Hh)) (u : Dm k) (r : Option (α × Hh)) : Option (Out × Hh) := sbnd r k
theorem sbnd_x {α : Type} (r : Option (α × Hh)) (k : α → Hh → Option (Out × Hh)) : sbnd r k = sb k () r := rfl
theorem sb_some {α : Type} (k : α → Hh → Option (Out × Hh)) (u : Dm k) (a : α) (h : Hh) : sb k u (some (a, h)) = k a h := rfl
def seqK (g : SM) (u : Dm g) (r : Option (Out × Hh)) : Option (Out × Hh) := match r with
  | some (.nx ρ1, h1) => g ρ1 h1
  | r => r
theorem sSeq_e (f g : SM) (ρ : Env) (h : Hh) : sSeq f g ρ h = seqK g () (f ρ h) := rfl
theorem seqK_nx (g : SM) (u : Dm g) (ρ : Env) (h : Hh) : seqK g u (some (.nx ρ, h)) = g ρ h := rfl
theorem seqK_rt (g : SM) (u : Dm g) (w : W) (h : Hh) : seqK g u (some (.rt w, h)) = some (.rt w, h) := rfl
theorem seqK_bk (g : SM) (u : Dm g) (ρ : Env) (h : Hh) : seqK g u (some (.bk ρ, h)) = some (.bk ρ, h) := rfl
theorem seqK_ct (g : SM) (u : Dm g) (ρ : Env) (h : Hh) : seqK g u (some (.ct ρ, h)) = some (.ct ρ, h) := rfl
def frK (g : SM) (u : Dm g) (r : Option (Env × Hh)) : Option (Out × Hh) := match r with
  | some (ρ, h) => g ρ h
  | none => none
theorem sFrz_e (i : Nat) (f : SM) (ρ : Env) (h : Hh) : sFrz i f ρ h = frK f () (frz i ρ h) := rfl
theorem frK_some (g : SM) (u : Dm g) (ρ : Env) (h : Hh) : frK g u (some (ρ, h)) = g ρ h := rfl
theorem isR_ref (n m : Nat) : isR n (some (.ref m)) = decide (m = n) := rfl
theorem isR_dat (n : Nat) (d : D) : isR n (some (.dat d)) = false := rfl
theorem isR_scr (n : Nat) (d : List Int) : isR n (some (.scr d)) = false := rfl
theorem isR_none (n : Nat) : isR n none = false := rfl
def retK (rm : Bool) (h : Hh) (r : Option (Out × Hh)) : Option (W × Hh) := match r with
    | some (.rt w, h') => leave rm h w h'
    | some (.nx _, h') => leave rm h (.dat .none) h'
    | _ => none
theorem retK_rt (rm : Bool) (h : Hh) (w : W) (h' : Hh) : retK rm h (some (.rt w, h')) = leave rm h w h' := rfl
theorem retK_nx (rm : Bool) (h : Hh) (ρ : Env) (h' : Hh) : retK rm h (some (.nx ρ, h')) = leave rm h (.dat .none) h' := rfl
def iteK {α : Type} (x y : α) (u : Dm (x, y)) (b : Bool) : α := if b = true then x else y
theorem ite_x {α : Type} (b : Bool) (x y : α) : (if b = true then x else y) = iteK x y () b := rfl
theorem iteK_t {α : Type} (x y : α) (u : Dm (x, y)) : iteK x y u true = x := rfl
theorem iteK_f {α : Type} (x y : α) (u : Dm (x, y)) : iteK x y u false = y := rfl
theorem subW_e (x y : W) (h : Hh) : subW x y h = intW (fun _ _ => true) (fun i j => i - j) x y h := rfl
theorem modW_e (x y : W) (h : Hh) : modW x y h = intW (fun _ j => decide (0 < j)) (fun i j => i % j) x y h := rfl
theorem divW_e (x y : W) (h : Hh) : divW x y h = intW (fun _ j => decide (0 < j ∧ j < 1073741824)) (fun i j => i / j) x y h := rfl
theorem powW_e (x y : W) (h : Hh) : powW x y h = intW (fun i j => decide (0 ≤ j ∧ j ≤ 1000000 ∧ i.natAbs < 18446744073709551616)) (fun i j => i ^ j.toNat) x y h := rfl
theorem lt_e (x y : W) (h : Hh) : lt_W x y h = ltW (fun i j => decide (i < j)) (fun i j => decide (i < j)) x y h := rfl
theorem gt_e (x y : W) (h : Hh) : gt_W x y h = ltW (fun i j => decide (j < i)) (fun i j => decide (j < i)) x y h := rfl
theorem le_e (x y : W) (h : Hh) : le_W x y h = ltW (fun i j => decide (i ≤ j)) (fun i j => !decide (j < i)) x y h := rfl
theorem ge_e (x y : W) (h : Hh) : ge_W x y h = ltW (fun i j => decide (j ≤ i)) (fun i j => !decide (i < j)) x y h := rfl
theorem allW_e (ws : List W) (h : Hh) : allW ws h = lW bools (fun bs => .bool (bs.all id)) ws h := rfl
theorem anyW_e (ws : List W) (h : Hh) : anyW ws h = lW bools (fun bs => .bool (bs.any id)) ws h := rfl
theorem sumW_e (ws : List W) (h : Hh) : sumW ws h = lW intsD (fun bs => .int bs.sum) ws h := rfl
theorem fnM_e (rm : Bool) (np nl : Nat) (body : SM) (ws : List W) (h : Hh) (e : ws.length = np) : fnM rm np nl body ws h = retK rm h (body (ws.map some ++ List.replicate (nl - np) none) h) := by
  unfold fnM
  rw [if_pos e]
  rfl
theorem iLT_none : (["list", "tuple"].any fun t => isT1 t (.none : D)) = false := by rfl
theorem iLT_bool (b : Bool) : (["list", "tuple"].any fun t => isT1 t (.bool b : D)) = false := by rfl
theorem iLT_int (i : Int) : (["list", "tuple"].any fun t => isT1 t (.int i : D)) = false := by rfl
theorem iLT_str (s : Str) : (["list", "tuple"].any fun t => isT1 t (.str s : D)) = false := by rfl
theorem iLT_list (ds : List D) : (["list", "tuple"].any fun t => isT1 t (.list ds : D)) = true := by rfl
theorem iLT_tup (ds : List D) : (["list", "tuple"].any fun t => isT1 t (.tuple ds : D)) = true := by rfl
theorem iL_none : (["list"].any fun t => isT1 t (.none : D)) = false := by rfl
theorem iL_bool (b : Bool) : (["list"].any fun t => isT1 t (.bool b : D)) = false := by rfl
theorem iL_int (i : Int) : (["list"].any fun t => isT1 t (.int i : D)) = false := by rfl
theorem iL_str (s : Str) : (["list"].any fun t => isT1 t (.str s : D)) = false := by rfl
theorem iL_list (ds : List D) : (["list"].any fun t => isT1 t (.list ds : D)) = true := by rfl
theorem iL_tup (ds : List D) : (["list"].any fun t => isT1 t (.tuple ds : D)) = false := by rfl
theorem iT_none : (["tuple"].any fun t => isT1 t (.none : D)) = false := by rfl
theorem iT_bool (b : Bool) : (["tuple"].any fun t => isT1 t (.bool b : D)) = false := by rfl
theorem iT_int (i : Int) : (["tuple"].any fun t => isT1 t (.int i : D)) = false := by rfl
theorem iT_str (s : Str) : (["tuple"].any fun t => isT1 t (.str s : D)) = false := by rfl
theorem iT_list (ds : List D) : (["tuple"].any fun t => isT1 t (.list ds : D)) = false := by rfl
theorem iT_tup (ds : List D) : (["tuple"].any fun t => isT1 t (.tuple ds : D)) = true := by rfl
theorem iS_none : (["str"].any fun t => isT1 t (.none : D)) = false := by rfl
theorem iS_bool (b : Bool) : (["str"].any fun t => isT1 t (.bool b : D)) = false := by rfl
theorem iS_int (i : Int) : (["str"].any fun t => isT1 t (.int i : D)) = false := by rfl
theorem iS_str (s : Str) : (["str"].any fun t => isT1 t (.str s : D)) = true := by rfl
theorem iS_list (ds : List D) : (["str"].any fun t => isT1 t (.list ds : D)) = false := by rfl
theorem iS_tup (ds : List D) : (["str"].any fun t => isT1 t (.tuple ds : D)) = false := by rfl
theorem iI_none : (["int"].any fun t => isT1 t (.none : D)) = false := by rfl
theorem iI_bool (b : Bool) : (["int"].any fun t => isT1 t (.bool b : D)) = true := by rfl
theorem iI_int (i : Int) : (["int"].any fun t => isT1 t (.int i : D)) = true := by rfl
theorem iI_str (s : Str) : (["int"].any fun t => isT1 t (.str s : D)) = false := by rfl
theorem iI_list (ds : List D) : (["int"].any fun t => isT1 t (.list ds : D)) = false := by rfl
theorem iI_tup (ds : List D) : (["int"].any fun t => isT1 t (.tuple ds : D)) = false := by rfl
theorem iB_none : (["bool"].any fun t => isT1 t (.none : D)) = false := by rfl
theorem iB_bool (b : Bool) : (["bool"].any fun t => isT1 t (.bool b : D)) = true := by rfl
theorem iB_int (i : Int) : (["bool"].any fun t => isT1 t (.int i : D)) = false := by rfl
theorem iB_str (s : Str) : (["bool"].any fun t => isT1 t (.str s : D)) = false := by rfl
theorem iB_list (ds : List D) : (["bool"].any fun t => isT1 t (.list ds : D)) = false := by rfl
theorem iB_tup (ds : List D) : (["bool"].any fun t => isT1 t (.tuple ds : D)) = false := by rfl
theorem lcL_map {k : TM} {t : BM} {f : EM} {ρ : Env} {h : Hh} (p : D → Bool) (g : D → D) : ∀ {ds : List D}, (∀ d ∈ ds, ∃ ρ1, k (.dat d) ρ h = some ρ1 ∧ t ρ1 h = some (p d, h) ∧ (p d = true → f ρ1 h = some (.dat (g d), h))) → lcL k t f ρ ds h = some ((ds.filter p).map g, h)
  | [], _ => rfl
  | d :: ds, H => by
    obtain ⟨ρ1, e1, e2, e3⟩ := H d List.mem_cons_self
    have ih := lcL_map (k := k) (t := t) (f := f) (ρ := ρ) (h := h) p g (ds := ds) fun e he => H e (List.mem_cons_of_mem _ he)
    unfold lcL
    simp only [e1, e2, obnd]
    cases hp : p d with
    | true =>
      simp only [if_true]
      rw [e3 hp]
      simp only [ih, List.filter_cons, hp, if_true, List.map_cons]
    | false => simp only [Bool.false_eq_true, if_false, ih, List.filter_cons, hp]
theorem lcL_all {k : TM} {t : BM} {f : EM} {ρ : Env} {h : Hh} (g : D → D) {ds : List D} (H : ∀ d ∈ ds, ∃ ρ1, k (.dat d) ρ h = some ρ1 ∧ t ρ1 h = some (true, h) ∧ f ρ1 h = some (.dat (g d), h)) : lcL k t f ρ ds h = some (ds.map g, h) := by
  have := lcL_map (k := k) (t := t) (f := f) (ρ := ρ) (h := h) (fun _ => true) g (ds := ds) fun d hd => by
    obtain ⟨ρ1, a, b, c⟩ := H d hd
    exact ⟨ρ1, a, b, fun _ => c⟩
  rwa [List.filter_eq_self.mpr (fun _ _ => rfl)] at this
theorem lcL_inv {k : TM} {f : EM} {ρ : Env} (I : Nat → Hh → Prop) (R : Nat → D → Prop) : ∀ {ds : List D} {n : Nat} {h : Hh}, I n h → (∀ (j : Nat) (d : D), ds[j]? = some d → ∀ h, I (n + j) h → ∃ ρ1 d' h', k (.dat d) ρ h = some ρ1 ∧ f ρ1 h = some (.dat d', h') ∧ R (n + j) d' ∧ I (n + j + 1) h') →
    ∃ rs h', lcL k bYes f ρ ds h = some (rs, h') ∧ rs.length = ds.length ∧ (∀ (j : Nat) (r : D), rs[j]? = some r → R (n + j) r) ∧ I (n + ds.length) h'
  | [], n, h, i, _ => ⟨[], h, rfl, rfl, (fun j r hr => by simp at hr), i⟩
  | d :: ds, n, h, i, H => by
    obtain ⟨ρ1, d', h1, e1, e2, r, i1⟩ := H 0 d rfl h i
    obtain ⟨rs, h2, e3, hl, hr, i2⟩ := lcL_inv (k := k) (f := f) (ρ := ρ) I R (ds := ds) (n := n + 1) i1 fun j e he h q => by
      have := H (j + 1) e (by simpa using he) h (by rw [← show n + 1 + j = n + (j + 1) by omega]; exact q)
      rw [show n + 1 + j = n + (j + 1) by omega]
      exact this
    refine ⟨d' :: rs, h2, ?_, by simp [hl], ?_, ?_⟩
    · unfold lcL
      simp only [e1, bYes, obnd, if_true, e2]
      rw [e3]
    · intro j x hx
      cases j with
      | zero => simp at hx; subst hx; exact r
      | succ j =>
        have := hr j x (by simpa using hx)
        rw [show n + 1 + j = n + (j + 1) by omega] at this
        exact this
    · rw [List.length_cons, show n + (ds.length + 1) = n + 1 + ds.length by omega]; exact i2
theorem forL_inv {k : TM} {body : SM} (I : Nat → Env → Hh → Prop) : ∀ {ds : List D} {n : Nat} {ρ : Env} {h : Hh}, I n ρ h → (∀ (j : Nat) (d : D), ds[j]? = some d → ∀ ρ h, I (n + j) ρ h → ∃ ρ1 ρ2 h2, k (.dat d) ρ h = some ρ1 ∧ body ρ1 h = some (.nx ρ2, h2) ∧ I (n + j + 1) ρ2 h2) →
    ∃ ρ' h', forL k body ds ρ h = some (.nx ρ', h') ∧ I (n + ds.length) ρ' h'
  | [], n, ρ, h, i, _ => ⟨ρ, h, rfl, i⟩
  | d :: ds, n, ρ, h, i, H => by
    obtain ⟨ρ1, ρ2, h2, e1, e2, i2⟩ := H 0 d rfl ρ h i
    obtain ⟨ρ', h', e3, i3⟩ := forL_inv (k := k) (body := body) I (ds := ds) (n := n + 1) i2 fun j e he ρ h q => by
      obtain ⟨a, b, c, x, y, z⟩ := H (j + 1) e (by simpa using he) ρ h (by rw [← show n + 1 + j = n + (j + 1) by omega]; exact q)
      exact ⟨a, b, c, x, y, by rw [show n + 1 + j + 1 = n + (j + 1) + 1 by omega]; exact z⟩
    refine ⟨ρ', h', ?_, by rw [List.length_cons, show n + (ds.length + 1) = n + 1 + ds.length by omega]; exact i3⟩
    unfold forL
    simp only [e1, e2, e3]
theorem getK_cons (e : D × D) (es : List (D × D)) (k : Key) : getK (e :: es) k = if dKey e.1 = some k then some e.2 else getK es k := by
  unfold getK
  rw [List.find?_cons]
  by_cases h : dKey e.1 = some k
  · simp [h]
  · simp [h]
def sdic (l : List (Str × D)) : List (D × D) := l.map fun p => (.str p.1, p.2)
theorem dKey_str (s : Str) : dKey (.str s) = some (.inr s) := rfl
theorem getK_sdic (s : Str) : ∀ l : List (Str × D), getK (sdic l) (.inr s) = l.lookup s
  | [] => rfl
  | (t, d) :: l => by
    show getK ((.str t, d) :: sdic l) (.inr s) = _
    rw [getK_cons, getK_sdic s l, List.lookup_cons, dKey_str]
    by_cases h : t = s
    · subst h; simp
    · have h1 : ¬ (some (Sum.inr t : Key) = some (Sum.inr s)) := fun z => h (by cases z; rfl)
      have h2 : (s == t) = false := by simpa using fun z => h z.symm
      rw [if_neg h1, h2]
theorem isT_sdic : ∀ l : List (Str × D), isT (sdic l) = false
  | [] => rfl
  | (t, d) :: l => rfl
theorem getD_sdic (l : List (Str × D)) (s : Str) : getD (sdic l) (.str s) = some (l.lookup s) := by
  unfold getD
  rw [isT_sdic, if_neg (by simp), dKey_str]
  simp [getK_sdic]
theorem sdic_snoc (l : List (Str × D)) (s : Str) (d : D) : sdic (l ++ [(s, d)]) = sdic l ++ [(.str s, d)] := by simp [sdic]
theorem putK_sdic {l : List (Str × D)} {s : Str} (d : D) (h : l.lookup s = none) : putK' (sdic l) (.inr s) d = sdic (l ++ [(s, d)]) := by
  unfold putK'
  rw [getK_sdic, h, sdic_snoc]
  rfl
theorem lookup_none {l : List (Str × D)} {s : Str} (h : s ∉ l.map (·.1)) : l.lookup s = none := by
  induction l with
  | nil => rfl
  | cons p l ih =>
    obtain ⟨t, d⟩ := p
    simp only [List.map_cons, List.mem_cons, not_or] at h
    rw [List.lookup_cons, show (s == t) = false by simpa using h.1]
    exact ih h.2
theorem merge_sdic : ∀ (ps : List (Str × D)) (l : List (Str × D)), ((l ++ ps).map (·.1)).Nodup → mergeD (sdic l) (ps.map fun p => (Sum.inr p.1, p.2)) = sdic (l ++ ps)
  | [], l, _ => by simp [mergeD]
  | (s, d) :: ps, l, h => by
    have hn : s ∉ l.map (·.1) := by
      rw [List.map_append, List.nodup_append] at h
      intro z
      exact h.2.2 _ z _ (by simp) rfl
    have e : mergeD (sdic l) (((s, d) :: ps).map fun p => (Sum.inr p.1, p.2)) = mergeD (putK' (sdic l) (.inr s) d) (ps.map fun p => (Sum.inr p.1, p.2)) := rfl
    rw [e, putK_sdic d (lookup_none hn), merge_sdic ps (l ++ [(s, d)]) (by simpa using h)]
    simp
def prs (ps : List (Str × D)) : List D := ps.map fun p => .tuple [.str p.1, p.2]
theorem pairsK_prs : ∀ ps : List (Str × D), pairsK (prs ps) = some (ps.map fun p => (Sum.inr p.1, p.2))
  | [] => rfl
  | (s, d) :: ps => by
    show (match dKey (.str s), pairsK (prs ps) with | some k, some r => some ((k, d) :: r) | _, _ => none) = _
    rw [pairsK_prs ps]
    rfl
end DL
set_option maxRecDepth 100000
set_option maxHeartbeats 400000
namespace DL
open PySem L2
local macro_rules | `(tactic| walk_at "dl") => `(tactic| simp (config := { dsimp := false }) only [↓fnM_e, ↓sSeq_e, seqK_nx, seqK_rt, seqK_bk, seqK_ct, retK_rt, retK_nx, ↓sFrz_e, frK_some, ↓sAsg, ↓sRet, ↓sRetN, ↓sIf, ↓sExpr, ↓sSkip, ↓sNever, ↓sPar, ↓sFor, ↓sSub, ↓fVar, ↓fC, ↓fNil, ↓fCons, ↓fA, ↓f1, ↓f2, ↓fB, ↓fIf, ↓fNeg, ↓fNot, ↓fAnd, ↓fOr, ↓bNot, ↓bAnd, ↓bOr, ↓bYes, ↓obnd_x, ob_some, ↓sbnd_x, sb_some, ↓ite_x, iteK_t, iteK_f, gN, gT, gC, gE, ↓rng1I, ↓rng2I, ↓seqI, ↓enumA, ↓zipI, ↓strI, ↓fLc, ↓fDc, ↓fM, ↓fSl, ↓oNone, ↓oSome, ↓fRev, wipeE, ↓kwM, permM, permL, List.foldr, List.length_cons, List.length_nil, List.map_cons, List.map_nil, List.cons_append, List.nil_append, List.replicate, List.replicate_succ, List.replicate_zero, List.getElem?_cons_zero, List.getElem?_cons_succ, List.set_cons_zero, List.set_cons_succ, if_true, if_false, reduceIte, Nat.reduceAdd, Nat.reduceSub, Nat.reduceEqDiff, Nat.reduceLT, Nat.reduceLeDiff, Int.reduceLT, Int.reduceLE, Int.reduceNeg, Int.reduceMul, Int.reduceAdd, Int.reduceSub, Int.reduceToNat, Int.reducePow, Int.reduceEq, ok, bok, deref, mkL, lstW, tupW, dats, Option.map_some, appendW, insertW, setL, isL, listW, tupleW, lenW, absW, intC, maxW, minW, idxW, addW, subW_e, modW_e, divW_e, powW_e, mulW, intW, lt_e, gt_e, le_e, ge_e, ltW, allW_e, anyW_e, sumW_e, lW, setW, lstAt, cutW, backW, isW, isiW, iLT_none, iLT_bool, iLT_int, iLT_str, iLT_list, iLT_tup, iL_none, iL_bool, iL_int, iL_str, iL_list, iL_tup, iT_none, iT_bool, iT_int, iT_str, iT_list, iT_tup, iS_none, iS_bool, iS_int, iS_str, iS_list, iS_tup, iI_none, iI_bool, iI_int, iI_str, iI_list, iI_tup, iB_none, iB_bool, iB_int, iB_str, iB_list, iB_tup, Bool.false_eq_true, reduceCtorEq, Bool.not_true, Bool.not_false, decide_true, decide_false, List.zip_cons_cons, List.zip_nil_left, List.foldl_cons, List.foldl_nil, and_self, and_true, true_and, Bool.and_true, Bool.true_and, Bool.or_true, Bool.true_or, *])
def BoxAt (h : Hh) (b c : Nat) : Prop := ∃ d s k : Int, h[b]? = some (some (.lst [.int d, .int s, .int k])) ∧ 0 ≤ d ∧ 0 ≤ s ∧ s < 1099511627776 ∧ 0 ≤ k ∧ k ≤ c
structure Only (b : Nat) (h h' : Hh) : Prop where
  len : h'.length = h.length
  off : ∀ i : Nat, i ≠ b → h'[i]? = h[i]?
theorem Only.refl (b : Nat) (h : Hh) : Only b h h := ⟨rfl, fun _ _ => rfl⟩
theorem Only.trans {b : Nat} {h h1 h2 : Hh} (x : Only b h h1) (y : Only b h1 h2) : Only b h h2 := ⟨y.len.trans x.len, fun i n => (y.off i n).trans (x.off i n)⟩
theorem only_set (b : Nat) (h : Hh) (o : Option MO) : Only b h (h.set b o) := ⟨by simp, fun i n => by rw [List.getElem?_set_ne (fun z => n z.symm)]⟩
theorem BoxAt.mono {h : Hh} {b c c' : Nat} (x : BoxAt h b c) (hc : c ≤ c') : BoxAt h b c' := by
  obtain ⟨d, s, k, e, h1, h2, h3, h4, h5⟩ := x
  exact ⟨d, s, k, e, h1, h2, h3, h4, by omega⟩
theorem BoxAt.lt {h : Hh} {b c : Nat} (x : BoxAt h b c) : b < h.length := by
  obtain ⟨d, s, k, e, _⟩ := x
  exact (List.getElem?_eq_some_iff.mp e).1
theorem live_only {b c c' : Nat} {h h' : Hh} (x : BoxAt h b c) (y : BoxAt h' b c') (o : Only b h h') : live h' = live h := by
  apply List.ext_getElem?
  intro i
  unfold live
  rw [List.getElem?_map, List.getElem?_map]
  by_cases hi : i = b
  · subst hi
    obtain ⟨_, _, _, e1, _⟩ := x
    obtain ⟨_, _, _, e2, _⟩ := y
    rw [e1, e2]
    rfl
  · rw [o.off i hi]
theorem leave_dat {h h' : Hh} {d : D} (e : live (h'.take h.length) = live h) : leave false h (.dat d) h' = some (.dat d, h'.take h.length) := by
  unfold leave
  rw [if_pos e]
theorem leave_dat' {b c c' : Nat} {h h' : Hh} {d : D} (x : BoxAt h b c) (y : BoxAt h' b c') (o : Only b h h') : leave false h (.dat d) h' = some (.dat d, h') := by
  have e : h'.take h.length = h' := List.take_of_length_le (by rw [o.len]; exact Nat.le_refl _)
  rw [leave_dat (by rw [e]; exact live_only x y o), e]
theorem leave_same' {h : Hh} {d : D} : leave false h (.dat d) h = some (.dat d, h) := by
  have e : h.take h.length = h := List.take_of_length_le (Nat.le_refl _)
  rw [leave_dat (by rw [e]), e]
theorem atI3 (x y z : D) : L2.atI [x, y, z] 0 = some x ∧ L2.atI [x, y, z] 1 = some y ∧ L2.atI [x, y, z] 2 = some z := ⟨rfl, rfl, rfl⟩
theorem ix3 : ixN 3 0 = some 0 ∧ ixN 3 1 = some 1 ∧ ixN 3 2 = some 2 := ⟨rfl, rfl, rfl⟩
theorem take_ok {h : Hh} {b c : Nat} {n : Int} (hb : BoxAt h b c) (hc : c < 1099511627776) (h0 : 0 < n) (h1 : n < 1073741824) :
    ∃ r h', m__law_take [.ref b, .dat (.int n)] h = some (.dat (.int r), h') ∧ 0 ≤ r ∧ r < n ∧ BoxAt h' b (c + 1) ∧ Only b h h' := by
  obtain ⟨d, s, k, e, hd, hs, hs2, hk, hk2⟩ := id hb
  have lb := hb.lt
  have a0 := fun x y z : D => (atI3 x y z).1
  have a1 := fun x y z : D => (atI3 x y z).2.1
  have a2 := fun x y z : D => (atI3 x y z).2.2
  have i0 := ix3.1
  have i2 := ix3.2.2
  by_cases hp : 0 < d
  · have y : BoxAt (h.set b (some (.lst [.int (d / n), .int s, .int k]))) b c := ⟨d / n, s, k, by rw [List.getElem?_set_self lb], Int.ediv_nonneg hd (by omega), hs, hs2, hk, hk2⟩
    refine ⟨d % n, h.set b (some (.lst [.int (d / n), .int s, .int k])), ?_, Int.emod_nonneg _ (by omega), Int.emod_lt_of_pos _ h0, y.mono (by omega), only_set _ _ _⟩
    unfold m__law_take
    walk_at "dl"
    exact leave_dat' hb y (only_set _ _ _)
  · have y : BoxAt (h.set b (some (.lst [.int d, .int s, .int (k + 1)]))) b (c + 1) := ⟨d, s, k + 1, by rw [List.getElem?_set_self lb], hd, hs, hs2, by omega, by omega⟩
    have hp' : decide (0 < d) = false := by simpa using hp
    have g1 : (h.set b (some (.lst [.int d, .int s, .int (k + 1)])))[b]? = some (some (.lst [.int d, .int s, .int (k + 1)])) := by rw [List.getElem?_set_self lb]
    have hw : (s + 39373 * (k + 1)).natAbs < 18446744073709551616 := by omega
    have o1 : -18446744073709551616 < (s + 39373 * (k + 1)) ^ 5 % 2147483647 := by omega
    have o2 : (s + 39373 * (k + 1)) ^ 5 % 2147483647 < 18446744073709551616 := by omega
    have k1 : -18446744073709551616 < k + 1 := by omega
    have k2 : k + 1 < 18446744073709551616 := by omega
    refine ⟨((s + 39373 * (k + 1)) ^ 5 % 2147483647 * ((s + 39373 * (k + 1)) ^ 5 % 2147483647 % 40009 + 7) + (k + 1) * 7919) % 2147483629 / 64 % n, h.set b (some (.lst [.int d, .int s, .int (k + 1)])), ?_, Int.emod_nonneg _ (by omega), Int.emod_lt_of_pos _ h0, y, only_set _ _ _⟩
    unfold m__law_take
    walk_at "dl"
    exact leave_dat' hb y (only_set _ _ _)
theorem insert_perm {α : Type} (l : List α) (x : α) (i : Nat) : (l.take i ++ [x] ++ l.drop i).Perm (x :: l) := by
  have h1 : (l.take i ++ [x] ++ l.drop i).Perm ([x] ++ l.take i ++ l.drop i) := List.Perm.append_right _ List.perm_append_comm
  refine h1.trans ?_
  rw [List.append_assoc, List.take_append_drop]
  exact List.Perm.refl _
theorem only_app {b : Nat} {h h' : Hh} {o : Option MO} (hb : b < h.length) (x : Only b (h ++ [o]) h') : Only b h (h'.take h.length) ∧ ∃ g : Hh, h' = g ++ [o] ∧ g.length = h.length := by
  have hl : h'.length = h.length + 1 := by rw [x.len]; simp
  have e : h'[h.length]? = some o := by rw [x.off _ (by omega)]; simp
  have e2 : h' = h'.take h.length ++ [o] := by
    apply List.ext_getElem?
    intro i
    by_cases hi : i < h.length
    · rw [List.getElem?_append_left (by simp; omega), List.getElem?_take_of_lt hi]
    · by_cases hi2 : i = h.length
      · subst hi2
        rw [e, List.getElem?_append_right (by simp; omega)]
        simp [hl]
      · rw [List.getElem?_eq_none (by omega), List.getElem?_eq_none (by simp; omega)]
  refine ⟨⟨by simp [hl], fun i n => ?_⟩, h'.take h.length, e2, by simp [hl]⟩
  by_cases hi : i < h.length
  · rw [List.getElem?_take_of_lt hi, x.off i n, List.getElem?_append_left hi]
  · rw [List.getElem?_eq_none (by simp; omega), List.getElem?_eq_none (by omega)]
theorem box_app {h : Hh} {b c : Nat} {l : Hh} (x : BoxAt h b c) : BoxAt (h ++ l) b c := by
  have lb := x.lt
  obtain ⟨d, s, k, e, r⟩ := x
  exact ⟨d, s, k, by rw [List.getElem?_append_left lb]; exact e, r⟩
theorem box_take {h : Hh} {b c n : Nat} (x : BoxAt h b c) (hb : b < n) : BoxAt (h.take n) b c := by
  obtain ⟨d, s, k, e, r⟩ := x
  exact ⟨d, s, k, by rw [List.getElem?_take_of_lt hb]; exact e, r⟩
theorem take_snoc {α : Type} {l : List α} {n : Nat} {x : α} (e : l[n]? = some x) : l.take (n + 1) = l.take n ++ [x] := by
  rw [List.take_add_one, e]; rfl
theorem strewn_ok {h : Hh} {b c : Nat} {x : D} {ds : List D} (hx : x = .list ds ∨ x = .tuple ds) (hb : BoxAt h b c) (hc : c + ds.length < 1000000000) (hl : ds.length < 1000000) :
    ∃ rs h', m__law_strewn [.ref b, .dat x] h = some (.dat (.list rs), h') ∧ rs.Perm ds ∧ BoxAt h' b (c + ds.length) ∧ Only b h h' := by
  have hz : sizeLine = 16777216 := by rfl
  have key := forL_inv (k := gN 3) (body := sExpr (fM isL insertW (fVar 2) (fCons (fA (m__law_take) (fCons (fVar 0) (fCons (f2 (addW false) (fA lenW (fCons (fVar 2) (fNil))) (fC (.int 1))) (fNil)))) (fCons (fVar 3) (fNil)))))
    (fun n ρ g => ∃ (v : Option W) (rs : List D) (g' : Hh), ρ = [some (.ref b), some (.dat x), some (.ref h.length), v] ∧ g = g' ++ [some (.lst rs)] ∧ g'.length = h.length ∧ rs.Perm (ds.take n) ∧ BoxAt g' b (c + n) ∧ Only b h g') (ds := ds) (n := 0)
    (ρ := [some (.ref b), some (.dat x), some (.ref h.length), none]) (h := h ++ [some (.lst [])])
    ⟨none, [], h, rfl, rfl, rfl, by simp, hb, .refl _ _⟩ (by
      intro j d ej ρ g hi
      obtain ⟨v, rs, g', rfl, rfl, gl, pm, bx, on⟩ := hi
      rw [Nat.zero_add] at pm bx ⊢
      have hj : j < ds.length := (List.getElem?_eq_some_iff.mp ej).1
      have rl : rs.length = j := by rw [pm.length_eq, List.length_take]; omega
      have bg := bx.lt
      obtain ⟨r, g2, e2, r0, r1, bx2, on2⟩ := take_ok (n := (rs.length : Int) + 1) (box_app (l := [some (.lst rs)]) bx) (by omega) (by omega) (by omega)
      obtain ⟨on3, g3, rfl, g3l⟩ := only_app bg on2
      have hg : (g3 ++ [some (MO.lst rs)])[h.length]? = some (some (.lst rs)) := by rw [List.getElem?_append_right (by omega), g3l, gl]; simp
      have hg0 : (g' ++ [some (MO.lst rs)])[h.length]? = some (some (.lst rs)) := by rw [List.getElem?_append_right (by omega), gl]; simp
      have hs : (g3 ++ [some (MO.lst rs)]).set h.length (some (.lst (rs.take r.toNat ++ [d] ++ rs.drop r.toNat))) = g3 ++ [some (.lst (rs.take r.toNat ++ [d] ++ rs.drop r.toNat))] := by
        rw [List.set_append_right _ _ (by omega), show h.length - g3.length = 0 by omega]; rfl
      have c1 : rs.length < sizeLine := by omega
      have c2 : r < 1000000 := by omega
      refine ⟨[some (.ref b), some (.dat x), some (.ref h.length), some (.dat d)], [some (.ref b), some (.dat x), some (.ref h.length), some (.dat d)], g3 ++ [some (.lst (rs.take r.toNat ++ [d] ++ rs.drop r.toNat))], rfl, ?_, _, _, g3, rfl, rfl, by omega, ?_, ?_, ?_⟩
      · clear rl hz
        walk_at "dl"
      · rw [take_snoc ej]
        exact (insert_perm rs d _).trans ((List.Perm.cons d pm).trans (List.perm_append_singleton d _).symm)
      · have := box_take bx2 (n := g3.length) (by omega)
        rw [List.take_append_of_le_length (Nat.le_refl _), List.take_length] at this
        exact this
      · have e : (g3 ++ [some (MO.lst rs)]).take g'.length = g3 := by rw [← g3l, List.take_append_of_le_length (Nat.le_refl _), List.take_length]
        rw [e] at on3
        exact on.trans on3)
  obtain ⟨ρ', h', e, v, rs, g', rfl, rfl, gl, pm, bx, on⟩ := key
  rw [Nat.zero_add, List.take_length] at pm
  rw [Nat.zero_add] at bx
  refine ⟨rs, g', ?_, pm, bx, on⟩
  have hg : (g' ++ [some (MO.lst rs)])[h.length]? = some (some (.lst rs)) := by rw [List.getElem?_append_right (by omega), gl]; simp
  have et : (g' ++ [some (MO.lst rs)]).take h.length = g' := by rw [← gl, List.take_append_of_le_length (Nat.le_refl _), List.take_length]
  have hlv := live_only hb bx on
  have nl : ¬ h.length < h.length := by omega
  unfold m__law_strewn
  rcases hx with rfl | rfl
  · walk_at "dl"
    unfold leave
    walk_at "dl"
  · walk_at "dl"
    unfold leave
    walk_at "dl"
end DL
set_option maxRecDepth 100000
set_option maxHeartbeats 400000
namespace DL
open PySem L2
local macro_rules | `(tactic| walk_at "dl") => `(tactic| simp (config := { dsimp := false }) only [↓fnM_e, ↓sSeq_e, seqK_nx, seqK_rt, seqK_bk, seqK_ct, retK_rt, retK_nx, ↓sFrz_e, frK_some, ↓sAsg, ↓sRet, ↓sRetN, ↓sIf, ↓sExpr, ↓sSkip, ↓sNever, ↓sPar, ↓sFor, ↓sSub, ↓fVar, ↓fC, ↓fNil, ↓fCons, ↓fA, ↓f1, ↓f2, ↓fB, ↓fIf, ↓fNeg, ↓fNot, ↓fAnd, ↓fOr, ↓bNot, ↓bAnd, ↓bOr, ↓bYes, ↓obnd_x, ob_some, ↓sbnd_x, sb_some, ↓ite_x, iteK_t, iteK_f, gN, gT, gC, gE, ↓rng1I, ↓rng2I, ↓seqI, ↓enumA, ↓zipI, ↓strI, ↓fLc, ↓fDc, ↓fM, ↓fSl, ↓oNone, ↓oSome, ↓fRev, wipeE, ↓kwM, permM, permL, List.foldr, List.length_cons, List.length_nil, List.map_cons, List.map_nil, List.cons_append, List.nil_append, List.replicate, List.replicate_succ, List.replicate_zero, List.getElem?_cons_zero, List.getElem?_cons_succ, List.set_cons_zero, List.set_cons_succ, if_true, if_false, reduceIte, Nat.reduceAdd, Nat.reduceSub, Nat.reduceEqDiff, Nat.reduceLT, Nat.reduceLeDiff, Int.reduceLT, Int.reduceLE, Int.reduceNeg, Int.reduceMul, Int.reduceAdd, Int.reduceSub, Int.reduceToNat, Int.reducePow, Int.reduceEq, ok, bok, deref, mkL, lstW, tupW, dats, Option.map_some, appendW, insertW, setL, isL, listW, tupleW, lenW, absW, intC, maxW, minW, idxW, addW, subW_e, modW_e, divW_e, powW_e, mulW, intW, lt_e, gt_e, le_e, ge_e, ltW, allW_e, anyW_e, sumW_e, lW, setW, lstAt, cutW, backW, isW, isiW, iLT_none, iLT_bool, iLT_int, iLT_str, iLT_list, iLT_tup, iL_none, iL_bool, iL_int, iL_str, iL_list, iL_tup, iT_none, iT_bool, iT_int, iT_str, iT_list, iT_tup, iS_none, iS_bool, iS_int, iS_str, iS_list, iS_tup, iI_none, iI_bool, iI_int, iI_str, iI_list, iI_tup, iB_none, iB_bool, iB_int, iB_str, iB_list, iB_tup, Bool.false_eq_true, reduceCtorEq, Bool.not_true, Bool.not_false, decide_true, decide_false, List.zip_cons_cons, List.zip_nil_left, List.foldl_cons, List.foldl_nil, and_self, and_true, true_and, Bool.and_true, Bool.true_and, Bool.or_true, Bool.true_or, *])
theorem str_ext {a b : Str} (h : a.cps.toList = b.cps.toList) : a = b := by
  obtain ⟨⟨x⟩⟩ := a
  obtain ⟨⟨y⟩⟩ := b
  simp at h
  rw [h]
theorem cps_app (a b : Str) : (a ++ b).cps.toList = a.cps.toList ++ b.cps.toList := by
  show (a.cps ++ b.cps).toList = _
  simp
theorem len_app (a b : Str) : (a ++ b).length = a.length + b.length := by
  show (a.cps ++ b.cps).size = _
  simp [Str.length]
def lt1 (i : Nat) : Str := ⟨#[97 + i]⟩
def sfx : Nat → Str
  | 0 => ""
  | 1 => "a"
  | _ => "zz"
def nm (st sp at_ : Nat) : Str := lt1 ((st + sp * (at_ / 2)) % 26) ++ sfx (at_ % 2 * (1 + st % 2))
theorem sfx_len : (sfx 0).cps.toList = [] ∧ (sfx 1).cps.toList = [97] ∧ (sfx 2).cps.toList = [122, 122] := by decide +kernel
def Steps (sp : Nat) : Prop := sp = 1 ∨ sp = 3 ∨ sp = 25
theorem nm_cps (st sp a : Nat) : (nm st sp a).cps.toList = (97 + (st + sp * (a / 2)) % 26) :: (sfx (a % 2 * (1 + st % 2))).cps.toList := by
  unfold nm
  rw [cps_app]
  rfl
structure Crew (most : Nat) (rs : List Str) : Prop where
  nd : rs.Nodup
  pos : 0 < rs.length
  le : rs.length ≤ most
  nam : ∀ s ∈ rs, ∃ st sp a, st < 26 ∧ Steps sp ∧ s = nm st sp a
def unS : D → Str
  | .str s => s
  | _ => ""
theorem perm_strs {rs : List D} {l : List Str} (p : rs.Perm (l.map .str)) : ∃ rs' : List Str, rs = rs'.map .str ∧ rs'.Perm l := by
  refine ⟨rs.map unS, ?_, ?_⟩
  · rw [List.map_map]
    have : ∀ d ∈ rs, (PyData.str ∘ unS) d = d := fun d hd => by
      obtain ⟨s, _, rfl⟩ := List.mem_map.mp (p.mem_iff.mp hd)
      rfl
    rw [List.map_congr_left this]
    simp
  · have := p.map unS
    rw [List.map_map] at this
    simpa [Function.comp_def, unS] using this
theorem rng_get {n j : Nat} {d : D} (e : (rngD 0 n)[j]? = some d) : j < n ∧ d = .int (j : Int) := by
  obtain ⟨h1, h2⟩ := rngD_get e
  exact ⟨h1, by rw [h2]; simp⟩
theorem rng_len (n : Nat) : (rngD 0 n).length = n := by simp [rngD]
theorem sfx_le (k : Nat) : (sfx k).length ≤ 2 := by
  match k with
  | 0 => decide +kernel
  | 1 => decide +kernel
  | _ + 2 => show (sfx 2).length ≤ 2; decide +kernel
theorem leave_two {b c c' : Nat} {h g : Hh} {d : D} {o : Option MO} (x : BoxAt h b c) (y : BoxAt g b c') (on : Only b h g) : leave false h (.dat d) (g ++ [o]) = some (.dat d, g) := by
  have e : (g ++ [o]).take h.length = g := by rw [← on.len, List.take_append_of_le_length (Nat.le_refl _), List.take_length]
  rw [leave_dat (by rw [e]; exact live_only x y on), e]
end DL
set_option maxRecDepth 100000
set_option maxHeartbeats 400000
namespace DL
open PySem L2
local macro_rules | `(tactic| walk_at "dl") => `(tactic| simp (config := { dsimp := false }) only [↓fnM_e, ↓sSeq_e, seqK_nx, seqK_rt, seqK_bk, seqK_ct, retK_rt, retK_nx, ↓sFrz_e, frK_some, ↓sAsg, ↓sRet, ↓sRetN, ↓sIf, ↓sExpr, ↓sSkip, ↓sNever, ↓sPar, ↓sFor, ↓sSub, ↓fVar, ↓fC, ↓fNil, ↓fCons, ↓fA, ↓f1, ↓f2, ↓fB, ↓fIf, ↓fNeg, ↓fNot, ↓fAnd, ↓fOr, ↓bNot, ↓bAnd, ↓bOr, ↓bYes, ↓obnd_x, ob_some, ↓sbnd_x, sb_some, ↓ite_x, iteK_t, iteK_f, gN, gT, gC, gE, ↓rng1I, ↓rng2I, ↓seqI, ↓enumA, ↓zipI, ↓strI, ↓fLc, ↓fDc, ↓fM, ↓fSl, ↓oNone, ↓oSome, ↓fRev, wipeE, ↓kwM, permM, permL, List.foldr, List.length_cons, List.length_nil, List.map_cons, List.map_nil, List.cons_append, List.nil_append, List.replicate, List.replicate_succ, List.replicate_zero, List.getElem?_cons_zero, List.getElem?_cons_succ, List.set_cons_zero, List.set_cons_succ, if_true, if_false, reduceIte, Nat.reduceAdd, Nat.reduceSub, Nat.reduceEqDiff, Nat.reduceLT, Nat.reduceLeDiff, Int.reduceLT, Int.reduceLE, Int.reduceNeg, Int.reduceMul, Int.reduceAdd, Int.reduceSub, Int.reduceToNat, Int.reducePow, Int.reduceEq, ok, bok, deref, mkL, lstW, tupW, dats, Option.map_some, appendW, insertW, setL, isL, listW, tupleW, lenW, absW, intC, maxW, minW, idxW, addW, subW_e, modW_e, divW_e, powW_e, mulW, intW, lt_e, gt_e, le_e, ge_e, ltW, allW_e, anyW_e, sumW_e, lW, setW, lstAt, cutW, backW, isW, isiW, iLT_none, iLT_bool, iLT_int, iLT_str, iLT_list, iLT_tup, iL_none, iL_bool, iL_int, iL_str, iL_list, iL_tup, iT_none, iT_bool, iT_int, iT_str, iT_list, iT_tup, iS_none, iS_bool, iS_int, iS_str, iS_list, iS_tup, iI_none, iI_bool, iI_int, iI_str, iI_list, iI_tup, iB_none, iB_bool, iB_int, iB_str, iB_list, iB_tup, Bool.false_eq_true, reduceCtorEq, Bool.not_true, Bool.not_false, decide_true, decide_false, List.zip_cons_cons, List.zip_nil_left, List.foldl_cons, List.foldl_nil, and_self, and_true, true_and, Bool.and_true, Bool.true_and, Bool.or_true, Bool.true_or, *])
theorem zipD_self : ∀ ds : List D, zipD ds ds = ds.map fun d => .tuple [d, d]
  | [] => rfl
  | d :: ds => by rw [zipD, zipD_self ds]; rfl
theorem bools_true : ∀ n : Nat, bools (List.replicate n (.bool true)) = some (List.replicate n true)
  | 0 => rfl
  | n + 1 => by rw [List.replicate_succ, bools, bools_true n]; rfl
theorem all_true (n : Nat) : (List.replicate n true).all id = true := by induction n with
  | zero => rfl
  | succ n ih => rw [List.replicate_succ, List.all_cons, ih]; rfl
theorem eqS_bool (b : Bool) : eqS (.bool b) (.bool b) = some true := by simp [eqS]
theorem eqS_self_str (b : Str) : eqS (.str b) (.str b) = some true := by simp [eqS]
theorem eqS_self_int (b : Int) : eqS (.int b) (.int b) = some true := by simp [eqS]
theorem eqW_same {neg : Bool} {d : D} {h : Hh} (e : eqS d d = some true) : eqW neg (.dat d) (.dat d) h = bok (!neg) h := by
  unfold eqW
  simp only [deref, e]
  cases neg <;> rfl
mutual
def plainD : D → Bool
  | .dict _ => false
  | .list ds => plainDs ds && decide (ds.length ≤ sizeLine)
  | .tuple ds => plainDs ds && decide (ds.length ≤ sizeLine)
  | _ => true
def plainDs : List D → Bool
  | [] => true
  | d :: ds => plainD d && plainDs ds
end
theorem plainDs_mem : ∀ {ds : List D} {d : D}, plainDs ds = true → d ∈ ds → plainD d = true
  | _ :: _, _, h, .head _ => by rw [plainDs, Bool.and_eq_true] at h; exact h.1
  | _ :: ds, _, h, .tail _ m => by rw [plainDs, Bool.and_eq_true] at h; exact plainDs_mem h.2 m
theorem depthAll_mem : ∀ {ds : List D} {d : D}, d ∈ ds → d.depth ≤ PyData.depthAll ds
  | _ :: _, _, .head _ => by rw [PyData.depthAll]; exact Nat.le_max_left _ _
  | _ :: ds, _, .tail _ m => by rw [PyData.depthAll]; exact Nat.le_trans (depthAll_mem m) (Nat.le_max_right _ _)
theorem same_seq {n : Nat} {ds : List D} {h : Hh} (ih : ∀ d ∈ ds, m__law_same n [.dat d, .dat d] h = some (.dat (.bool true), h)) (v1 v2 : Option W) (hl : ds.length ≤ sizeLine) :
    lcL (gT 2 (gC (gN 2) (gC (gN 3) (gE)))) (bYes) (fA (m__law_same n) (fCons (fVar 2) (fCons (fVar 3) (fNil)))) [v1, v2, none, none] (zipD ds ds) h = some (List.replicate ds.length (.bool true), h) := by
  rw [zipD_self]
  rw [lcL_all (fun _ => .bool true) (ds := ds.map fun d => .tuple [d, d]) (fun d' hd' => ?_)]
  · rw [List.map_map]
    congr 2
    apply List.eq_replicate_iff.mpr
    exact ⟨by simp, fun b hb => by obtain ⟨d, hd, rfl⟩ := List.mem_map.mp hb; rfl⟩
  · obtain ⟨d, hd, rfl⟩ := List.mem_map.mp hd'
    have e := ih d hd
    refine ⟨[v1, v2, some (.dat d), some (.dat d)], ?_, rfl, ?_⟩
    · walk_at "dl"
    · walk_at "dl"
theorem callD_two (d : D) : callD [d, d] = false := by
  by_cases h : ∃ a b : Str, d = .tuple [.str a, .str b]
  · obtain ⟨a, b, rfl⟩ := h
    simp [callD, pairD, rowD, prTx, rowS]
  · by_cases h' : ∃ a : Str, d = .str a
    · obtain ⟨a, rfl⟩ := h'
      simp [callD, pairD, rowD, prTx, rowS]
    · exact callD_not _ (fun a b e => h ⟨a, b, e⟩) fun a e => h' ⟨a, e⟩
theorem zipOk_refl : ∀ ds : List D, zipOk ds ds = true
  | [] => rfl
  | d :: ds => by
    have ih := zipOk_refl ds
    unfold zipOk at ih ⊢
    simp only [zipD, List.all_cons, ih, notCall, callD_two]
    rfl
theorem same_refl : ∀ (n : Nat) (d : D) (h : Hh), plainD d = true → d.depth < n → m__law_same n [.dat d, .dat d] h = some (.dat (.bool true), h)
  | 0, _, _, _, hd => by omega
  | n + 1, d, h, hp, hd => by
    have tk : leave false h (.dat (.bool true)) h = some (.dat (.bool true), h) := leave_same'
    have e0 := fun b : Bool => eqW_same (neg := true) (h := h) (eqS_bool b)
    have e1 := fun b : Bool => eqW_same (neg := false) (h := h) (eqS_bool b)
    cases d with
    | none => 
      unfold m__law_same
      have e2 : eqW false (.dat .none) (.dat .none) h = bok true h := eqW_same rfl
      walk_at "dl"
    | bool b =>
      unfold m__law_same
      walk_at "dl"
    | int i =>
      unfold m__law_same
      have e2 := eqW_same (neg := false) (h := h) (eqS_self_int i)
      walk_at "dl"
    | str s =>
      unfold m__law_same
      have e2 := eqW_same (neg := false) (h := h) (eqS_self_str s)
      walk_at "dl"
    | list ds =>
      unfold m__law_same
      simp only [plainD, Bool.and_eq_true, decide_eq_true_eq] at hp
      simp only [PyData.depth] at hd
      have hl : ds.length ≤ sizeLine := hp.2
      have ez := zipOk_refl ds
      have e3 := same_seq (n := n) (ds := ds) (h := h) (fun d hd' => same_refl n d h (plainDs_mem hp.1 hd') (by have := depthAll_mem hd'; omega)) (some (.dat (.list ds))) (some (.dat (.list ds))) hl
      have e2 := eqW_same (neg := true) (h := h) (eqS_self_int (ds.length : Int))
      have e4 := bools_true ds.length
      have e5 := all_true ds.length
      have e6 : (List.replicate ds.length (PyData.bool true)).length ≤ sizeLine := by simpa using hl
      clear hd hp
      walk_at "dl"
    | tuple ds =>
      unfold m__law_same
      simp only [plainD, Bool.and_eq_true, decide_eq_true_eq] at hp
      simp only [PyData.depth] at hd
      have hl : ds.length ≤ sizeLine := hp.2
      have ez := zipOk_refl ds
      have e3 := same_seq (n := n) (ds := ds) (h := h) (fun d hd' => same_refl n d h (plainDs_mem hp.1 hd') (by have := depthAll_mem hd'; omega)) (some (.dat (.tuple ds))) (some (.dat (.tuple ds))) hl
      have e2 := eqW_same (neg := true) (h := h) (eqS_self_int (ds.length : Int))
      have e4 := bools_true ds.length
      have e5 := all_true ds.length
      have e6 : (List.replicate ds.length (PyData.bool true)).length ≤ sizeLine := by simpa using hl
      clear hd hp
      walk_at "dl"
    | dict es => simp [plainD] at hp
theorem forL_end {k : TM} {body : SM} (I : Nat → Env → Hh → Prop) {ds : List D} {ρ : Env} {h : Hh} (i : I 0 ρ h) (H : ∀ (j : Nat) (d : D), ds[j]? = some d → ∀ ρ h, I j ρ h → ∃ ρ1 ρ2 h2, k (.dat d) ρ h = some ρ1 ∧ body ρ1 h = some (.nx ρ2, h2) ∧ I (j + 1) ρ2 h2) :
    ∃ ρ' h', forL k body ds ρ h = some (.nx ρ', h') ∧ I ds.length ρ' h' := by
  have := forL_inv (k := k) (body := body) I (ds := ds) (n := 0) i fun j d e ρ h q => by
    have := H j d e ρ h (by rw [Nat.zero_add] at q; exact q)
    rw [Nat.zero_add]; exact this
  rw [Nat.zero_add] at this
  exact this
theorem leave_ref {h : Hh} {ds : List D} : leave true h (.ref h.length) (h ++ [some (.lst ds)]) = some (.ref h.length, h ++ [some (.lst ds)]) := by
  have e : (h ++ [some (MO.lst ds)]).take h.length = h := by rw [List.take_append_of_le_length (Nat.le_refl _), List.take_length]
  have e2 : (h ++ [some (MO.lst ds)])[h.length]? = some (some (.lst ds)) := by rw [List.getElem?_append_right (Nat.le_refl _)]; simp
  unfold leave
  rw [e, if_pos rfl]
  simp only [Nat.lt_irrefl, if_false, e2, if_true]
theorem bools_all : ∀ {rs : List D}, (∀ r ∈ rs, r = .bool true) → rs = List.replicate rs.length (.bool true)
  | [], _ => rfl
  | r :: rs, h => by
    rw [List.length_cons, List.replicate_succ, ← bools_all fun x hx => h x (List.mem_cons_of_mem _ hx), ← h r List.mem_cons_self]
end DL
set_option maxRecDepth 100000
set_option maxHeartbeats 400000
namespace DL
open PySem L2
local macro_rules | `(tactic| walk_at "dl") => `(tactic| simp (config := { dsimp := false }) only [↓fnM_e, ↓sSeq_e, seqK_nx, seqK_rt, seqK_bk, seqK_ct, retK_rt, retK_nx, ↓sFrz_e, frK_some, ↓sAsg, ↓sRet, ↓sRetN, ↓sIf, ↓sExpr, ↓sSkip, ↓sNever, ↓sPar, ↓sFor, ↓sSub, ↓fVar, ↓fC, ↓fNil, ↓fCons, ↓fA, ↓f1, ↓f2, ↓fB, ↓fIf, ↓fNeg, ↓fNot, ↓fAnd, ↓fOr, ↓bNot, ↓bAnd, ↓bOr, ↓bYes, ↓obnd_x, ob_some, ↓sbnd_x, sb_some, ↓ite_x, iteK_t, iteK_f, gN, gT, gC, gE, ↓rng1I, ↓rng2I, ↓seqI, ↓enumA, ↓zipI, ↓strI, ↓fLc, ↓fDc, ↓fM, ↓fSl, ↓oNone, ↓oSome, ↓fRev, wipeE, ↓kwM, permM, permL, List.foldr, List.length_cons, List.length_nil, List.map_cons, List.map_nil, List.cons_append, List.nil_append, List.replicate, List.replicate_succ, List.replicate_zero, List.getElem?_cons_zero, List.getElem?_cons_succ, List.set_cons_zero, List.set_cons_succ, if_true, if_false, reduceIte, Nat.reduceAdd, Nat.reduceSub, Nat.reduceEqDiff, Nat.reduceLT, Nat.reduceLeDiff, Int.reduceLT, Int.reduceLE, Int.reduceNeg, Int.reduceMul, Int.reduceAdd, Int.reduceSub, Int.reduceToNat, Int.reducePow, Int.reduceEq, ok, bok, deref, mkL, lstW, tupW, dats, Option.map_some, appendW, insertW, setL, isL, listW, tupleW, lenW, absW, intC, maxW, minW, idxW, addW, subW_e, modW_e, divW_e, powW_e, mulW, intW, lt_e, gt_e, le_e, ge_e, ltW, allW_e, anyW_e, sumW_e, lW, setW, lstAt, cutW, backW, isW, isiW, iLT_none, iLT_bool, iLT_int, iLT_str, iLT_list, iLT_tup, iL_none, iL_bool, iL_int, iL_str, iL_list, iL_tup, iT_none, iT_bool, iT_int, iT_str, iT_list, iT_tup, iS_none, iS_bool, iS_int, iS_str, iS_list, iS_tup, iI_none, iI_bool, iI_int, iI_str, iI_list, iI_tup, iB_none, iB_bool, iB_int, iB_str, iB_list, iB_tup, Bool.false_eq_true, reduceCtorEq, Bool.not_true, Bool.not_false, decide_true, decide_false, List.zip_cons_cons, List.zip_nil_left, List.foldl_cons, List.foldl_nil, and_self, and_true, true_and, Bool.and_true, Bool.true_and, Bool.or_true, Bool.true_or, *])
def TxtOk (s : Str) : Prop := s.length ≤ 100 ∧ ∀ c ∈ s.cps.toList, c < 128
theorem TxtOk.ok {s : Str} (h : TxtOk s) : PyData.strOk s = true := by
  unfold PyData.strOk
  rw [Array.all_eq_true']
  intro c hc
  have := h.2 c (by simpa using hc)
  simp; omega
abbrev Txts (l : List Str) : Prop := ∀ s ∈ l, TxtOk s
theorem nm_ok {st sp a : Nat} : TxtOk (nm st sp a) := by
  refine ⟨?_, fun c hc => ?_⟩
  · unfold nm
    rw [len_app]
    have := sfx_le (a % 2 * (1 + st % 2))
    show 1 + _ ≤ _
    omega
  · rw [nm_cps] at hc
    rcases List.mem_cons.mp hc with rfl | hc
    · omega
    · generalize a % 2 * (1 + st % 2) = k at hc
      match k, hc with
      | 0, hc => rw [sfx_len.1] at hc; cases hc
      | 1, hc => rw [sfx_len.2.1] at hc; simp at hc; omega
      | _ + 2, hc => 
        have hc' : c ∈ (sfx 2).cps.toList := hc
        rw [sfx_len.2.2] at hc'; simp at hc'; omega
theorem Crew.txts {most : Nat} {rs : List Str} (h : Crew most rs) : Txts rs := fun s hs => by
  obtain ⟨st, sp, a, _, _, rfl⟩ := h.nam s hs
  exact nm_ok
theorem Txts.perm {l m : List Str} (h : Txts l) (p : m.Perm l) : Txts m := fun s hs => h s (p.mem_iff.mp hs)
def leS (a b : Str) : Bool := decide (a.cps.toList ≤ b.cps.toList)
theorem leS_trans (a b c : Str) (h1 : leS a b = true) (h2 : leS b c = true) : leS a c = true := by
  unfold leS at *
  simp only [decide_eq_true_eq] at *
  exact List.le_trans h1 h2
theorem leS_total (a b : Str) : (leS a b || leS b a) = true := by
  unfold leS
  simp only [Bool.or_eq_true, decide_eq_true_eq]
  exact List.le_total _ _
theorem leS_antisymm {a b : Str} (h1 : leS a b = true) (h2 : leS b a = true) : a = b := by
  unfold leS at *
  simp only [decide_eq_true_eq] at *
  exact str_ext (List.le_antisymm h1 h2)
def sortS (l : List Str) : List Str := l.mergeSort leS
theorem sortS_perm (l : List Str) : (sortS l).Perm l := List.mergeSort_perm _ _
theorem sortS_pw (l : List Str) : (sortS l).Pairwise fun a b => leS a b = true := List.pairwise_mergeSort leS_trans leS_total l
theorem sortS_eq {a b : List Str} (h : a.Perm b) : sortS a = sortS b :=
  List.Perm.eq_of_pairwise (fun x y _ _ h1 h2 => leS_antisymm h1 h2) (sortS_pw a) (sortS_pw b) ((sortS_perm a).trans (h.trans (sortS_perm b).symm))
theorem sortD_strs (l : List Str) : sortD (l.map .str) = (sortS l).map .str := by
  unfold sortD sortS
  have e := PySem.W.dataLe_str (fun s : Str => s)
  rw [← PySem.W.sort_maps (r := leS) (s := PySem.W.dataLe false fun d : D => d) (fun s : Str => (.str s : D)) (l := l) fun a _ b _ => ?_]
  have := congrFun (congrFun e a) b
  unfold leS
  rw [← this]
  rfl
theorem alike_strs (l : List Str) : (l.map PyData.str).all (fun d => (l.map PyData.str).all fun e => PySem.W.alike d e) = true := by
  rw [List.all_eq_true]
  intro d hd
  rw [List.all_eq_true]
  intro e he
  obtain ⟨a, _, rfl⟩ := List.mem_map.mp hd
  obtain ⟨b, _, rfl⟩ := List.mem_map.mp he
  rfl
theorem shp_strs {l : List Str} (ht : Txts l) : (l.map PyData.str).all shp = true := by
  rw [List.all_eq_true]
  intro d hd
  obtain ⟨a, ha, rfl⟩ := List.mem_map.mp hd
  simp [shp, PyData.canLay0, PyData.depth, (ht a ha).ok]
theorem sortable_strs {l : List Str} (ht : Txts l) : sortable (l.map .str) = true := by
  unfold sortable
  rw [alike_strs, shp_strs ht]
  simp only [Bool.true_and, Bool.and_true, Bool.or_eq_true]
  right
  rw [List.all_eq_true]
  intro d hd
  obtain ⟨a, _, rfl⟩ := List.mem_map.mp hd
  rfl
abbrev IsSeq (x : D) (ds : List D) : Prop := x = .list ds ∨ x = .tuple ds
theorem sortW_strs {x : D} {l : List Str} {h : Hh} (hx : IsSeq x (l.map .str)) (ht : Txts l) : sortW false [.dat x] h = some (.dat (.list ((sortS l).map .str)), h) := by
  have e := sortD_strs l
  have e2 := sortable_strs ht
  clear ht
  rcases hx with rfl | rfl <;> (unfold sortW; walk_at "dl")
theorem canLay_strs : ∀ {l : List Str}, Txts l → PyData.canLayAll0 (l.map .str) = true
  | [], _ => rfl
  | s :: l, h => by rw [List.map_cons, PyData.canLayAll0, canLay_strs fun t ht => h t (List.mem_cons_of_mem _ ht)]; simp [PyData.canLay0, (h s List.mem_cons_self).ok]
theorem depth_strs : ∀ l : List Str, PyData.depthAll (l.map .str) = 0
  | [] => rfl
  | s :: l => by rw [List.map_cons, PyData.depthAll, depth_strs l]; simp [PyData.depth]
theorem shp_list {l : List Str} (ht : Txts l) : shp (.list (l.map .str)) = true := by
  unfold shp
  rw [PyData.canLay0, canLay_strs ht, PyData.depth, depth_strs]
  rfl
end DL
set_option maxRecDepth 100000
set_option maxHeartbeats 400000
namespace DL
open PySem L2
local macro_rules | `(tactic| walk_at "dl") => `(tactic| simp (config := { dsimp := false }) only [↓fnM_e, ↓sSeq_e, seqK_nx, seqK_rt, seqK_bk, seqK_ct, retK_rt, retK_nx, ↓sFrz_e, frK_some, ↓sAsg, ↓sRet, ↓sRetN, ↓sIf, ↓sExpr, ↓sSkip, ↓sNever, ↓sPar, ↓sFor, ↓sSub, ↓fVar, ↓fC, ↓fNil, ↓fCons, ↓fA, ↓f1, ↓f2, ↓fB, ↓fIf, ↓fNeg, ↓fNot, ↓fAnd, ↓fOr, ↓bNot, ↓bAnd, ↓bOr, ↓bYes, ↓obnd_x, ob_some, ↓sbnd_x, sb_some, ↓ite_x, iteK_t, iteK_f, gN, gT, gC, gE, ↓rng1I, ↓rng2I, ↓seqI, ↓enumA, ↓zipI, ↓strI, ↓fLc, ↓fDc, ↓fM, ↓fSl, ↓oNone, ↓oSome, ↓fRev, wipeE, ↓kwM, permM, permL, List.foldr, List.length_cons, List.length_nil, List.map_cons, List.map_nil, List.cons_append, List.nil_append, List.replicate, List.replicate_succ, List.replicate_zero, List.getElem?_cons_zero, List.getElem?_cons_succ, List.set_cons_zero, List.set_cons_succ, if_true, if_false, reduceIte, Nat.reduceAdd, Nat.reduceSub, Nat.reduceEqDiff, Nat.reduceLT, Nat.reduceLeDiff, Int.reduceLT, Int.reduceLE, Int.reduceNeg, Int.reduceMul, Int.reduceAdd, Int.reduceSub, Int.reduceToNat, Int.reducePow, Int.reduceEq, ok, bok, deref, mkL, lstW, tupW, dats, Option.map_some, appendW, insertW, setL, isL, listW, tupleW, lenW, absW, intC, maxW, minW, idxW, addW, subW_e, modW_e, divW_e, powW_e, mulW, intW, lt_e, gt_e, le_e, ge_e, ltW, allW_e, anyW_e, sumW_e, lW, setW, lstAt, cutW, backW, isW, isiW, iLT_none, iLT_bool, iLT_int, iLT_str, iLT_list, iLT_tup, iL_none, iL_bool, iL_int, iL_str, iL_list, iL_tup, iT_none, iT_bool, iT_int, iT_str, iT_list, iT_tup, iS_none, iS_bool, iS_int, iS_str, iS_list, iS_tup, iI_none, iI_bool, iI_int, iI_str, iI_list, iI_tup, iB_none, iB_bool, iB_int, iB_str, iB_list, iB_tup, Bool.false_eq_true, reduceCtorEq, Bool.not_true, Bool.not_false, decide_true, decide_false, List.zip_cons_cons, List.zip_nil_left, List.foldl_cons, List.foldl_nil, and_self, and_true, true_and, Bool.and_true, Bool.true_and, Bool.or_true, Bool.true_or, *])
end DL
set_option maxRecDepth 100000
set_option maxHeartbeats 400000
namespace DL
open PySem L2
mutual
/-- texts, lists and tuples of such -/
def txD : D → Bool
  | .str s => decide (s.length ≤ 100) && s.cps.toList.all (· < 128)
  | .list ds => txDs ds
  | .tuple ds => txDs ds
  | .none => true
  | .bool _ => true
  | _ => false
def txDs : List D → Bool
  | [] => true
  | d :: ds => txD d && txDs ds
end
mutual
def costD : D → Nat
  | .str s => 10 * s.length + 2
  | .list ds => costDs ds + 3
  | .tuple ds => costDs ds + 3
  | _ => 5
def costDs : List D → Nat
  | [] => 0
  | d :: ds => costD d + 2 + costDs ds
end
theorem tx_str {s : Str} (h : TxtOk s) : txD (.str s) = true := by
  rw [txD]
  simp only [Bool.and_eq_true, decide_eq_true_eq, List.all_eq_true]
  exact ⟨h.1, fun c hc => h.2 c hc⟩
theorem str_tx {s : Str} (h : txD (.str s) = true) : TxtOk s := by
  rw [txD] at h
  simp only [Bool.and_eq_true, decide_eq_true_eq, List.all_eq_true] at h
  exact ⟨h.1, fun c hc => h.2 c hc⟩
mutual
theorem tx_lay : ∀ {d : D}, txD d = true → d.canLay0 = true ∧ d.showable = true ∧ d.shown.length ≤ costD d
  | .none, _ => by refine ⟨by simp [PyData.canLay0], by simp [PyData.showable], ?_⟩; rw [PyData.shown, costD]; · decide +kernel
                   all_goals simp
  | .bool b, _ => by
    refine ⟨by simp [PyData.canLay0], by simp [PyData.showable], ?_⟩
    rw [PyData.shown, costD]
    · cases b <;> decide +kernel
    all_goals simp
  | .int _, h => by simp [txD] at h
  | .dict _, h => by simp [txD] at h
  | .str s, h => by
    have t := str_tx h
    refine ⟨by rw [PyData.canLay0]; exact t.ok, by simp [PyData.showable], ?_⟩
    rw [PyData.shown, costD]
    exact StrLaws.reprText_len s fun c hc => by have := t.2 c hc; omega
  | .list ds, h => by
    rw [txD] at h
    obtain ⟨h1, h2, h3⟩ := tx_lays h
    refine ⟨by rw [PyData.canLay0]; exact h1, by rw [PyData.showable]; exact h2, ?_⟩
    rw [PyData.shown, costD]
    exact Nat.le_trans (listText_len_le _) (by omega)
  | .tuple ds, h => by
    rw [txD] at h
    obtain ⟨h1, h2, h3⟩ := tx_lays h
    refine ⟨by rw [PyData.canLay0]; exact h1, by rw [PyData.showable]; exact h2, ?_⟩
    rw [PyData.shown, costD]
    exact Nat.le_trans (tupleText_len_le _) (by omega)
theorem tx_lays : ∀ {ds : List D}, txDs ds = true → PyData.canLayAll0 ds = true ∧ PyData.showableAll ds = true ∧ ((PyData.shownAll ds).map (·.length)).sum + 2 * (PyData.shownAll ds).length ≤ costDs ds
  | [], _ => ⟨rfl, rfl, Nat.le_refl _⟩
  | d :: ds, h => by
    rw [txDs, Bool.and_eq_true] at h
    obtain ⟨a1, a2, a3⟩ := tx_lay h.1
    obtain ⟨b1, b2, b3⟩ := tx_lays h.2
    refine ⟨by rw [PyData.canLayAll0, a1, b1]; rfl, by rw [PyData.showableAll, a2, b2]; rfl, ?_⟩
    rw [PyData.shownAll, costDs, List.map_cons, List.sum_cons, List.length_cons]
    omega
end
end DL
set_option maxRecDepth 100000
set_option maxHeartbeats 400000
namespace DL
open PySem L2
local macro_rules | `(tactic| walk_at "dl") => `(tactic| simp (config := { dsimp := false }) only [↓fnM_e, ↓sSeq_e, seqK_nx, seqK_rt, seqK_bk, seqK_ct, retK_rt, retK_nx, ↓sFrz_e, frK_some, ↓sAsg, ↓sRet, ↓sRetN, ↓sIf, ↓sExpr, ↓sSkip, ↓sNever, ↓sPar, ↓sFor, ↓sSub, ↓fVar, ↓fC, ↓fNil, ↓fCons, ↓fA, ↓f1, ↓f2, ↓fB, ↓fIf, ↓fNeg, ↓fNot, ↓fAnd, ↓fOr, ↓bNot, ↓bAnd, ↓bOr, ↓bYes, ↓obnd_x, ob_some, ↓sbnd_x, sb_some, ↓ite_x, iteK_t, iteK_f, gN, gT, gC, gE, ↓rng1I, ↓rng2I, ↓seqI, ↓enumA, ↓zipI, ↓strI, ↓fLc, ↓fDc, ↓fM, ↓fSl, ↓oNone, ↓oSome, ↓fRev, wipeE, ↓kwM, permM, permL, List.foldr, List.length_cons, List.length_nil, List.map_cons, List.map_nil, List.cons_append, List.nil_append, List.replicate, List.replicate_succ, List.replicate_zero, List.getElem?_cons_zero, List.getElem?_cons_succ, List.set_cons_zero, List.set_cons_succ, if_true, if_false, reduceIte, Nat.reduceAdd, Nat.reduceSub, Nat.reduceEqDiff, Nat.reduceLT, Nat.reduceLeDiff, Int.reduceLT, Int.reduceLE, Int.reduceNeg, Int.reduceMul, Int.reduceAdd, Int.reduceSub, Int.reduceToNat, Int.reducePow, Int.reduceEq, ok, bok, deref, mkL, lstW, tupW, dats, Option.map_some, appendW, insertW, setL, isL, listW, tupleW, lenW, absW, intC, maxW, minW, idxW, addW, subW_e, modW_e, divW_e, powW_e, mulW, intW, lt_e, gt_e, le_e, ge_e, ltW, allW_e, anyW_e, sumW_e, lW, setW, lstAt, cutW, backW, isW, isiW, iLT_none, iLT_bool, iLT_int, iLT_str, iLT_list, iLT_tup, iL_none, iL_bool, iL_int, iL_str, iL_list, iL_tup, iT_none, iT_bool, iT_int, iT_str, iT_list, iT_tup, iS_none, iS_bool, iS_int, iS_str, iS_list, iS_tup, iI_none, iI_bool, iI_int, iI_str, iI_list, iI_tup, iB_none, iB_bool, iB_int, iB_str, iB_list, iB_tup, Bool.false_eq_true, reduceCtorEq, Bool.not_true, Bool.not_false, decide_true, decide_false, List.zip_cons_cons, List.zip_nil_left, List.foldl_cons, List.foldl_nil, and_self, and_true, true_and, Bool.and_true, Bool.true_and, Bool.or_true, Bool.true_or, *])
theorem zipD_map {α β : Type} (f : α → D) (g : β → D) : ∀ (l : List α) (m : List β), zipD (l.map f) (m.map g) = (l.zip m).map fun p => .tuple [f p.1, g p.2]
  | [], _ => by simp [zipD]
  | _ :: _, [] => by simp [zipD]
  | a :: l, b :: m => by simp [zipD, zipD_map f g l m]
theorem idx_of {r : List Str} (nd : r.Nodup) {i : Nat} (hi : i < r.length) : r.idxOf r[i] = i := nd.idxOf_getElem i hi
end DL
set_option maxRecDepth 100000
set_option maxHeartbeats 400000
namespace DL
open PySem L2
local macro_rules | `(tactic| walk_at "dl") => `(tactic| simp (config := { dsimp := false }) only [↓fnM_e, ↓sSeq_e, seqK_nx, seqK_rt, seqK_bk, seqK_ct, retK_rt, retK_nx, ↓sFrz_e, frK_some, ↓sAsg, ↓sRet, ↓sRetN, ↓sIf, ↓sExpr, ↓sSkip, ↓sNever, ↓sPar, ↓sFor, ↓sSub, ↓fVar, ↓fC, ↓fNil, ↓fCons, ↓fA, ↓f1, ↓f2, ↓fB, ↓fIf, ↓fNeg, ↓fNot, ↓fAnd, ↓fOr, ↓bNot, ↓bAnd, ↓bOr, ↓bYes, ↓obnd_x, ob_some, ↓sbnd_x, sb_some, ↓ite_x, iteK_t, iteK_f, gN, gT, gC, gE, ↓rng1I, ↓rng2I, ↓seqI, ↓enumA, ↓zipI, ↓strI, ↓fLc, ↓fDc, ↓fM, ↓fSl, ↓oNone, ↓oSome, ↓fRev, wipeE, ↓kwM, permM, permL, List.foldr, List.length_cons, List.length_nil, List.map_cons, List.map_nil, List.cons_append, List.nil_append, List.replicate, List.replicate_succ, List.replicate_zero, List.getElem?_cons_zero, List.getElem?_cons_succ, List.set_cons_zero, List.set_cons_succ, if_true, if_false, reduceIte, Nat.reduceAdd, Nat.reduceSub, Nat.reduceEqDiff, Nat.reduceLT, Nat.reduceLeDiff, Int.reduceLT, Int.reduceLE, Int.reduceNeg, Int.reduceMul, Int.reduceAdd, Int.reduceSub, Int.reduceToNat, Int.reducePow, Int.reduceEq, ok, bok, deref, mkL, lstW, tupW, dats, Option.map_some, appendW, insertW, setL, isL, listW, tupleW, lenW, absW, intC, maxW, minW, idxW, addW, subW_e, modW_e, divW_e, powW_e, mulW, intW, lt_e, gt_e, le_e, ge_e, ltW, allW_e, anyW_e, sumW_e, lW, setW, lstAt, cutW, backW, isW, isiW, iLT_none, iLT_bool, iLT_int, iLT_str, iLT_list, iLT_tup, iL_none, iL_bool, iL_int, iL_str, iL_list, iL_tup, iT_none, iT_bool, iT_int, iT_str, iT_list, iT_tup, iS_none, iS_bool, iS_int, iS_str, iS_list, iS_tup, iI_none, iI_bool, iI_int, iI_str, iI_list, iI_tup, iB_none, iB_bool, iB_int, iB_str, iB_list, iB_tup, Bool.false_eq_true, reduceCtorEq, Bool.not_true, Bool.not_false, decide_true, decide_false, List.zip_cons_cons, List.zip_nil_left, List.foldl_cons, List.foldl_nil, and_self, and_true, true_and, Bool.and_true, Bool.true_and, Bool.or_true, Bool.true_or, *])
def Pre (h0 h : Hh) : Prop := ∀ i : Nat, i < h0.length → h[i]? = h0[i]?
theorem Pre.only {h0 h h' : Hh} {b : Nat} (p : Pre h0 h) (hb : h0.length ≤ b) (o : Only b h h') : Pre h0 h' := fun i hi => (o.off i (by omega)).trans (p i hi)
theorem Pre.app {h0 h l : Hh} (p : Pre h0 h) (hl : h0.length ≤ h.length) : Pre h0 (h ++ l) := fun i hi => by
  rw [List.getElem?_append_left (by omega)]; exact p i hi
theorem Pre.take {h0 h : Hh} (p : Pre h0 h) (hl : h0.length ≤ h.length) : h.take h0.length = h0 := by
  apply List.ext_getElem?
  intro i
  by_cases hi : i < h0.length
  · rw [List.getElem?_take_of_lt hi]; exact p i hi
  · rw [List.getElem?_eq_none (by rw [List.length_take]; omega), List.getElem?_eq_none (by omega)]
end DL
set_option maxRecDepth 100000
set_option maxHeartbeats 400000
namespace DL
open PySem L2
local macro_rules | `(tactic| walk_at "dl") => `(tactic| simp (config := { dsimp := false }) only [↓fnM_e, ↓sSeq_e, seqK_nx, seqK_rt, seqK_bk, seqK_ct, retK_rt, retK_nx, ↓sFrz_e, frK_some, ↓sAsg, ↓sRet, ↓sRetN, ↓sIf, ↓sExpr, ↓sSkip, ↓sNever, ↓sPar, ↓sFor, ↓sSub, ↓fVar, ↓fC, ↓fNil, ↓fCons, ↓fA, ↓f1, ↓f2, ↓fB, ↓fIf, ↓fNeg, ↓fNot, ↓fAnd, ↓fOr, ↓bNot, ↓bAnd, ↓bOr, ↓bYes, ↓obnd_x, ob_some, ↓sbnd_x, sb_some, ↓ite_x, iteK_t, iteK_f, gN, gT, gC, gE, ↓rng1I, ↓rng2I, ↓seqI, ↓enumA, ↓zipI, ↓strI, ↓fLc, ↓fDc, ↓fM, ↓fSl, ↓oNone, ↓oSome, ↓fRev, wipeE, ↓kwM, permM, permL, List.foldr, List.length_cons, List.length_nil, List.map_cons, List.map_nil, List.cons_append, List.nil_append, List.replicate, List.replicate_succ, List.replicate_zero, List.getElem?_cons_zero, List.getElem?_cons_succ, List.set_cons_zero, List.set_cons_succ, if_true, if_false, reduceIte, Nat.reduceAdd, Nat.reduceSub, Nat.reduceEqDiff, Nat.reduceLT, Nat.reduceLeDiff, Int.reduceLT, Int.reduceLE, Int.reduceNeg, Int.reduceMul, Int.reduceAdd, Int.reduceSub, Int.reduceToNat, Int.reducePow, Int.reduceEq, ok, bok, deref, mkL, lstW, tupW, dats, Option.map_some, appendW, insertW, setL, isL, listW, tupleW, lenW, absW, intC, maxW, minW, idxW, addW, subW_e, modW_e, divW_e, powW_e, mulW, intW, lt_e, gt_e, le_e, ge_e, ltW, allW_e, anyW_e, sumW_e, lW, setW, lstAt, cutW, backW, isW, isiW, iLT_none, iLT_bool, iLT_int, iLT_str, iLT_list, iLT_tup, iL_none, iL_bool, iL_int, iL_str, iL_list, iL_tup, iT_none, iT_bool, iT_int, iT_str, iT_list, iT_tup, iS_none, iS_bool, iS_int, iS_str, iS_list, iS_tup, iI_none, iI_bool, iI_int, iI_str, iI_list, iI_tup, iB_none, iB_bool, iB_int, iB_str, iB_list, iB_tup, Bool.false_eq_true, reduceCtorEq, Bool.not_true, Bool.not_false, decide_true, decide_false, List.zip_cons_cons, List.zip_nil_left, List.foldl_cons, List.foldl_nil, and_self, and_true, true_and, Bool.and_true, Bool.true_and, Bool.or_true, Bool.true_or, *])
def prW (l : Bool) (p : Str × Str) : D := if l = true then .list [.str p.1, .str p.2] else .tuple [.str p.1, .str p.2]
abbrev prT (p : Str × Str) : D := .tuple [.str p.1, .str p.2]
def tld (ps : List (Str × Str)) : List (Str × D) := ps.map fun p => (p.1, .str p.2)
theorem tld_keys (ps : List (Str × Str)) : (tld ps).map (·.1) = ps.map (·.1) := by simp [tld]
end DL
set_option maxRecDepth 100000
set_option maxHeartbeats 400000
namespace DL
open PySem L2
local macro_rules | `(tactic| walk_at "dl") => `(tactic| simp (config := { dsimp := false }) only [↓fnM_e, ↓sSeq_e, seqK_nx, seqK_rt, seqK_bk, seqK_ct, retK_rt, retK_nx, ↓sFrz_e, frK_some, ↓sAsg, ↓sRet, ↓sRetN, ↓sIf, ↓sExpr, ↓sSkip, ↓sNever, ↓sPar, ↓sFor, ↓sSub, ↓fVar, ↓fC, ↓fNil, ↓fCons, ↓fA, ↓f1, ↓f2, ↓fB, ↓fIf, ↓fNeg, ↓fNot, ↓fAnd, ↓fOr, ↓bNot, ↓bAnd, ↓bOr, ↓bYes, ↓obnd_x, ob_some, ↓sbnd_x, sb_some, ↓ite_x, iteK_t, iteK_f, gN, gT, gC, gE, ↓rng1I, ↓rng2I, ↓seqI, ↓enumA, ↓zipI, ↓strI, ↓fLc, ↓fDc, ↓fM, ↓fSl, ↓oNone, ↓oSome, ↓fRev, wipeE, ↓kwM, permM, permL, List.foldr, List.length_cons, List.length_nil, List.map_cons, List.map_nil, List.cons_append, List.nil_append, List.replicate, List.replicate_succ, List.replicate_zero, List.getElem?_cons_zero, List.getElem?_cons_succ, List.set_cons_zero, List.set_cons_succ, if_true, if_false, reduceIte, Nat.reduceAdd, Nat.reduceSub, Nat.reduceEqDiff, Nat.reduceLT, Nat.reduceLeDiff, Int.reduceLT, Int.reduceLE, Int.reduceNeg, Int.reduceMul, Int.reduceAdd, Int.reduceSub, Int.reduceToNat, Int.reducePow, Int.reduceEq, ok, bok, deref, mkL, lstW, tupW, dats, Option.map_some, appendW, insertW, setL, isL, listW, tupleW, lenW, absW, intC, maxW, minW, idxW, addW, subW_e, modW_e, divW_e, powW_e, mulW, intW, lt_e, gt_e, le_e, ge_e, ltW, allW_e, anyW_e, sumW_e, lW, setW, lstAt, cutW, backW, isW, isiW, iLT_none, iLT_bool, iLT_int, iLT_str, iLT_list, iLT_tup, iL_none, iL_bool, iL_int, iL_str, iL_list, iL_tup, iT_none, iT_bool, iT_int, iT_str, iT_list, iT_tup, iS_none, iS_bool, iS_int, iS_str, iS_list, iS_tup, iI_none, iI_bool, iI_int, iI_str, iI_list, iI_tup, iB_none, iB_bool, iB_int, iB_str, iB_list, iB_tup, Bool.false_eq_true, reduceCtorEq, Bool.not_true, Bool.not_false, decide_true, decide_false, List.zip_cons_cons, List.zip_nil_left, List.foldl_cons, List.foldl_nil, and_self, and_true, true_and, Bool.and_true, Bool.true_and, Bool.or_true, Bool.true_or, *])
def goal (ps : List (Str × Str)) (s : Str) : Str := (ps.lookup s).getD s
def keyN (r : List Str) (ps : List (Str × Str)) (s : Str) : Nat × Nat := (r.idxOf (goal ps s), r.idxOf s)
def leK (a b : Nat × Nat) : Bool := decide (a.1 < b.1 ∨ (a.1 = b.1 ∧ a.2 ≤ b.2))
def led (r : List Str) (ps : List (Str × Str)) : List Str := r.mergeSort fun a b => leK (keyN r ps a) (keyN r ps b)
theorem leK_trans (a b c : Nat × Nat) (h1 : leK a b = true) (h2 : leK b c = true) : leK a c = true := by
  unfold leK at *
  simp only [decide_eq_true_eq] at *
  omega
theorem leK_total (a b : Nat × Nat) : (leK a b || leK b a) = true := by
  unfold leK
  simp only [Bool.or_eq_true, decide_eq_true_eq]
  omega
theorem led_perm (r : List Str) (ps : List (Str × Str)) : (led r ps).Perm r := List.mergeSort_perm _ _
theorem led_pw (r : List Str) (ps : List (Str × Str)) : (led r ps).Pairwise fun a b => leK (keyN r ps a) (keyN r ps b) = true :=
  List.pairwise_mergeSort (le := fun a b => leK (keyN r ps a) (keyN r ps b)) (fun a b c => leK_trans _ _ _) (fun a b => leK_total _ _) r
structure CallOf (r : List Str) (ps : List (Str × Str)) : Prop where
  perm : (ps.map (·.1)).Perm r
  tgt : ∀ p ∈ ps, p.2 ∈ r
theorem CallOf.nodup {r : List Str} {ps : List (Str × Str)} (c : CallOf r ps) (nd : r.Nodup) : (ps.map (·.1)).Nodup := c.perm.nodup_iff.mpr nd
theorem CallOf.of_perm {r r' : List Str} {ps : List (Str × Str)} (c : CallOf r ps) (p : r.Perm r') : CallOf r' ps := ⟨c.perm.trans p, fun q hq => p.mem_iff.mp (c.tgt q hq)⟩
theorem look_tld : ∀ (ps : List (Str × Str)) (s : Str), (tld ps).lookup s = (ps.lookup s).map .str
  | [], s => rfl
  | (a, b) :: ps, s => by
    have ih := look_tld ps s
    unfold tld at ih ⊢
    rw [List.map_cons, List.lookup_cons, List.lookup_cons]
    cases s == a with
    | true => rfl
    | false => exact ih
theorem look_mem : ∀ {ps : List (Str × Str)} {s : Str}, s ∈ ps.map (·.1) → ∃ t, ps.lookup s = some t ∧ (s, t) ∈ ps
  | [], s, h => by cases h
  | (a, b) :: ps, s, h => by
    rw [List.lookup_cons]
    cases e : s == a with
    | true =>
      have : s = a := by simpa using e
      subst this
      exact ⟨b, rfl, List.mem_cons_self⟩
    | false =>
      have hne : s ≠ a := by simpa using e
      rw [List.map_cons] at h
      rcases List.mem_cons.mp h with z | h
      · exact absurd z hne
      · obtain ⟨t, h1, h2⟩ := look_mem h
        exact ⟨t, h1, List.mem_cons_of_mem _ h2⟩
theorem CallOf.goal_mem {r : List Str} {ps : List (Str × Str)} (c : CallOf r ps) {s : Str} (hs : s ∈ r) : ps.lookup s = some (goal ps s) ∧ goal ps s ∈ r := by
  obtain ⟨t, h1, h2⟩ := look_mem (c.perm.mem_iff.mpr hs)
  have e : goal ps s = t := by unfold goal; rw [h1]; rfl
  rw [e]
  exact ⟨h1, c.tgt _ h2⟩
end DL
set_option maxRecDepth 100000
set_option maxHeartbeats 400000
namespace DL
open PySem L2
local macro_rules | `(tactic| walk_at "dl") => `(tactic| simp (config := { dsimp := false }) only [↓fnM_e, ↓sSeq_e, seqK_nx, seqK_rt, seqK_bk, seqK_ct, retK_rt, retK_nx, ↓sFrz_e, frK_some, ↓sAsg, ↓sRet, ↓sRetN, ↓sIf, ↓sExpr, ↓sSkip, ↓sNever, ↓sPar, ↓sFor, ↓sSub, ↓fVar, ↓fC, ↓fNil, ↓fCons, ↓fA, ↓f1, ↓f2, ↓fB, ↓fIf, ↓fNeg, ↓fNot, ↓fAnd, ↓fOr, ↓bNot, ↓bAnd, ↓bOr, ↓bYes, ↓obnd_x, ob_some, ↓sbnd_x, sb_some, ↓ite_x, iteK_t, iteK_f, gN, gT, gC, gE, ↓rng1I, ↓rng2I, ↓seqI, ↓enumA, ↓zipI, ↓strI, ↓fLc, ↓fDc, ↓fM, ↓fSl, ↓oNone, ↓oSome, ↓fRev, wipeE, ↓kwM, permM, permL, List.foldr, List.length_cons, List.length_nil, List.map_cons, List.map_nil, List.cons_append, List.nil_append, List.replicate, List.replicate_succ, List.replicate_zero, List.getElem?_cons_zero, List.getElem?_cons_succ, List.set_cons_zero, List.set_cons_succ, if_true, if_false, reduceIte, Nat.reduceAdd, Nat.reduceSub, Nat.reduceEqDiff, Nat.reduceLT, Nat.reduceLeDiff, Int.reduceLT, Int.reduceLE, Int.reduceNeg, Int.reduceMul, Int.reduceAdd, Int.reduceSub, Int.reduceToNat, Int.reducePow, Int.reduceEq, ok, bok, deref, mkL, lstW, tupW, dats, Option.map_some, appendW, insertW, setL, isL, listW, tupleW, lenW, absW, intC, maxW, minW, idxW, addW, subW_e, modW_e, divW_e, powW_e, mulW, intW, lt_e, gt_e, le_e, ge_e, ltW, allW_e, anyW_e, sumW_e, lW, setW, lstAt, cutW, backW, isW, isiW, iLT_none, iLT_bool, iLT_int, iLT_str, iLT_list, iLT_tup, iL_none, iL_bool, iL_int, iL_str, iL_list, iL_tup, iT_none, iT_bool, iT_int, iT_str, iT_list, iT_tup, iS_none, iS_bool, iS_int, iS_str, iS_list, iS_tup, iI_none, iI_bool, iI_int, iI_str, iI_list, iI_tup, iB_none, iB_bool, iB_int, iB_str, iB_list, iB_tup, Bool.false_eq_true, reduceCtorEq, Bool.not_true, Bool.not_false, decide_true, decide_false, List.zip_cons_cons, List.zip_nil_left, List.foldl_cons, List.foldl_nil, and_self, and_true, true_and, Bool.and_true, Bool.true_and, Bool.or_true, Bool.true_or, *])
theorem prW_false : prW false = prT := by funext p; rfl
theorem of_ok {x : D} {ds : List D} {h : Hh} {b c : Nat} (hx : IsSeq x ds) (hb : BoxAt h b c) (hc : c < 1000000000) (h0 : 0 < ds.length) (h1 : ds.length ≤ 1000) :
    ∃ d h', m__law_of [.ref b, .dat x] h = some (.dat d, h') ∧ d ∈ ds ∧ BoxAt h' b (c + 1) ∧ Only b h h' := by
  obtain ⟨r, h', e, r0, r1, b1, o1⟩ := take_ok (n := (ds.length : Int)) hb (by omega) (by omega) (by omega)
  have hr : r.toNat < ds.length := by omega
  have e2 : L2.atI ds r = some ds[r.toNat] := by
    have := atI_nat (xs := ds) (j := r.toNat) (List.getElem?_eq_getElem hr)
    rwa [show ((r.toNat : Nat) : Int) = r by omega] at this
  obtain ⟨d, hd, e3⟩ : ∃ d, d ∈ ds ∧ L2.atI ds r = some d := ⟨_, List.getElem_mem hr, e2⟩
  refine ⟨d, h', ?_, hd, b1, o1⟩
  have lv := leave_dat' (d := d) hb b1 o1
  unfold m__law_of
  clear e2 hd hb b1 o1 r0 r1 hr h0 h1 hc
  rcases hx with rfl | rfl <;> walk_at "dl"
end DL
set_option maxRecDepth 100000
set_option maxHeartbeats 400000
namespace DL
open PySem L2
local macro_rules | `(tactic| walk_at "dl") => `(tactic| simp (config := { dsimp := false }) only [↓fnM_e, ↓sSeq_e, seqK_nx, seqK_rt, seqK_bk, seqK_ct, retK_rt, retK_nx, ↓sFrz_e, frK_some, ↓sAsg, ↓sRet, ↓sRetN, ↓sIf, ↓sExpr, ↓sSkip, ↓sNever, ↓sPar, ↓sFor, ↓sSub, ↓fVar, ↓fC, ↓fNil, ↓fCons, ↓fA, ↓f1, ↓f2, ↓fB, ↓fIf, ↓fNeg, ↓fNot, ↓fAnd, ↓fOr, ↓bNot, ↓bAnd, ↓bOr, ↓bYes, ↓obnd_x, ob_some, ↓sbnd_x, sb_some, ↓ite_x, iteK_t, iteK_f, gN, gT, gC, gE, ↓rng1I, ↓rng2I, ↓seqI, ↓enumA, ↓zipI, ↓strI, ↓fLc, ↓fDc, ↓fM, ↓fSl, ↓oNone, ↓oSome, ↓fRev, wipeE, ↓kwM, permM, permL, List.foldr, List.length_cons, List.length_nil, List.map_cons, List.map_nil, List.cons_append, List.nil_append, List.replicate, List.replicate_succ, List.replicate_zero, List.getElem?_cons_zero, List.getElem?_cons_succ, List.set_cons_zero, List.set_cons_succ, if_true, if_false, reduceIte, Nat.reduceAdd, Nat.reduceSub, Nat.reduceEqDiff, Nat.reduceLT, Nat.reduceLeDiff, Int.reduceLT, Int.reduceLE, Int.reduceNeg, Int.reduceMul, Int.reduceAdd, Int.reduceSub, Int.reduceToNat, Int.reducePow, Int.reduceEq, ok, bok, deref, mkL, lstW, tupW, dats, Option.map_some, appendW, insertW, setL, isL, listW, tupleW, lenW, absW, intC, maxW, minW, idxW, addW, subW_e, modW_e, divW_e, powW_e, mulW, intW, lt_e, gt_e, le_e, ge_e, ltW, allW_e, anyW_e, sumW_e, lW, setW, lstAt, cutW, backW, isW, isiW, iLT_none, iLT_bool, iLT_int, iLT_str, iLT_list, iLT_tup, iL_none, iL_bool, iL_int, iL_str, iL_list, iL_tup, iT_none, iT_bool, iT_int, iT_str, iT_list, iT_tup, iS_none, iS_bool, iS_int, iS_str, iS_list, iS_tup, iI_none, iI_bool, iI_int, iI_str, iI_list, iI_tup, iB_none, iB_bool, iB_int, iB_str, iB_list, iB_tup, Bool.false_eq_true, reduceCtorEq, Bool.not_true, Bool.not_false, decide_true, decide_false, List.zip_cons_cons, List.zip_nil_left, List.foldl_cons, List.foldl_nil, and_self, and_true, true_and, Bool.and_true, Bool.true_and, Bool.or_true, Bool.true_or, *])
noncomputable def askBody : SM := sSeq (sPar (fCons (fA (m__law_of) (fCons (fVar 0) (fCons (fVar 3) (fNil)))) (fCons (fA (m__law_of) (fCons (fVar 0) (fCons (fVar 5) (fNil)))) (fNil))) [10, 11])
    (sSeq (sAsg (fIf (fB (f2 (eqW false) (fA (m__law_take) (fCons (fVar 0) (fCons (fC (.int 4)) (fNil)))) (fC (.int 0)))) (fVar 10) (fVar 8)) (gN 9))
    (sExpr (fM isL appendW (fVar 2) (fCons (fA tupW (fCons (fVar 8) (fCons (f2 idxW (fA (lstW false) (fCons (fVar 10) (fCons (fVar 10) (fCons (fVar 11) (fCons (fVar 9) (fCons (f2 idxW (fVar 6) (fVar 7)) (fCons (fVar 11) (fNil)))))))) (fVar 4)) (fNil)))) (fNil)))))
theorem eqW_ints {neg : Bool} {i j : Int} {h : Hh} : eqW neg (.dat (.int i)) (.dat (.int j)) h = bok (if neg = true then !decide (i = j) else decide (i = j)) h := by
  rfl
theorem ask_turn {b p : Nat} {x : W} {folk some_ swap fs : List D} {so j r : Int} {a n m w t : Str} {v9 v10 v11 : Option W} {g g1 g2 g3 : Hh} (e1 : m__law_of [.ref b, .dat (.list folk)] g = some (.dat (.str a), g1)) (e2 : m__law_of [.ref b, .dat (.list some_)] g1 = some (.dat (.str n), g2))
    (e3 : m__law_take [.ref b, .dat (.int 4)] g2 = some (.dat (.int r), g3)) (e5 : L2.atI swap j = some (.str w)) (e6 : L2.atI [PyData.str a, .str a, .str n, (if decide (r = 0) = true then .str a else .str m), .str w, .str n] so = some (.str t)) (hg : g3[p]? = some (some (.lst fs))) (hl : fs.length < sizeLine) :
    ∃ v9' : Option W, askBody [some (.ref b), some x, some (.ref p), some (.dat (.list folk)), some (.dat (.int so)), some (.dat (.list some_)), some (.dat (.list swap)), some (.dat (.int j)), some (.dat (.str m)), v9, v10, v11] g =
      some (.nx [some (.ref b), some x, some (.ref p), some (.dat (.list folk)), some (.dat (.int so)), some (.dat (.list some_)), some (.dat (.list swap)), some (.dat (.int j)), some (.dat (.str m)), v9', some (.dat (.str a)), some (.dat (.str n))], g3.set p (some (.lst (fs ++ [.tuple [.str m, .str t]])))) ∧ ∀ k, isR k v9' = false := by
  have e4 := eqW_ints (neg := false) (i := r) (j := 0) (h := g3)
  have c2 : 2 ≤ sizeLine := by decide
  have c6 : 6 ≤ sizeLine := by decide
  unfold askBody
  cases hz : decide (r = 0) with
  | true =>
    rw [hz] at e4 e6
    refine ⟨some (.dat (.str a)), ?_, fun _ => rfl⟩
    clear hz
    simp only [if_true] at e6
    walk_at "dl"
  | false =>
    rw [hz] at e4 e6
    refine ⟨some (.dat (.str m)), ?_, fun _ => rfl⟩
    clear hz
    simp only [Bool.false_eq_true, if_false] at e6
    walk_at "dl"
theorem cut_to {α : Type} (xs : List α) {k : Nat} : cutG xs none (some (k : Int)) = xs.take k := by
  have e : HT.sIx xs.length xs.length (some (k : Int)) = min k xs.length := HT.sIx_nat _ _ _
  have e0 : HT.sIx xs.length 0 none = 0 := rfl
  unfold cutG
  rw [e, e0]
  simp only [List.drop_zero, Nat.sub_zero]
  rw [List.take_eq_take_iff]
  omega
end DL
set_option maxRecDepth 100000
set_option maxHeartbeats 400000
namespace DL
open PySem L2
local macro_rules | `(tactic| walk_at "dl") => `(tactic| simp (config := { dsimp := false }) only [↓fnM_e, ↓sSeq_e, seqK_nx, seqK_rt, seqK_bk, seqK_ct, retK_rt, retK_nx, ↓sFrz_e, frK_some, ↓sAsg, ↓sRet, ↓sRetN, ↓sIf, ↓sExpr, ↓sSkip, ↓sNever, ↓sPar, ↓sFor, ↓sSub, ↓fVar, ↓fC, ↓fNil, ↓fCons, ↓fA, ↓f1, ↓f2, ↓fB, ↓fIf, ↓fNeg, ↓fNot, ↓fAnd, ↓fOr, ↓bNot, ↓bAnd, ↓bOr, ↓bYes, ↓obnd_x, ob_some, ↓sbnd_x, sb_some, ↓ite_x, iteK_t, iteK_f, gN, gT, gC, gE, ↓rng1I, ↓rng2I, ↓seqI, ↓enumA, ↓zipI, ↓strI, ↓fLc, ↓fDc, ↓fM, ↓fSl, ↓oNone, ↓oSome, ↓fRev, wipeE, ↓kwM, permM, permL, List.foldr, List.length_cons, List.length_nil, List.map_cons, List.map_nil, List.cons_append, List.nil_append, List.replicate, List.replicate_succ, List.replicate_zero, List.getElem?_cons_zero, List.getElem?_cons_succ, List.set_cons_zero, List.set_cons_succ, if_true, if_false, reduceIte, Nat.reduceAdd, Nat.reduceSub, Nat.reduceEqDiff, Nat.reduceLT, Nat.reduceLeDiff, Int.reduceLT, Int.reduceLE, Int.reduceNeg, Int.reduceMul, Int.reduceAdd, Int.reduceSub, Int.reduceToNat, Int.reducePow, Int.reduceEq, ok, bok, deref, mkL, lstW, tupW, dats, Option.map_some, appendW, insertW, setL, isL, listW, tupleW, lenW, absW, intC, maxW, minW, idxW, addW, subW_e, modW_e, divW_e, powW_e, mulW, intW, lt_e, gt_e, le_e, ge_e, ltW, allW_e, anyW_e, sumW_e, lW, setW, lstAt, cutW, backW, isW, isiW, iLT_none, iLT_bool, iLT_int, iLT_str, iLT_list, iLT_tup, iL_none, iL_bool, iL_int, iL_str, iL_list, iL_tup, iT_none, iT_bool, iT_int, iT_str, iT_list, iT_tup, iS_none, iS_bool, iS_int, iS_str, iS_list, iS_tup, iI_none, iI_bool, iI_int, iI_str, iI_list, iI_tup, iB_none, iB_bool, iB_int, iB_str, iB_list, iB_tup, Bool.false_eq_true, reduceCtorEq, Bool.not_true, Bool.not_false, decide_true, decide_false, List.zip_cons_cons, List.zip_nil_left, List.foldl_cons, List.foldl_nil, and_self, and_true, true_and, Bool.and_true, Bool.true_and, Bool.or_true, Bool.true_or, *])
theorem ask_run {h g1 g2 g3 g4 g5 : Hh} {b p : Nat} {x : D} {folk st sw ps : List D} {r6 r3 : Int} {k3 : Nat} {v7 v8 v9 v10 v11 : Option W} (e0 : sortW false [.dat x] h = some (.dat (.list folk), h)) (e1 : m__law_take [.ref b, .dat (.int 6)] h = some (.dat (.int r6), g1))
    (e2 : m__law_strewn [.ref b, .dat (.list folk)] g1 = some (.dat (.list st), g2)) (e3 : m__law_take [.ref b, .dat (.int 3)] g2 = some (.dat (.int r3), g3)) (hk : 1 + r3 = (k3 : Int)) (e4 : m__law_strewn [.ref b, .dat (.list folk)] g3 = some (.dat (.list sw), g4)) (hp : p = g4.length)
    (key : forL (gT 2 (gC (gN 7) (gC (gN 8) (gE)))) askBody (enumD 0 folk) [some (.ref b), some (.dat x), some (.ref p), some (.dat (.list folk)), some (.dat (.int r6)), some (.dat (.list (st.take k3))), some (.dat (.list sw)), none, none, none, none, none] (g4 ++ [some (.lst [])]) =
      some (.nx [some (.ref b), some (.dat x), some (.ref p), some (.dat (.list folk)), some (.dat (.int r6)), some (.dat (.list (st.take k3))), some (.dat (.list sw)), v7, v8, v9, v10, v11], g5))
    (h7 : ∀ n, isR n v7 = false) (h8 : ∀ n, isR n v8 = false) (h9 : ∀ n, isR n v9 = false) (h10 : ∀ n, isR n v10 = false) (h11 : ∀ n, isR n v11 = false) (hg : g5[p]? = some (some (.lst ps))) (hbp : (b = p) = False) :
    m__law_ask [.ref b, .dat x] h = leave false h (.dat (.tuple ps)) (g5.set p none) := by
  have c8 : 0 ≤ sizeLine := Nat.zero_le _
  have ct := cut_to st (k := k3)
  have hf : frz 2 [some (.ref b), some (.dat x), some (.ref p), some (.dat (.list folk)), some (.dat (.int r6)), some (.dat (.list (st.take k3))), some (.dat (.list sw)), v7, v8, v9, v10, v11] g5 =
      some ([some (.ref b), some (.dat x), some (.dat (.list ps)), some (.dat (.list folk)), some (.dat (.int r6)), some (.dat (.list (st.take k3))), some (.dat (.list sw)), v7, v8, v9, v10, v11], g5.set p none) := by
    unfold frz
    simp only [List.getElem?_cons_zero, List.getElem?_cons_succ, hg, List.set_cons_zero, List.set_cons_succ, List.any_cons, List.any_nil, h7, h8, h9, h10, h11, isR_ref, isR_dat, isR_none, hbp, decide_false, Bool.or_false, isTab, Bool.false_eq_true, if_false, moD]
  unfold askBody at key
  subst hp
  unfold m__law_ask
  clear h7 h8 h9 h10 h11 hg hbp
  walk_at "dl"
theorem enum_get {r : List Str} {j : Nat} {d : D} (e : (enumD 0 (r.map .str))[j]? = some d) : ∃ hj : j < r.length, d = .tuple [.int (j : Int), .str r[j]] := by
  obtain ⟨s, hs, rfl⟩ := enumD_get e
  rw [List.getElem?_map] at hs
  cases q : r[j]? with
  | none => rw [q] at hs; cases hs
  | some t =>
    rw [q] at hs
    obtain ⟨hj, rfl⟩ := List.getElem?_eq_some_iff.mp q
    cases hs
    exact ⟨hj, by rw [Nat.zero_add]⟩
theorem atI_strs {l : List Str} {j : Nat} (hj : j < l.length) : L2.atI (l.map PyData.str) (j : Int) = some (.str l[j]) :=
  atI_nat (xs := l.map PyData.str) (j := j) (by rw [List.getElem?_map, List.getElem?_eq_getElem hj]; rfl)
theorem app_take {g : Hh} {o : Option MO} {n : Nat} (e : g.length = n) : (g ++ [o]).take n = g := by
  rw [← e, List.take_append_of_le_length (Nat.le_refl _), List.take_length]
theorem app_get {g : Hh} {o : Option MO} {n : Nat} (e : g.length = n) : (g ++ [o])[n]? = some o := by
  rw [List.getElem?_append_right (by omega), e]; simp
theorem app_set {g : Hh} {o o' : Option MO} {n : Nat} (e : g.length = n) : (g ++ [o]).set n o' = g ++ [o'] := by
  rw [List.set_append_right _ _ (by omega), show n - g.length = 0 by omega]; rfl
theorem ask_ok {x : D} {l : List Str} {h : Hh} {b c : Nat} (hx : IsSeq x (l.map .str)) (ht : Txts l) (hb : BoxAt h b c) (hc : c < 1000000) (h0 : 0 < l.length) (h1 : l.length ≤ 1000) :
    ∃ (ps : List (Str × Str)) (h' : Hh), m__law_ask [.ref b, .dat x] h = some (.dat (.tuple (ps.map prT)), h') ∧ ps.map (·.1) = sortS l ∧ (∀ p ∈ ps, p.2 ∈ l) ∧ BoxAt h' b (c + 2 + 5 * l.length) ∧ Only b h h' := by
  have hz : sizeLine = 16777216 := by rfl
  have e0 := sortW_strs (h := h) hx ht
  have sp := sortS_perm l
  have sl := sp.length_eq
  obtain ⟨r6, g1, e1, p1, q1, b1, o1⟩ := take_ok (n := 6) hb (by omega) (by omega) (by omega)
  obtain ⟨st', g2, e2, pm2, b2, o2⟩ := strewn_ok (x := .list ((sortS l).map .str)) (.inl rfl) b1 (by rw [List.length_map]; omega) (by rw [List.length_map]; omega)
  obtain ⟨st, rfl, ps2⟩ := perm_strs pm2
  obtain ⟨r3, g3, e3, p3, q3, b3, o3⟩ := take_ok (n := 3) b2 (by rw [List.length_map]; omega) (by omega) (by omega)
  obtain ⟨sw', g4, e4, pm4, b4, o4⟩ := strewn_ok (x := .list ((sortS l).map .str)) (.inl rfl) b3 (by rw [List.length_map]; omega) (by rw [List.length_map]; omega)
  obtain ⟨sw, rfl, ps4⟩ := perm_strs pm4
  obtain ⟨k3, hk, hk1⟩ : ∃ k3 : Nat, 1 + r3 = (k3 : Int) ∧ 0 < k3 := ⟨(1 + r3).toNat, by omega, by omega⟩
  have b4' : BoxAt g4 b (c + 2 + 2 * l.length) := b4.mono (by rw [List.length_map]; omega)
  have on4 := o1.trans (o2.trans (o3.trans o4))
  have lb := b4.lt
  have swl := ps4.length_eq
  have stl := ps2.length_eq
  have st3 : (st.map PyData.str).take k3 = (st.take k3).map .str := List.map_take.symm
  have st3l : 0 < (st.take k3).length := by rw [List.length_take]; omega
  have st3m : (st.take k3).length ≤ 1000 := by rw [List.length_take]; omega
  have key := forL_inv (k := gT 2 (gC (gN 7) (gC (gN 8) (gE)))) (body := askBody)
    (fun n ρ g => ∃ (v7 v8 v9 v10 v11 : Option W) (ps : List (Str × Str)) (g' : Hh), (∀ n, isR n v7 = false) ∧ (∀ n, isR n v8 = false) ∧ (∀ n, isR n v9 = false) ∧ (∀ n, isR n v10 = false) ∧ (∀ n, isR n v11 = false) ∧
      ρ = [some (.ref b), some (.dat x), some (.ref g4.length), some (.dat (.list ((sortS l).map .str))), some (.dat (.int r6)), some (.dat (.list ((st.take k3).map .str))), some (.dat (.list (sw.map .str))), v7, v8, v9, v10, v11] ∧ g = g' ++ [some (.lst (ps.map prT))] ∧
      ps.map (·.1) = (sortS l).take n ∧ (∀ p ∈ ps, p.2 ∈ l) ∧ BoxAt g' b (c + 2 + 2 * l.length + 3 * n) ∧ Only b g4 g') (ds := enumD 0 ((sortS l).map .str)) (n := 0)
    (ρ := [some (.ref b), some (.dat x), some (.ref g4.length), some (.dat (.list ((sortS l).map .str))), some (.dat (.int r6)), some (.dat (.list ((st.take k3).map .str))), some (.dat (.list (sw.map .str))), none, none, none, none, none]) (h := g4 ++ [some (.lst [])])
    ⟨none, none, none, none, none, [], g4, fun _ => rfl, fun _ => rfl, fun _ => rfl, fun _ => rfl, fun _ => rfl, rfl, rfl, rfl, by simp, b4', .refl _ _⟩ (by
      intro j d ej ρ g hi
      obtain ⟨v7, v8, v9, v10, v11, ps, g', i7, i8, i9, i10, i11, rfl, rfl, pf, pt, bx, on⟩ := hi
      obtain ⟨hj, rfl⟩ := enum_get ej
      rw [Nat.zero_add] at pf bx ⊢
      obtain ⟨d1, k1, f1, m1, bx1, on1⟩ := of_ok (x := .list ((sortS l).map .str)) (.inl rfl) (box_app (l := [some (.lst (ps.map prT))]) bx) (by omega) (by rw [List.length_map]; omega) (by rw [List.length_map]; omega)
      obtain ⟨a, ha, rfl⟩ := List.mem_map.mp m1
      obtain ⟨d2, k2, f2, m2, bx2, on2⟩ := of_ok (x := .list ((st.take k3).map .str)) (.inl rfl) bx1 (by omega) (by rw [List.length_map]; omega) (by rw [List.length_map]; omega)
      obtain ⟨n, hn, rfl⟩ := List.mem_map.mp m2
      obtain ⟨r4, g3', f3, p4, q4, bx3, on3⟩ := take_ok (n := 4) bx2 (by omega) (by omega) (by omega)
      obtain ⟨onA, gA, rfl, gAl⟩ := only_app bx.lt (on1.trans (on2.trans on3))
      have gl := on.len
      have hla : a ∈ l := sp.mem_iff.mp ha
      have hln : n ∈ l := sp.mem_iff.mp (ps2.mem_iff.mp (List.mem_of_mem_take hn))
      have hlm : (sortS l)[j] ∈ l := sp.mem_iff.mp (List.getElem_mem hj)
      have hlw : sw[j]'(by omega) ∈ l := sp.mem_iff.mp (ps4.mem_iff.mp (List.getElem_mem _))
      obtain ⟨t, htl, e6⟩ : ∃ t, t ∈ l ∧ L2.atI [PyData.str a, .str a, .str n, (if decide (r4 = 0) = true then .str a else .str (sortS l)[j]), .str (sw[j]'(by omega)), .str n] r6 = some (.str t) := by
        have : r6 = 0 ∨ r6 = 1 ∨ r6 = 2 ∨ r6 = 3 ∨ r6 = 4 ∨ r6 = 5 := by omega
        rcases this with rfl | rfl | rfl | rfl | rfl | rfl
        · exact ⟨_, hla, rfl⟩
        · exact ⟨_, hla, rfl⟩
        · exact ⟨_, hln, rfl⟩
        · cases decide (r4 = 0)
          · exact ⟨_, hlm, rfl⟩
          · exact ⟨_, hla, rfl⟩
        · exact ⟨_, hlw, rfl⟩
        · exact ⟨_, hln, rfl⟩
      have pl : ps.length = j := by
        have := congrArg List.length pf
        rw [List.length_map, List.length_take] at this
        omega
      obtain ⟨v9', et, h9'⟩ := ask_turn (p := g4.length) (x := .dat x) (v9 := v9) (v10 := v10) (v11 := v11) f1 f2 f3 (atI_strs (l := sw) (j := j) (by omega)) e6 (app_get (by omega)) (by rw [List.length_map]; omega)
      rw [app_set (by omega)] at et
      refine ⟨_, _, _, ?_, et, _, _, v9', _, _, ps ++ [((sortS l)[j], t)], gA, fun _ => rfl, fun _ => rfl, h9', fun _ => rfl, fun _ => rfl, rfl, ?_, ?_, ?_, ?_, ?_⟩
      · clear hz e0 e1 e2 e3 e4 f1 f2 f3 et e6 ej pl
        walk_at "dl"
      · simp
      · rw [List.map_append, pf, take_snoc (List.getElem?_eq_getElem hj)]; rfl
      · intro p hp
        rcases List.mem_append.mp hp with hp | hp
        · exact pt p hp
        · rw [List.mem_singleton] at hp; subst hp; exact htl
      · have := box_take bx3 (n := gA.length) (by rw [gAl]; exact bx.lt)
        rw [app_take rfl] at this
        exact this.mono (by omega)
      · rw [app_take gAl] at onA
        exact on.trans onA)
  obtain ⟨ρ', g5, ek, v7, v8, v9, v10, v11, ps, g', i7, i8, i9, i10, i11, rfl, rfl, pf, pt, bx, on⟩ := key
  rw [Nat.zero_add, enumD_len, List.length_map] at pf bx
  rw [List.take_length] at pf
  refine ⟨ps, g', ?_, pf, pt, bx.mono (by omega), on4.trans on⟩
  have gl := on.len
  rw [ask_run (st := st.map .str) (sw := sw.map .str) (k3 := k3) e0 e1 e2 e3 hk e4 rfl (by rw [st3]; exact ek) i7 i8 i9 i10 i11 (app_get (by omega)) (eq_false (by omega)), app_set (by omega)]
  exact leave_two hb bx (on4.trans on)
end DL
set_option maxRecDepth 100000
set_option maxHeartbeats 400000
namespace DL
open PySem L2
local macro_rules | `(tactic| walk_at "dl") => `(tactic| simp (config := { dsimp := false }) only [↓fnM_e, ↓sSeq_e, seqK_nx, seqK_rt, seqK_bk, seqK_ct, retK_rt, retK_nx, ↓sFrz_e, frK_some, ↓sAsg, ↓sRet, ↓sRetN, ↓sIf, ↓sExpr, ↓sSkip, ↓sNever, ↓sPar, ↓sFor, ↓sSub, ↓fVar, ↓fC, ↓fNil, ↓fCons, ↓fA, ↓f1, ↓f2, ↓fB, ↓fIf, ↓fNeg, ↓fNot, ↓fAnd, ↓fOr, ↓bNot, ↓bAnd, ↓bOr, ↓bYes, ↓obnd_x, ob_some, ↓sbnd_x, sb_some, ↓ite_x, iteK_t, iteK_f, gN, gT, gC, gE, ↓rng1I, ↓rng2I, ↓seqI, ↓enumA, ↓zipI, ↓strI, ↓fLc, ↓fDc, ↓fM, ↓fSl, ↓oNone, ↓oSome, ↓fRev, wipeE, ↓kwM, permM, permL, List.foldr, List.length_cons, List.length_nil, List.map_cons, List.map_nil, List.cons_append, List.nil_append, List.replicate, List.replicate_succ, List.replicate_zero, List.getElem?_cons_zero, List.getElem?_cons_succ, List.set_cons_zero, List.set_cons_succ, if_true, if_false, reduceIte, Nat.reduceAdd, Nat.reduceSub, Nat.reduceEqDiff, Nat.reduceLT, Nat.reduceLeDiff, Int.reduceLT, Int.reduceLE, Int.reduceNeg, Int.reduceMul, Int.reduceAdd, Int.reduceSub, Int.reduceToNat, Int.reducePow, Int.reduceEq, ok, bok, deref, mkL, lstW, tupW, dats, Option.map_some, appendW, insertW, setL, isL, listW, tupleW, lenW, absW, intC, maxW, minW, idxW, addW, subW_e, modW_e, divW_e, powW_e, mulW, intW, lt_e, gt_e, le_e, ge_e, ltW, allW_e, anyW_e, sumW_e, lW, setW, lstAt, cutW, backW, isW, isiW, iLT_none, iLT_bool, iLT_int, iLT_str, iLT_list, iLT_tup, iL_none, iL_bool, iL_int, iL_str, iL_list, iL_tup, iT_none, iT_bool, iT_int, iT_str, iT_list, iT_tup, iS_none, iS_bool, iS_int, iS_str, iS_list, iS_tup, iI_none, iI_bool, iI_int, iI_str, iI_list, iI_tup, iB_none, iB_bool, iB_int, iB_str, iB_list, iB_tup, Bool.false_eq_true, reduceCtorEq, Bool.not_true, Bool.not_false, decide_true, decide_false, List.zip_cons_cons, List.zip_nil_left, List.foldl_cons, List.foldl_nil, and_self, and_true, true_and, Bool.and_true, Bool.true_and, Bool.or_true, Bool.true_or, *])
def NameOk (s : Str) : Prop := 1 ≤ s.length ∧ s.length ≤ 6 ∧ ∀ c ∈ s.cps.toList, 97 ≤ c ∧ c ≤ 122
theorem nm_name {st sp a : Nat} : NameOk (nm st sp a) := by
  refine ⟨?_, ?_, fun c hc => ?_⟩
  · unfold nm
    rw [len_app]
    show 1 ≤ 1 + _
    omega
  · unfold nm
    rw [len_app]
    have := sfx_le (a % 2 * (1 + st % 2))
    show 1 + _ ≤ _
    omega
  · rw [nm_cps] at hc
    rcases List.mem_cons.mp hc with rfl | hc
    · omega
    · generalize a % 2 * (1 + st % 2) = k at hc
      match k, hc with
      | 0, hc => rw [sfx_len.1] at hc; cases hc
      | 1, hc => rw [sfx_len.2.1] at hc; simp at hc; omega
      | _ + 2, hc =>
        have hc' : c ∈ (sfx 2).cps.toList := hc
        rw [sfx_len.2.2] at hc'; simp at hc'; omega
theorem Crew.names {most : Nat} {rs : List Str} (h : Crew most rs) : ∀ s ∈ rs, NameOk s := fun s hs => by
  obtain ⟨st, sp, a, _, _, rfl⟩ := h.nam s hs
  exact nm_name
end DL
set_option maxRecDepth 100000
set_option maxHeartbeats 400000
namespace DL
open PySem L2
theorem plain_strs : ∀ l : List Str, plainDs (l.map PyData.str) = true
  | [] => rfl
  | a :: l => by rw [List.map_cons, plainDs, plain_strs l]; rfl
theorem plain_pairs : ∀ ps : List (Str × Str), plainDs (ps.map prT) = true
  | [] => rfl
  | a :: l => by rw [List.map_cons, plainDs, plain_pairs l]; rfl
theorem depth_pairs : ∀ ps : List (Str × Str), PyData.depthAll (ps.map prT) ≤ 1
  | [] => Nat.zero_le _
  | a :: l => by
    rw [List.map_cons, PyData.depthAll]
    have := depth_pairs l
    have e : PyData.depth (prT a) = 1 := rfl
    omega
theorem plain_row {l : List Str} (hl : l.length ≤ 1000) : plainD (.tuple (l.map .str)) = true := by
  rw [plainD, plain_strs, Bool.true_and, decide_eq_true_eq, List.length_map]
  exact Nat.le_trans hl (by decide)
theorem plain_call {ps : List (Str × Str)} (hl : ps.length ≤ 1000) : plainD (.tuple (ps.map prT)) = true := by
  rw [plainD, plain_pairs, Bool.true_and, decide_eq_true_eq, List.length_map]
  exact Nat.le_trans hl (by decide)
theorem depth_row (l : List Str) : PyData.depth (.tuple (l.map .str)) = 1 := by rw [PyData.depth, depth_strs]
theorem depth_call (ps : List (Str × Str)) : PyData.depth (.tuple (ps.map prT)) ≤ 2 := by
  rw [PyData.depth]
  have := depth_pairs ps
  omega
abbrev TxtP (ps : List (Str × Str)) : Prop := ∀ p ∈ ps, TxtOk p.1 ∧ TxtOk p.2
theorem CallOf.txts {r : List Str} {ps : List (Str × Str)} (c : CallOf r ps) (ht : Txts r) : TxtP ps := fun p hp =>
  ⟨ht _ (c.perm.mem_iff.mp (List.mem_map.mpr ⟨p, hp, rfl⟩)), ht _ (c.tgt p hp)⟩
theorem prTx_pairs : ∀ ps : List (Str × Str), prTx (ps.map prT) = some ps
  | [] => rfl
  | p :: ps => by
    rw [List.map_cons]
    show (prTx (ps.map prT)).map ((p.1, p.2) :: ·) = _
    rw [prTx_pairs ps]; rfl
theorem callD_pairs {ps : List (Str × Str)} (h0 : 0 < ps.length) (nd : (ps.map (·.1)).Nodup) : callD (ps.map prT) = true := by
  suffices e : pairD (ps.map prT) = true by
    unfold callD
    first | rw [e, Bool.true_or] | rw [e]
  unfold pairD
  rw [prTx_pairs]
  cases ps with
  | nil => simp at h0
  | cons p ps => simp only [List.isEmpty_cons, Bool.not_false, Bool.true_and, decide_eq_true_eq]; exact nd
theorem prs_tld (ps : List (Str × Str)) : ps.map prT = prs (tld ps) := by
  unfold prs tld
  rw [List.map_map]; rfl
theorem dict_call {ps : List (Str × Str)} {h : Hh} (h0 : 0 < ps.length) (nd : (ps.map (·.1)).Nodup) : dictA false [.dat (.tuple (ps.map prT))] h = some (.dat (.dict (sdic (tld ps))), h) := by
  have e := pairsK_prs (tld ps)
  have e2 := merge_sdic (tld ps) [] (by rw [List.nil_append, tld_keys]; exact nd)
  have e3 : mergeD [] ((tld ps).map fun p => (Sum.inr p.1, p.2)) = sdic (tld ps) := e2
  have ec := callD_pairs h0 nd
  unfold dictA
  simp only [deref, ec, if_true]
  rw [prs_tld, e]
  simp only [e3, mkK, Bool.false_eq_true, if_false]
end DL
set_option maxRecDepth 100000
set_option maxHeartbeats 400000
namespace DL
open PySem L2
local macro_rules | `(tactic| walk_at "dl") => `(tactic| simp (config := { dsimp := false }) only [↓fnM_e, ↓sSeq_e, seqK_nx, seqK_rt, seqK_bk, seqK_ct, retK_rt, retK_nx, ↓sFrz_e, frK_some, ↓sAsg, ↓sRet, ↓sRetN, ↓sIf, ↓sExpr, ↓sSkip, ↓sNever, ↓sPar, ↓sFor, ↓sSub, ↓fVar, ↓fC, ↓fNil, ↓fCons, ↓fA, ↓f1, ↓f2, ↓fB, ↓fIf, ↓fNeg, ↓fNot, ↓fAnd, ↓fOr, ↓bNot, ↓bAnd, ↓bOr, ↓bYes, ↓obnd_x, ob_some, ↓sbnd_x, sb_some, ↓ite_x, iteK_t, iteK_f, gN, gT, gC, gE, ↓rng1I, ↓rng2I, ↓seqI, ↓enumA, ↓zipI, ↓strI, ↓fLc, ↓fDc, ↓fM, ↓fSl, ↓oNone, ↓oSome, ↓fRev, wipeE, ↓kwM, permM, permL, List.foldr, List.length_cons, List.length_nil, List.map_cons, List.map_nil, List.cons_append, List.nil_append, List.replicate, List.replicate_succ, List.replicate_zero, List.getElem?_cons_zero, List.getElem?_cons_succ, List.set_cons_zero, List.set_cons_succ, if_true, if_false, reduceIte, Nat.reduceAdd, Nat.reduceSub, Nat.reduceEqDiff, Nat.reduceLT, Nat.reduceLeDiff, Int.reduceLT, Int.reduceLE, Int.reduceNeg, Int.reduceMul, Int.reduceAdd, Int.reduceSub, Int.reduceToNat, Int.reducePow, Int.reduceEq, ok, bok, deref, mkL, lstW, tupW, dats, Option.map_some, appendW, insertW, setL, isL, listW, tupleW, lenW, absW, intC, maxW, minW, idxW, addW, subW_e, modW_e, divW_e, powW_e, mulW, intW, lt_e, gt_e, le_e, ge_e, ltW, allW_e, anyW_e, sumW_e, lW, setW, lstAt, cutW, backW, isW, isiW, iLT_none, iLT_bool, iLT_int, iLT_str, iLT_list, iLT_tup, iL_none, iL_bool, iL_int, iL_str, iL_list, iL_tup, iT_none, iT_bool, iT_int, iT_str, iT_list, iT_tup, iS_none, iS_bool, iS_int, iS_str, iS_list, iS_tup, iI_none, iI_bool, iI_int, iI_str, iI_list, iI_tup, iB_none, iB_bool, iB_int, iB_str, iB_list, iB_tup, Bool.false_eq_true, reduceCtorEq, Bool.not_true, Bool.not_false, decide_true, decide_false, List.zip_cons_cons, List.zip_nil_left, List.foldl_cons, List.foldl_nil, and_self, and_true, true_and, Bool.and_true, Bool.true_and, Bool.or_true, Bool.true_or, *])
theorem led_nodup {r : List Str} (nd : r.Nodup) (ps : List (Str × Str)) : (led r ps).Nodup := (led_perm r ps).nodup_iff.mpr nd
end DL
set_option maxRecDepth 100000
set_option maxHeartbeats 400000
namespace DL
open PySem L2
local macro_rules | `(tactic| walk_at "dl") => `(tactic| simp (config := { dsimp := false }) only [↓fnM_e, ↓sSeq_e, seqK_nx, seqK_rt, seqK_bk, seqK_ct, retK_rt, retK_nx, ↓sFrz_e, frK_some, ↓sAsg, ↓sRet, ↓sRetN, ↓sIf, ↓sExpr, ↓sSkip, ↓sNever, ↓sPar, ↓sFor, ↓sSub, ↓fVar, ↓fC, ↓fNil, ↓fCons, ↓fA, ↓f1, ↓f2, ↓fB, ↓fIf, ↓fNeg, ↓fNot, ↓fAnd, ↓fOr, ↓bNot, ↓bAnd, ↓bOr, ↓bYes, ↓obnd_x, ob_some, ↓sbnd_x, sb_some, ↓ite_x, iteK_t, iteK_f, gN, gT, gC, gE, ↓rng1I, ↓rng2I, ↓seqI, ↓enumA, ↓zipI, ↓strI, ↓fLc, ↓fDc, ↓fM, ↓fSl, ↓oNone, ↓oSome, ↓fRev, wipeE, ↓kwM, permM, permL, List.foldr, List.length_cons, List.length_nil, List.map_cons, List.map_nil, List.cons_append, List.nil_append, List.replicate, List.replicate_succ, List.replicate_zero, List.getElem?_cons_zero, List.getElem?_cons_succ, List.set_cons_zero, List.set_cons_succ, if_true, if_false, reduceIte, Nat.reduceAdd, Nat.reduceSub, Nat.reduceEqDiff, Nat.reduceLT, Nat.reduceLeDiff, Int.reduceLT, Int.reduceLE, Int.reduceNeg, Int.reduceMul, Int.reduceAdd, Int.reduceSub, Int.reduceToNat, Int.reducePow, Int.reduceEq, ok, bok, deref, mkL, lstW, tupW, dats, Option.map_some, appendW, insertW, setL, isL, listW, tupleW, lenW, absW, intC, maxW, minW, idxW, addW, subW_e, modW_e, divW_e, powW_e, mulW, intW, lt_e, gt_e, le_e, ge_e, ltW, allW_e, anyW_e, sumW_e, lW, setW, lstAt, cutW, backW, isW, isiW, iLT_none, iLT_bool, iLT_int, iLT_str, iLT_list, iLT_tup, iL_none, iL_bool, iL_int, iL_str, iL_list, iL_tup, iT_none, iT_bool, iT_int, iT_str, iT_list, iT_tup, iS_none, iS_bool, iS_int, iS_str, iS_list, iS_tup, iI_none, iI_bool, iI_int, iI_str, iI_list, iI_tup, iB_none, iB_bool, iB_int, iB_str, iB_list, iB_tup, Bool.false_eq_true, reduceCtorEq, Bool.not_true, Bool.not_false, decide_true, decide_false, List.zip_cons_cons, List.zip_nil_left, List.foldl_cons, List.foldl_nil, and_self, and_true, true_and, Bool.and_true, Bool.true_and, Bool.or_true, Bool.true_or, *])
structure Folk (most : Nat) (rs : List Str) : Prop where
  nd : rs.Nodup
  pos : 0 < rs.length
  le : rs.length ≤ most
  nam : ∀ s ∈ rs, NameOk s
theorem NameOk.txt {s : Str} (h : NameOk s) : TxtOk s := ⟨by have := h.2.1; omega, fun c hc => by have := h.2.2 c hc; omega⟩
theorem Folk.txts {n : Nat} {rs : List Str} (h : Folk n rs) : Txts rs := fun s hs => (h.nam s hs).txt
theorem Crew.folk {n : Nat} {rs : List Str} (h : Crew n rs) : Folk n rs := ⟨h.nd, h.pos, h.le, h.names⟩
theorem Folk.perm {n : Nat} {rs ms : List Str} (h : Folk n rs) (p : ms.Perm rs) : Folk n ms := ⟨p.nodup_iff.mpr h.nd, by rw [p.length_eq]; exact h.pos, by rw [p.length_eq]; exact h.le, fun s hs => h.nam s (p.mem_iff.mp hs)⟩
abbrev qqq : Str := "qqq"
theorem qqq_cps : qqq.cps.toList = [113, 113, 113] := by decide +kernel
theorem qqq_nm {st sp a : Nat} : nm st sp a ≠ qqq := fun e => by
  have e' := congrArg (fun s : Str => s.cps.toList) e
  simp only [nm_cps, qqq_cps] at e'
  injection e' with _ e2
  generalize a % 2 * (1 + st % 2) = k at e2
  match k, e2 with
  | 0, e2 => rw [sfx_len.1] at e2; cases e2
  | 1, e2 => rw [sfx_len.2.1] at e2; simp at e2
  | _ + 2, e2 =>
    have e3 : (sfx 2).cps.toList = [113, 113] := e2
    rw [sfx_len.2.2] at e3; simp at e3
theorem qqq_len : qqq.length = 3 := by decide +kernel
theorem Crew.more {n : Nat} {rs : List Str} (h : Crew n rs) : Folk (n + 1) (rs ++ [qqq]) ∧ 2 ≤ (rs ++ [qqq]).length := by
  refine ⟨⟨?_, by simp, by simp; exact h.le, fun s hs => ?_⟩, by simp; exact h.pos⟩
  · rw [List.nodup_append]
    refine ⟨h.nd, by simp, fun a ha b hb e => ?_⟩
    rw [List.mem_singleton] at hb
    subst hb e
    obtain ⟨st, sp, x, _, _, e⟩ := h.nam _ ha
    exact qqq_nm e.symm
  · rcases List.mem_append.mp hs with hs | hs
    · exact h.names s hs
    · rw [List.mem_singleton] at hs
      subst hs
      refine ⟨by rw [qqq_len]; omega, by rw [qqq_len]; omega, fun c hc => ?_⟩
      rw [qqq_cps] at hc
      simp at hc
      omega
abbrev cT (ps : List (Str × Str)) : D := .tuple (ps.map prT)
theorem asks_run {b : Nat} {x : D} {h g1 g2 : Hh} {n r : Int} {cs : List D} (e1 : m__law_take [.ref b, .dat (.int (n + 1))] h = some (.dat (.int r), g1)) (b0 : -1000000000 ≤ r) (b1 : r ≤ 1000000000) (hl : cs.length ≤ sizeLine)
    (e2 : lcL (gN 3) bYes (fA (m__law_ask) (fCons (fVar 0) (fCons (fVar 1) (fNil)))) [some (.ref b), some (.dat x), some (.dat (.int n)), none] (rngD 0 r.toNat) g1 = some (cs, g2)) :
    m__law_asks [.ref b, .dat x, .dat (.int n)] h = leave false h (.dat (.list cs)) g2 := by
  unfold m__law_asks
  walk_at "dl"
abbrev Words (r : List Str) (ws : List (List (Str × Str))) : Prop := ∀ ps ∈ ws, CallOf r ps
theorem Words.perm {r r' : List Str} {ws : List (List (Str × Str))} (h : Words r ws) (p : r.Perm r') : Words r' ws := fun ps hp => (h ps hp).of_perm p
theorem asks_ok {x : D} {l : List Str} {h : Hh} {b c n : Nat} (hx : IsSeq x (l.map .str)) (ht : Txts l) (hb : BoxAt h b c) (hc : c < 100000) (h0 : 0 < l.length) (h1 : l.length ≤ 30) (hn : n ≤ 100) :
    ∃ (ws : List (List (Str × Str))) (h' : Hh), m__law_asks [.ref b, .dat x, .dat (.int n)] h = some (.dat (.list (ws.map cT)), h') ∧ Words l ws ∧ ws.length ≤ n ∧ BoxAt h' b (c + 1 + n * 152) ∧ Only b h h' := by
  obtain ⟨r, g1, e1, r0, r1, b1, o1⟩ := take_ok (n := (n : Int) + 1) hb (by omega) (by omega) (by omega)
  have key := lcL_inv (k := gN 3) (f := fA (m__law_ask) (fCons (fVar 0) (fCons (fVar 1) (fNil)))) (ρ := [some (.ref b), some (.dat x), some (.dat (.int n)), none])
    (fun k g => BoxAt g b (c + 1 + k * 152) ∧ Only b h g) (fun _ d => ∃ ps, d = cT ps ∧ CallOf l ps) (ds := rngD 0 r.toNat) (n := 0) (h := g1) ⟨by rw [Nat.zero_mul]; exact b1, o1⟩ (by
      intro j d ej g hi
      obtain ⟨bx, on⟩ := hi
      rw [Nat.zero_add] at bx ⊢
      have hj := (rng_get ej).1
      have j1 : j ≤ 100 := by omega
      obtain ⟨ps, g', e3, pf, pt, b3, o3⟩ := ask_ok hx ht bx (by omega) h0 (by omega)
      refine ⟨[some (.ref b), some (.dat x), some (.dat (.int n)), some (.dat d)], cT ps, g', rfl, ?_, ⟨ps, rfl, by rw [pf]; exact sortS_perm l, pt⟩, b3.mono (by omega), on.trans o3⟩
      clear hx ht hb hc h0 h1 hn r0 r1 b1 o1 bx on hj pf pt b3 o3 ej e1
      walk_at "dl")
  obtain ⟨cs, g2, e2, hl, hr, b2, o2⟩ := key
  rw [rng_len] at hl
  rw [rng_len, Nat.zero_add] at b2
  have hw : ∃ ws : List (List (Str × Str)), cs = ws.map cT ∧ Words l ws := by
    have : ∀ cs : List D, (∀ d ∈ cs, ∃ ps, d = cT ps ∧ CallOf l ps) → ∃ ws : List (List (Str × Str)), cs = ws.map cT ∧ Words l ws := fun cs => by
      induction cs with
      | nil => exact fun _ => ⟨[], rfl, fun ps hp => by cases hp⟩
      | cons d cs ih =>
        intro H
        obtain ⟨ps, rfl, hp⟩ := H d List.mem_cons_self
        obtain ⟨ws, rfl, hw⟩ := ih fun e he => H e (List.mem_cons_of_mem _ he)
        exact ⟨ps :: ws, rfl, fun q hq => by
          rcases List.mem_cons.mp hq with rfl | hq
          · exact hp
          · exact hw q hq⟩
    refine this cs fun d hd => ?_
    obtain ⟨j, hj, rfl⟩ := List.getElem_of_mem hd
    exact hr j _ (List.getElem?_eq_getElem hj)
  obtain ⟨ws, rfl, hw⟩ := hw
  rw [List.length_map] at hl
  have rn : r.toNat ≤ n := by omega
  have bn : BoxAt g2 b (c + 1 + n * 152) := b2.mono (by omega)
  have hz : sizeLine = 16777216 := rfl
  refine ⟨ws, g2, ?_, hw, by omega, bn, o2⟩
  rw [asks_run e1 (by omega) (by omega) (by rw [List.length_map]; omega) e2]
  exact leave_dat' hb bn o2
end DL
set_option maxRecDepth 100000
set_option maxHeartbeats 400000
namespace DL
open PySem L2
local macro_rules | `(tactic| walk_at "dl") => `(tactic| simp (config := { dsimp := false }) only [↓fnM_e, ↓sSeq_e, seqK_nx, seqK_rt, seqK_bk, seqK_ct, retK_rt, retK_nx, ↓sFrz_e, frK_some, ↓sAsg, ↓sRet, ↓sRetN, ↓sIf, ↓sExpr, ↓sSkip, ↓sNever, ↓sPar, ↓sFor, ↓sSub, ↓fVar, ↓fC, ↓fNil, ↓fCons, ↓fA, ↓f1, ↓f2, ↓fB, ↓fIf, ↓fNeg, ↓fNot, ↓fAnd, ↓fOr, ↓bNot, ↓bAnd, ↓bOr, ↓bYes, ↓obnd_x, ob_some, ↓sbnd_x, sb_some, ↓ite_x, iteK_t, iteK_f, gN, gT, gC, gE, ↓rng1I, ↓rng2I, ↓seqI, ↓enumA, ↓zipI, ↓strI, ↓fLc, ↓fDc, ↓fM, ↓fSl, ↓oNone, ↓oSome, ↓fRev, wipeE, ↓kwM, permM, permL, List.foldr, List.length_cons, List.length_nil, List.map_cons, List.map_nil, List.cons_append, List.nil_append, List.replicate, List.replicate_succ, List.replicate_zero, List.getElem?_cons_zero, List.getElem?_cons_succ, List.set_cons_zero, List.set_cons_succ, if_true, if_false, reduceIte, Nat.reduceAdd, Nat.reduceSub, Nat.reduceEqDiff, Nat.reduceLT, Nat.reduceLeDiff, Int.reduceLT, Int.reduceLE, Int.reduceNeg, Int.reduceMul, Int.reduceAdd, Int.reduceSub, Int.reduceToNat, Int.reducePow, Int.reduceEq, ok, bok, deref, mkL, lstW, tupW, dats, Option.map_some, appendW, insertW, setL, isL, listW, tupleW, lenW, absW, intC, maxW, minW, idxW, addW, subW_e, modW_e, divW_e, powW_e, mulW, intW, lt_e, gt_e, le_e, ge_e, ltW, allW_e, anyW_e, sumW_e, lW, setW, lstAt, cutW, backW, isW, isiW, iLT_none, iLT_bool, iLT_int, iLT_str, iLT_list, iLT_tup, iL_none, iL_bool, iL_int, iL_str, iL_list, iL_tup, iT_none, iT_bool, iT_int, iT_str, iT_list, iT_tup, iS_none, iS_bool, iS_int, iS_str, iS_list, iS_tup, iI_none, iI_bool, iI_int, iI_str, iI_list, iI_tup, iB_none, iB_bool, iB_int, iB_str, iB_list, iB_tup, Bool.false_eq_true, reduceCtorEq, Bool.not_true, Bool.not_false, decide_true, decide_false, List.zip_cons_cons, List.zip_nil_left, List.foldl_cons, List.foldl_nil, and_self, and_true, true_and, Bool.and_true, Bool.true_and, Bool.or_true, Bool.true_or, *])
def goneP (ps : List (Str × Str)) (p : Str × Str) : Str × Str := if goal ps p.1 = goal ps p.2 then p else (goal ps p.1, goal ps p.2)
abbrev dW (ps : List (Str × Str)) : D := .dict (sdic (tld ps))
theorem eqW_strs {neg : Bool} {i j : Str} {h : Hh} : eqW neg (.dat (.str i)) (.dat (.str j)) h = bok (if neg = true then !decide (i = j) else decide (i = j)) h := by
  unfold eqW
  simp only [deref, eqS]
theorem gone_ok {r : List Str} {ps : List (Str × Str)} {p : Str × Str} {h : Hh} (c : CallOf r ps) (h1 : p.1 ∈ r) (h2 : p.2 ∈ r) : m_gone [.dat (dW ps), .dat (prT p)] h = some (.dat (prT (goneP ps p)), h) := by
  obtain ⟨k1, _⟩ := c.goal_mem h1
  obtain ⟨k2, _⟩ := c.goal_mem h2
  have g1 : getD (sdic (tld ps)) (.str p.1) = some (some (.str (goal ps p.1))) := by rw [getD_sdic, look_tld, k1]; rfl
  have g2 : getD (sdic (tld ps)) (.str p.2) = some (some (.str (goal ps p.2))) := by rw [getD_sdic, look_tld, k2]; rfl
  have a0 : L2.atI [PyData.str p.1, .str p.2] 0 = some (.str p.1) := rfl
  have a1 : L2.atI [PyData.str p.1, .str p.2] 1 = some (.str p.2) := rfl
  have e3 := eqW_strs (neg := false) (i := goal ps p.1) (j := goal ps p.2) (h := h)
  have c2 : 2 ≤ sizeLine := by decide
  have lv := fun d : D => leave_same' (h := h) (d := d)
  unfold m_gone goneP
  by_cases z : goal ps p.1 = goal ps p.2
  · rw [if_pos z]
    have z' : decide (goal ps p.1 = goal ps p.2) = true := by simpa using z
    clear c h1 h2 k1 k2 z
    walk_at "dl"
  · rw [if_neg z]
    have z' : decide (goal ps p.1 = goal ps p.2) = false := by simpa using z
    clear c h1 h2 k1 k2 z
    walk_at "dl"
def cD (l : Bool) (ps : List (Str × Str)) : D := if l = true then .list (ps.map (prW true)) else .tuple (ps.map prT)
theorem cD_seq (l : Bool) (ps : List (Str × Str)) : IsSeq (cD l ps) (ps.map (prW l)) := by
  cases l
  · exact .inr (by rw [prW_false]; rfl)
  · exact .inl rfl
theorem cD_false : cD false = cT := by funext ps; rfl
end DL
set_option maxRecDepth 100000
set_option maxHeartbeats 400000
namespace DL
open PySem L2
local macro_rules | `(tactic| walk_at "dl") => `(tactic| simp (config := { dsimp := false }) only [↓fnM_e, ↓sSeq_e, seqK_nx, seqK_rt, seqK_bk, seqK_ct, retK_rt, retK_nx, ↓sFrz_e, frK_some, ↓sAsg, ↓sRet, ↓sRetN, ↓sIf, ↓sExpr, ↓sSkip, ↓sNever, ↓sPar, ↓sFor, ↓sSub, ↓fVar, ↓fC, ↓fNil, ↓fCons, ↓fA, ↓f1, ↓f2, ↓fB, ↓fIf, ↓fNeg, ↓fNot, ↓fAnd, ↓fOr, ↓bNot, ↓bAnd, ↓bOr, ↓bYes, ↓obnd_x, ob_some, ↓sbnd_x, sb_some, ↓ite_x, iteK_t, iteK_f, gN, gT, gC, gE, ↓rng1I, ↓rng2I, ↓seqI, ↓enumA, ↓zipI, ↓strI, ↓fLc, ↓fDc, ↓fM, ↓fSl, ↓oNone, ↓oSome, ↓fRev, wipeE, ↓kwM, permM, permL, List.foldr, List.length_cons, List.length_nil, List.map_cons, List.map_nil, List.cons_append, List.nil_append, List.replicate, List.replicate_succ, List.replicate_zero, List.getElem?_cons_zero, List.getElem?_cons_succ, List.set_cons_zero, List.set_cons_succ, if_true, if_false, reduceIte, Nat.reduceAdd, Nat.reduceSub, Nat.reduceEqDiff, Nat.reduceLT, Nat.reduceLeDiff, Int.reduceLT, Int.reduceLE, Int.reduceNeg, Int.reduceMul, Int.reduceAdd, Int.reduceSub, Int.reduceToNat, Int.reducePow, Int.reduceEq, ok, bok, deref, mkL, lstW, tupW, dats, Option.map_some, appendW, insertW, setL, isL, listW, tupleW, lenW, absW, intC, maxW, minW, idxW, addW, subW_e, modW_e, divW_e, powW_e, mulW, intW, lt_e, gt_e, le_e, ge_e, ltW, allW_e, anyW_e, sumW_e, lW, setW, lstAt, cutW, backW, isW, isiW, iLT_none, iLT_bool, iLT_int, iLT_str, iLT_list, iLT_tup, iL_none, iL_bool, iL_int, iL_str, iL_list, iL_tup, iT_none, iT_bool, iT_int, iT_str, iT_list, iT_tup, iS_none, iS_bool, iS_int, iS_str, iS_list, iS_tup, iI_none, iI_bool, iI_int, iI_str, iI_list, iI_tup, iB_none, iB_bool, iB_int, iB_str, iB_list, iB_tup, Bool.false_eq_true, reduceCtorEq, Bool.not_true, Bool.not_false, decide_true, decide_false, List.zip_cons_cons, List.zip_nil_left, List.foldl_cons, List.foldl_nil, and_self, and_true, true_and, Bool.and_true, Bool.true_and, Bool.or_true, Bool.true_or, *])
abbrev rowT (r : List Str) : D := .tuple (r.map .str)
end DL
set_option maxRecDepth 100000
set_option maxHeartbeats 400000
namespace DL
open PySem L2
local macro_rules | `(tactic| walk_at "dl") => `(tactic| simp (config := { dsimp := false }) only [↓fnM_e, ↓sSeq_e, seqK_nx, seqK_rt, seqK_bk, seqK_ct, retK_rt, retK_nx, ↓sFrz_e, frK_some, ↓sAsg, ↓sRet, ↓sRetN, ↓sIf, ↓sExpr, ↓sSkip, ↓sNever, ↓sPar, ↓sFor, ↓sSub, ↓fVar, ↓fC, ↓fNil, ↓fCons, ↓fA, ↓f1, ↓f2, ↓fB, ↓fIf, ↓fNeg, ↓fNot, ↓fAnd, ↓fOr, ↓bNot, ↓bAnd, ↓bOr, ↓bYes, ↓obnd_x, ob_some, ↓sbnd_x, sb_some, ↓ite_x, iteK_t, iteK_f, gN, gT, gC, gE, ↓rng1I, ↓rng2I, ↓seqI, ↓enumA, ↓zipI, ↓strI, ↓fLc, ↓fDc, ↓fM, ↓fSl, ↓oNone, ↓oSome, ↓fRev, wipeE, ↓kwM, permM, permL, List.foldr, List.length_cons, List.length_nil, List.map_cons, List.map_nil, List.cons_append, List.nil_append, List.replicate, List.replicate_succ, List.replicate_zero, List.getElem?_cons_zero, List.getElem?_cons_succ, List.set_cons_zero, List.set_cons_succ, if_true, if_false, reduceIte, Nat.reduceAdd, Nat.reduceSub, Nat.reduceEqDiff, Nat.reduceLT, Nat.reduceLeDiff, Int.reduceLT, Int.reduceLE, Int.reduceNeg, Int.reduceMul, Int.reduceAdd, Int.reduceSub, Int.reduceToNat, Int.reducePow, Int.reduceEq, ok, bok, deref, mkL, lstW, tupW, dats, Option.map_some, appendW, insertW, setL, isL, listW, tupleW, lenW, absW, intC, maxW, minW, idxW, addW, subW_e, modW_e, divW_e, powW_e, mulW, intW, lt_e, gt_e, le_e, ge_e, ltW, allW_e, anyW_e, sumW_e, lW, setW, lstAt, cutW, backW, isW, isiW, iLT_none, iLT_bool, iLT_int, iLT_str, iLT_list, iLT_tup, iL_none, iL_bool, iL_int, iL_str, iL_list, iL_tup, iT_none, iT_bool, iT_int, iT_str, iT_list, iT_tup, iS_none, iS_bool, iS_int, iS_str, iS_list, iS_tup, iI_none, iI_bool, iI_int, iI_str, iI_list, iI_tup, iB_none, iB_bool, iB_int, iB_str, iB_list, iB_tup, Bool.false_eq_true, reduceCtorEq, Bool.not_true, Bool.not_false, decide_true, decide_false, List.zip_cons_cons, List.zip_nil_left, List.foldl_cons, List.foldl_nil, and_self, and_true, true_and, Bool.and_true, Bool.true_and, Bool.or_true, Bool.true_or, *])
theorem notin_row {s : Str} {r : List Str} {h : Hh} : inW true (.dat (.str s)) (.dat (rowT r)) h = some (.dat (.bool (decide (s ∉ r))), h) := by
  have e1 : ((r.map PyData.str).all flatD) = true := by
    rw [List.all_eq_true]
    intro d hd
    obtain ⟨s, hs, rfl⟩ := List.mem_map.mp hd
    rfl
  have e2 : ((r.map PyData.str).any fun z => PyData.eqv z (.str s)) = decide (s ∈ r) := by
    rw [List.any_map]
    induction r with
    | nil => rfl
    | cons t r ih =>
      have := ih (by
        rw [List.all_eq_true]
        intro d hd
        obtain ⟨s, hs, rfl⟩ := List.mem_map.mp hd
        rfl)
      rw [List.any_cons, this]
      have q : (((fun z => PyData.eqv z (.str s)) ∘ PyData.str) t) = decide (s = t) := by
        show PyData.eqv (.str t) (.str s) = _
        by_cases z : s = t
        · subst z; simp [PyData.eqv]
        · have z' : ¬ t = s := fun w => z w.symm
          simp [PyData.eqv, z, z']
      rw [q]
      simp [List.mem_cons]
  unfold inW
  simp only [deref, flatD, e1, e2, Bool.and_self, if_true]
  show bok (!decide (s ∈ r)) h = _
  rw [decide_not]; rfl
end DL
set_option maxRecDepth 100000
set_option maxHeartbeats 400000
namespace DL
open PySem L2
local macro_rules | `(tactic| walk_at "dl") => `(tactic| simp (config := { dsimp := false }) only [↓fnM_e, ↓sSeq_e, seqK_nx, seqK_rt, seqK_bk, seqK_ct, retK_rt, retK_nx, ↓sFrz_e, frK_some, ↓sAsg, ↓sRet, ↓sRetN, ↓sIf, ↓sExpr, ↓sSkip, ↓sNever, ↓sPar, ↓sFor, ↓sSub, ↓fVar, ↓fC, ↓fNil, ↓fCons, ↓fA, ↓f1, ↓f2, ↓fB, ↓fIf, ↓fNeg, ↓fNot, ↓fAnd, ↓fOr, ↓bNot, ↓bAnd, ↓bOr, ↓bYes, ↓obnd_x, ob_some, ↓sbnd_x, sb_some, ↓ite_x, iteK_t, iteK_f, gN, gT, gC, gE, ↓rng1I, ↓rng2I, ↓seqI, ↓enumA, ↓zipI, ↓strI, ↓fLc, ↓fDc, ↓fM, ↓fSl, ↓oNone, ↓oSome, ↓fRev, wipeE, ↓kwM, permM, permL, List.foldr, List.length_cons, List.length_nil, List.map_cons, List.map_nil, List.cons_append, List.nil_append, List.replicate, List.replicate_succ, List.replicate_zero, List.getElem?_cons_zero, List.getElem?_cons_succ, List.set_cons_zero, List.set_cons_succ, if_true, if_false, reduceIte, Nat.reduceAdd, Nat.reduceSub, Nat.reduceEqDiff, Nat.reduceLT, Nat.reduceLeDiff, Int.reduceLT, Int.reduceLE, Int.reduceNeg, Int.reduceMul, Int.reduceAdd, Int.reduceSub, Int.reduceToNat, Int.reducePow, Int.reduceEq, ok, bok, deref, mkL, lstW, tupW, dats, Option.map_some, appendW, insertW, setL, isL, listW, tupleW, lenW, absW, intC, maxW, minW, idxW, addW, subW_e, modW_e, divW_e, powW_e, mulW, intW, lt_e, gt_e, le_e, ge_e, ltW, allW_e, anyW_e, sumW_e, lW, setW, lstAt, cutW, backW, isW, isiW, iLT_none, iLT_bool, iLT_int, iLT_str, iLT_list, iLT_tup, iL_none, iL_bool, iL_int, iL_str, iL_list, iL_tup, iT_none, iT_bool, iT_int, iT_str, iT_list, iT_tup, iS_none, iS_bool, iS_int, iS_str, iS_list, iS_tup, iI_none, iI_bool, iI_int, iI_str, iI_list, iI_tup, iB_none, iB_bool, iB_int, iB_str, iB_list, iB_tup, Bool.false_eq_true, reduceCtorEq, Bool.not_true, Bool.not_false, decide_true, decide_false, List.zip_cons_cons, List.zip_nil_left, List.foldl_cons, List.foldl_nil, and_self, and_true, true_and, Bool.and_true, Bool.true_and, Bool.or_true, Bool.true_or, *])
end DL
set_option maxRecDepth 100000
set_option maxHeartbeats 400000
namespace DL
open PySem L2
local macro_rules | `(tactic| walk_at "dl") => `(tactic| simp (config := { dsimp := false }) only [↓fnM_e, ↓sSeq_e, seqK_nx, seqK_rt, seqK_bk, seqK_ct, retK_rt, retK_nx, ↓sFrz_e, frK_some, ↓sAsg, ↓sRet, ↓sRetN, ↓sIf, ↓sExpr, ↓sSkip, ↓sNever, ↓sPar, ↓sFor, ↓sSub, ↓fVar, ↓fC, ↓fNil, ↓fCons, ↓fA, ↓f1, ↓f2, ↓fB, ↓fIf, ↓fNeg, ↓fNot, ↓fAnd, ↓fOr, ↓bNot, ↓bAnd, ↓bOr, ↓bYes, ↓obnd_x, ob_some, ↓sbnd_x, sb_some, ↓ite_x, iteK_t, iteK_f, gN, gT, gC, gE, ↓rng1I, ↓rng2I, ↓seqI, ↓enumA, ↓zipI, ↓strI, ↓fLc, ↓fDc, ↓fM, ↓fSl, ↓oNone, ↓oSome, ↓fRev, wipeE, ↓kwM, permM, permL, List.foldr, List.length_cons, List.length_nil, List.map_cons, List.map_nil, List.cons_append, List.nil_append, List.replicate, List.replicate_succ, List.replicate_zero, List.getElem?_cons_zero, List.getElem?_cons_succ, List.set_cons_zero, List.set_cons_succ, if_true, if_false, reduceIte, Nat.reduceAdd, Nat.reduceSub, Nat.reduceEqDiff, Nat.reduceLT, Nat.reduceLeDiff, Int.reduceLT, Int.reduceLE, Int.reduceNeg, Int.reduceMul, Int.reduceAdd, Int.reduceSub, Int.reduceToNat, Int.reducePow, Int.reduceEq, ok, bok, deref, mkL, lstW, tupW, dats, Option.map_some, appendW, insertW, setL, isL, listW, tupleW, lenW, absW, intC, maxW, minW, idxW, addW, subW_e, modW_e, divW_e, powW_e, mulW, intW, lt_e, gt_e, le_e, ge_e, ltW, allW_e, anyW_e, sumW_e, lW, setW, lstAt, cutW, backW, isW, isiW, iLT_none, iLT_bool, iLT_int, iLT_str, iLT_list, iLT_tup, iL_none, iL_bool, iL_int, iL_str, iL_list, iL_tup, iT_none, iT_bool, iT_int, iT_str, iT_list, iT_tup, iS_none, iS_bool, iS_int, iS_str, iS_list, iS_tup, iI_none, iI_bool, iI_int, iI_str, iI_list, iI_tup, iB_none, iB_bool, iB_int, iB_str, iB_list, iB_tup, Bool.false_eq_true, reduceCtorEq, Bool.not_true, Bool.not_false, decide_true, decide_false, List.zip_cons_cons, List.zip_nil_left, List.foldl_cons, List.foldl_nil, and_self, and_true, true_and, Bool.and_true, Bool.true_and, Bool.or_true, Bool.true_or, *])
theorem idx_inj {r : List Str} {s t : Str} (hs : s ∈ r) (ht : t ∈ r) (e : r.idxOf s = r.idxOf t) : s = t := by
  have h1 := List.getElem_idxOf (List.idxOf_lt_length_of_mem hs)
  have h2 := List.getElem_idxOf (List.idxOf_lt_length_of_mem ht)
  rw [← h1, ← h2]
  simp only [e]
end DL
set_option maxRecDepth 100000
set_option maxHeartbeats 400000
namespace DL
open PySem L2
structure OnlyP (b : Nat) (h g : Hh) : Prop where
  len : h.length ≤ g.length
  off : ∀ i : Nat, i < h.length → i ≠ b → g[i]? = h[i]?
theorem Only.p {b : Nat} {h g : Hh} (o : Only b h g) : OnlyP b h g := ⟨Nat.le_of_eq o.len.symm, fun i _ n => o.off i n⟩
theorem OnlyP.only {b : Nat} {h g g' : Hh} (o : OnlyP b h g) (o' : Only b g g') : OnlyP b h g' := ⟨by rw [o'.len]; exact o.len, fun i hi n => (o'.off i n).trans (o.off i hi n)⟩
theorem OnlyP.app {b : Nat} {h g l : Hh} (o : OnlyP b h g) : OnlyP b h (g ++ l) := ⟨by rw [List.length_append]; have := o.len; omega, fun i hi n => by
  rw [List.getElem?_append_left (by have := o.len; omega)]; exact o.off i hi n⟩
theorem Folk.mono {n m : Nat} {rs : List Str} (h : Folk n rs) (k : n ≤ m) : Folk m rs := ⟨h.nd, h.pos, Nat.le_trans h.le k, h.nam⟩
end DL
set_option maxRecDepth 100000
set_option maxHeartbeats 400000
namespace DL
open PySem L2
local macro_rules | `(tactic| walk_at "dl") => `(tactic| simp (config := { dsimp := false }) only [↓fnM_e, ↓sSeq_e, seqK_nx, seqK_rt, seqK_bk, seqK_ct, retK_rt, retK_nx, ↓sFrz_e, frK_some, ↓sAsg, ↓sRet, ↓sRetN, ↓sIf, ↓sExpr, ↓sSkip, ↓sNever, ↓sPar, ↓sFor, ↓sSub, ↓fVar, ↓fC, ↓fNil, ↓fCons, ↓fA, ↓f1, ↓f2, ↓fB, ↓fIf, ↓fNeg, ↓fNot, ↓fAnd, ↓fOr, ↓bNot, ↓bAnd, ↓bOr, ↓bYes, ↓obnd_x, ob_some, ↓sbnd_x, sb_some, ↓ite_x, iteK_t, iteK_f, gN, gT, gC, gE, ↓rng1I, ↓rng2I, ↓seqI, ↓enumA, ↓zipI, ↓strI, ↓fLc, ↓fDc, ↓fM, ↓fSl, ↓oNone, ↓oSome, ↓fRev, wipeE, ↓kwM, permM, permL, List.foldr, List.length_cons, List.length_nil, List.map_cons, List.map_nil, List.cons_append, List.nil_append, List.replicate, List.replicate_succ, List.replicate_zero, List.getElem?_cons_zero, List.getElem?_cons_succ, List.set_cons_zero, List.set_cons_succ, if_true, if_false, reduceIte, Nat.reduceAdd, Nat.reduceSub, Nat.reduceEqDiff, Nat.reduceLT, Nat.reduceLeDiff, Int.reduceLT, Int.reduceLE, Int.reduceNeg, Int.reduceMul, Int.reduceAdd, Int.reduceSub, Int.reduceToNat, Int.reducePow, Int.reduceEq, ok, bok, deref, mkL, lstW, tupW, dats, Option.map_some, appendW, insertW, setL, isL, listW, tupleW, lenW, absW, intC, maxW, minW, idxW, addW, subW_e, modW_e, divW_e, powW_e, mulW, intW, lt_e, gt_e, le_e, ge_e, ltW, allW_e, anyW_e, sumW_e, lW, setW, lstAt, cutW, backW, isW, isiW, iLT_none, iLT_bool, iLT_int, iLT_str, iLT_list, iLT_tup, iL_none, iL_bool, iL_int, iL_str, iL_list, iL_tup, iT_none, iT_bool, iT_int, iT_str, iT_list, iT_tup, iS_none, iS_bool, iS_int, iS_str, iS_list, iS_tup, iI_none, iI_bool, iI_int, iI_str, iI_list, iI_tup, iB_none, iB_bool, iB_int, iB_str, iB_list, iB_tup, Bool.false_eq_true, reduceCtorEq, Bool.not_true, Bool.not_false, decide_true, decide_false, List.zip_cons_cons, List.zip_nil_left, List.foldl_cons, List.foldl_nil, and_self, and_true, true_and, Bool.and_true, Bool.true_and, Bool.or_true, Bool.true_or, *])
end DL
set_option maxRecDepth 100000
set_option maxHeartbeats 400000
namespace DL
open PySem L2
def told (r : List Str) (ps : List (Str × Str)) (t : Str) : List Str := r.filter fun s => decide (goal ps s = t)
theorem goal_of : ∀ {ps : List (Str × Str)}, (ps.map (·.1)).Nodup → ∀ p ∈ ps, goal ps p.1 = p.2
  | [], _, p, h => by cases h
  | (a, b) :: ps, nd, p, h => by
    rw [List.map_cons, List.nodup_cons] at nd
    unfold goal
    rw [List.lookup_cons]
    rcases List.mem_cons.mp h with rfl | h
    · simp
    · have ne : p.1 ≠ a := fun z => nd.1 (List.mem_map.mpr ⟨p, h, z⟩)
      rw [show (p.1 == a) = false by simpa using ne]
      exact goal_of nd.2 p h
theorem sortS_self {l : List Str} (h : l.Pairwise fun a b => leS a b = true) : sortS l = l := List.mergeSort_of_pairwise h
end DL
set_option maxRecDepth 100000
set_option maxHeartbeats 400000
namespace DL
open PySem L2
local macro_rules | `(tactic| walk_at "dl") => `(tactic| simp (config := { dsimp := false }) only [↓fnM_e, ↓sSeq_e, seqK_nx, seqK_rt, seqK_bk, seqK_ct, retK_rt, retK_nx, ↓sFrz_e, frK_some, ↓sAsg, ↓sRet, ↓sRetN, ↓sIf, ↓sExpr, ↓sSkip, ↓sNever, ↓sPar, ↓sFor, ↓sSub, ↓fVar, ↓fC, ↓fNil, ↓fCons, ↓fA, ↓f1, ↓f2, ↓fB, ↓fIf, ↓fNeg, ↓fNot, ↓fAnd, ↓fOr, ↓bNot, ↓bAnd, ↓bOr, ↓bYes, ↓obnd_x, ob_some, ↓sbnd_x, sb_some, ↓ite_x, iteK_t, iteK_f, gN, gT, gC, gE, ↓rng1I, ↓rng2I, ↓seqI, ↓enumA, ↓zipI, ↓strI, ↓fLc, ↓fDc, ↓fM, ↓fSl, ↓oNone, ↓oSome, ↓fRev, wipeE, ↓kwM, permM, permL, List.foldr, List.length_cons, List.length_nil, List.map_cons, List.map_nil, List.cons_append, List.nil_append, List.replicate, List.replicate_succ, List.replicate_zero, List.getElem?_cons_zero, List.getElem?_cons_succ, List.set_cons_zero, List.set_cons_succ, if_true, if_false, reduceIte, Nat.reduceAdd, Nat.reduceSub, Nat.reduceEqDiff, Nat.reduceLT, Nat.reduceLeDiff, Int.reduceLT, Int.reduceLE, Int.reduceNeg, Int.reduceMul, Int.reduceAdd, Int.reduceSub, Int.reduceToNat, Int.reducePow, Int.reduceEq, ok, bok, deref, mkL, lstW, tupW, dats, Option.map_some, appendW, insertW, setL, isL, listW, tupleW, lenW, absW, intC, maxW, minW, idxW, addW, subW_e, modW_e, divW_e, powW_e, mulW, intW, lt_e, gt_e, le_e, ge_e, ltW, allW_e, anyW_e, sumW_e, lW, setW, lstAt, cutW, backW, isW, isiW, iLT_none, iLT_bool, iLT_int, iLT_str, iLT_list, iLT_tup, iL_none, iL_bool, iL_int, iL_str, iL_list, iL_tup, iT_none, iT_bool, iT_int, iT_str, iT_list, iT_tup, iS_none, iS_bool, iS_int, iS_str, iS_list, iS_tup, iI_none, iI_bool, iI_int, iI_str, iI_list, iI_tup, iB_none, iB_bool, iB_int, iB_str, iB_list, iB_tup, Bool.false_eq_true, reduceCtorEq, Bool.not_true, Bool.not_false, decide_true, decide_false, List.zip_cons_cons, List.zip_nil_left, List.foldl_cons, List.foldl_nil, and_self, and_true, true_and, Bool.and_true, Bool.true_and, Bool.or_true, Bool.true_or, *])
theorem whileL_run {t : BM} {body : SM} (J : Nat → Env → Hh → Prop) : ∀ (k : Nat) {n fuel : Nat} {ρ : Env} {h : Hh}, k < fuel → J n ρ h →
    (∀ j ρ h, n ≤ j → j < n + k → J j ρ h → ∃ h1 ρ2 h2, t ρ h = some (true, h1) ∧ body ρ h1 = some (.nx ρ2, h2) ∧ J (j + 1) ρ2 h2) →
    (∀ ρ h, J (n + k) ρ h → t ρ h = some (false, h)) → ∃ ρ' h', whileL t body fuel ρ h = some (.nx ρ', h') ∧ J (n + k) ρ' h'
  | 0, n, f + 1, ρ, h, _, j, _, e => by
    refine ⟨ρ, h, ?_, j⟩
    unfold whileL
    simp only [e ρ h j, sbnd, Bool.false_eq_true, if_false]
  | k + 1, n, f + 1, ρ, h, hf, j, H, e => by
    obtain ⟨h1, ρ2, h2, e1, e2, j2⟩ := H n ρ h (Nat.le_refl _) (by omega) j
    obtain ⟨ρ', h', e3, j3⟩ := whileL_run J k (n := n + 1) (fuel := f) (by omega) j2 (fun i ρ h a b q => H i ρ h (by omega) (by omega) q) (fun ρ h q => e ρ h (by rw [show n + (k + 1) = n + 1 + k by omega]; exact q))
    refine ⟨ρ', h', ?_, by rw [show n + (k + 1) = n + 1 + k by omega]; exact j3⟩
    unfold whileL
    simp only [e1, sbnd, if_true, e2, e3]
theorem pick_eq : m__law_pick = m__law_of := rfl
theorem pick_ok {x : D} {ds : List D} {h : Hh} {b c : Nat} (hx : IsSeq x ds) (hb : BoxAt h b c) (hc : c < 1000000000) (h0 : 0 < ds.length) (h1 : ds.length ≤ 1000) :
    ∃ d h', m__law_pick [.ref b, .dat x] h = some (.dat d, h') ∧ d ∈ ds ∧ BoxAt h' b (c + 1) ∧ Only b h h' := by
  rw [pick_eq]
  exact of_ok hx hb hc h0 h1
theorem pick_txt {z : Str} {h : Hh} {b c : Nat} (hb : BoxAt h b c) (hc : c < 1000000000) (h0 : 0 < z.length) (h1 : z.length ≤ 1000) :
    ∃ (y : Nat) (h' : Hh), m__law_pick [.ref b, .dat (.str z)] h = some (.dat (.str ⟨#[y]⟩), h') ∧ y ∈ z.cps.toList ∧ BoxAt h' b (c + 1) ∧ Only b h h' := by
  obtain ⟨r, h', e, r0, r1, b1, o1⟩ := take_ok (n := (z.length : Int)) hb (by omega) (by omega) (by omega)
  have hz : z.cps.toList.length = z.length := by simp [Str.length]
  have hr : r.toNat < z.cps.toList.length := by omega
  have e2 : L2.atI z.cps.toList r = some z.cps.toList[r.toNat] := by
    have := atI_nat (xs := z.cps.toList) (j := r.toNat) (List.getElem?_eq_getElem hr)
    rwa [show ((r.toNat : Nat) : Int) = r by omega] at this
  refine ⟨z.cps.toList[r.toNat], h', ?_, List.getElem_mem hr, b1, o1⟩
  have lv := leave_dat' (d := .str ⟨#[z.cps.toList[r.toNat]]⟩) hb b1 o1
  have l1 : z.length ≤ sizeLine := Nat.le_trans h1 (by decide)
  generalize z.cps.toList[r.toNat] = y at *
  unfold m__law_pick
  clear hb b1 o1 r0 r1 hr h0 h1 hc hz
  walk_at "dl"
theorem glue_cps (e : Array Nat) (he : e.toList = []) : ∀ (ps : List Str) (acc : Array Nat), (ps.foldl (fun acc p => acc ++ e ++ p.cps) acc).toList = acc.toList ++ ps.flatMap fun s => s.cps.toList
  | [], acc => by simp
  | p :: ps, acc => by
    rw [List.foldl_cons, glue_cps e he ps, List.flatMap_cons]
    simp [he]
theorem join_cps : ∀ l : List Str, (Txt.join "" l).cps.toList = l.flatMap fun s => s.cps.toList
  | [] => by decide +kernel
  | a :: l => by
    show (l.foldl (fun acc p => acc ++ ("" : Str).cps ++ p.cps) a.cps).toList = _
    rw [glue_cps _ (by decide +kernel), List.flatMap_cons]
abbrev six : Str := "abkmxz"
abbrev ends : Str := "abcdefghijklmnopqrstuvwx"
theorem six_ok : ∀ c ∈ six.cps.toList, 97 ≤ c ∧ c ≤ 122 := by decide +kernel
theorem six_len : six.length = 6 := by decide +kernel
theorem ends_len : ends.length = 24 := by decide +kernel
theorem ends_at {i : Nat} (h : i < 24) : L2.atI ends.cps.toList (i : Int) = some (97 + i) := by
  have : ∀ i : Fin 24, L2.atI ends.cps.toList ((i : Nat) : Int) = some (97 + i.1) := by decide +kernel
  exact this ⟨i, h⟩
def NameAt (i : Nat) (s : Str) : Prop := NameOk s ∧ s.cps.toList.getLast? = some (97 + i) ∧ s.length ≤ 4
theorem name_made {ys : List Nat} {i : Nat} (h1 : 1 ≤ ys.length) (h2 : ys.length ≤ 3) (h3 : ∀ y ∈ ys, 97 ≤ y ∧ y ≤ 122) (hi : i < 24) : NameAt i (Txt.join "" (ys.map fun y => (⟨#[y]⟩ : Str)) ++ ⟨#[97 + i]⟩) := by
  have e : (Txt.join "" (ys.map fun y => (⟨#[y]⟩ : Str)) ++ ⟨#[97 + i]⟩).cps.toList = ys ++ [97 + i] := by
    rw [cps_app, join_cps]
    congr 1
    rw [List.flatMap_map]
    simp
  have l : (Txt.join "" (ys.map fun y => (⟨#[y]⟩ : Str)) ++ ⟨#[97 + i]⟩).length = ys.length + 1 := by
    show (Txt.join "" (ys.map fun y => (⟨#[y]⟩ : Str)) ++ ⟨#[97 + i]⟩).cps.size = _
    rw [← Array.length_toList, e]; simp
  refine ⟨⟨by omega, by omega, fun c hc => ?_⟩, by rw [e]; simp, by omega⟩
  rw [e] at hc
  rcases List.mem_append.mp hc with hc | hc
  · exact h3 c hc
  · rw [List.mem_singleton] at hc; omega
end DL
set_option maxRecDepth 100000
set_option maxHeartbeats 400000
namespace DL
open PySem L2
local macro_rules | `(tactic| walk_at "dl") => `(tactic| simp (config := { dsimp := false }) only [↓fnM_e, ↓sSeq_e, seqK_nx, seqK_rt, seqK_bk, seqK_ct, retK_rt, retK_nx, ↓sFrz_e, frK_some, ↓sAsg, ↓sRet, ↓sRetN, ↓sIf, ↓sExpr, ↓sSkip, ↓sNever, ↓sPar, ↓sFor, ↓sSub, ↓fVar, ↓fC, ↓fNil, ↓fCons, ↓fA, ↓f1, ↓f2, ↓fB, ↓fIf, ↓fNeg, ↓fNot, ↓fAnd, ↓fOr, ↓bNot, ↓bAnd, ↓bOr, ↓bYes, ↓obnd_x, ob_some, ↓sbnd_x, sb_some, ↓ite_x, iteK_t, iteK_f, gN, gT, gC, gE, ↓rng1I, ↓rng2I, ↓seqI, ↓enumA, ↓zipI, ↓strI, ↓fLc, ↓fDc, ↓fM, ↓fSl, ↓oNone, ↓oSome, ↓fRev, wipeE, ↓kwM, permM, permL, List.foldr, List.length_cons, List.length_nil, List.map_cons, List.map_nil, List.cons_append, List.nil_append, List.replicate, List.replicate_succ, List.replicate_zero, List.getElem?_cons_zero, List.getElem?_cons_succ, List.set_cons_zero, List.set_cons_succ, if_true, if_false, reduceIte, Nat.reduceAdd, Nat.reduceSub, Nat.reduceEqDiff, Nat.reduceLT, Nat.reduceLeDiff, Int.reduceLT, Int.reduceLE, Int.reduceNeg, Int.reduceMul, Int.reduceAdd, Int.reduceSub, Int.reduceToNat, Int.reducePow, Int.reduceEq, ok, bok, deref, mkL, lstW, tupW, dats, Option.map_some, appendW, insertW, setL, isL, listW, tupleW, lenW, absW, intC, maxW, minW, idxW, addW, subW_e, modW_e, divW_e, powW_e, mulW, intW, lt_e, gt_e, le_e, ge_e, ltW, allW_e, anyW_e, sumW_e, lW, setW, lstAt, cutW, backW, isW, isiW, iLT_none, iLT_bool, iLT_int, iLT_str, iLT_list, iLT_tup, iL_none, iL_bool, iL_int, iL_str, iL_list, iL_tup, iT_none, iT_bool, iT_int, iT_str, iT_list, iT_tup, iS_none, iS_bool, iS_int, iS_str, iS_list, iS_tup, iI_none, iI_bool, iI_int, iI_str, iI_list, iI_tup, iB_none, iB_bool, iB_int, iB_str, iB_list, iB_tup, Bool.false_eq_true, reduceCtorEq, Bool.not_true, Bool.not_false, decide_true, decide_false, List.zip_cons_cons, List.zip_nil_left, List.foldl_cons, List.foldl_nil, and_self, and_true, true_and, Bool.and_true, Bool.true_and, Bool.or_true, Bool.true_or, *])
noncomputable def nmBody : SM := (sSeq (sAsg (fJoin (fC (.str "")) (fLc false (rng1I (fCons (f2 (addW false) (fC (.int 1)) (fA (m__law_take) (fCons (fVar 0) (fCons (fC (.int 3)) (fNil))))) (fNil))) (gN 5) (bYes) (fA (m__law_pick) (fCons (fVar 0) (fCons (fC (.str "abkmxz")) (fNil)))) [5])) (gN 4))
    (sAsg (fA (sortSW false) (fCons (f2 (addW false) (fVar 3) (fA (lstW false) (fCons (f2 (addW false) (fVar 4) (f2 idxW (fC (.str "abcdefghijklmnopqrstuvwx")) (fA lenW (fCons (fVar 3) (fNil))))) (fNil)))) (fNil))) (gN 3)))
theorem nm_run {g g1 g2 : Hh} {b : Nat} {r nI : Int} {L M Z nmz : Str} {cc : Nat} {F rs R : List D} {v1 v2 v4 : Option W} (hL : L = ends) (hM : M = six) (hZ : Z = "") (e1 : m__law_take [.ref b, .dat (.int 3)] g = some (.dat (.int r), g1)) (b0 : -1000000000 ≤ 1 + r) (b1 : 1 + r ≤ 1000000000)
    (e2 : lcL (gN 5) (bYes) (fA (m__law_pick) (fCons (fVar 0) (fCons (fC (.str M)) (fNil)))) [some (.ref b), v1, v2, some (.dat (.list F)), v4, none] (rngD 0 (1 + r).toNat) g1 = some (rs, g2)) (l1 : rs.length ≤ sizeLine) (ej : joinW (.dat (.str Z)) (.dat (.list rs)) g2 = some (.dat (.str nmz), g2)) (es : isS (.dat (.str Z)) = true)
    (hn : (F.length : Int) = nI) (la : L2.atI L.cps.toList nI = some cc) (ll : L.length ≤ sizeLine) (l2 : nmz.length + (Str.length ⟨#[cc]⟩) ≤ sizeLine) (l3 : F.length + 1 ≤ sizeLine) (eq : sortSW false [.dat (.list (F ++ [.str (nmz ++ ⟨#[cc]⟩)]))] g2 = some (.dat (.list R), g2)) :
    nmBody [some (.ref b), v1, v2, some (.dat (.list F)), v4, none] g = some (.nx [some (.ref b), v1, v2, some (.dat (.list R)), some (.dat (.str nmz)), none], g2) := by
  have c1 : 1 ≤ sizeLine := by decide
  unfold nmBody fJoin
  subst hL hM hZ
  walk_at "dl"
theorem rowS_sing (ys : List Nat) : rowS (ys.map fun y => PyData.str ⟨#[y]⟩) = some (ys.map fun y => (⟨#[y]⟩ : Str)) := by
  have := rowS_strs (ys.map fun y => (⟨#[y]⟩ : Str))
  rwa [List.map_map] at this
theorem nm_turn {g : Hh} {b c n : Nat} {l : List Str} {v1 v2 v4 : Option W} (hb : BoxAt g b c) (hc : c < 100000) (hl : l.length = n) (hn : n < 24) (nd : l.Nodup) (hno : ∀ s, NameAt n s → s ∉ l) :
    ∃ (s : Str) (v4' : Option W) (g' : Hh), NameAt n s ∧ nmBody [some (.ref b), v1, v2, some (.dat (.list (l.map .str))), v4, none] g = some (.nx [some (.ref b), v1, v2, some (.dat (.list (((l ++ [s]).mergeSort leT).map .str))), v4', none], g') ∧ BoxAt g' b (c + 4) ∧ Only b g g' := by
  have hz : sizeLine = 16777216 := rfl
  obtain ⟨r, g1, e1, r0, r1, b1, o1⟩ := take_ok (n := 3) hb (by omega) (by omega) (by omega)
  have key := lcL_inv (k := gN 5) (f := fA (m__law_pick) (fCons (fVar 0) (fCons (fC (.str six)) (fNil)))) (ρ := [some (.ref b), v1, v2, some (.dat (.list (l.map .str))), v4, none]) (fun k g' => BoxAt g' b (c + 1 + k) ∧ Only b g g') (fun _ d => ∃ y : Nat, y ∈ six.cps.toList ∧ d = .str ⟨#[y]⟩) (ds := rngD 0 (1 + r).toNat) (n := 0) (h := g1) ⟨b1, o1⟩ (by
    intro j d ej g' hi
    obtain ⟨bx, on⟩ := hi
    have hj := (rng_get ej).1
    obtain ⟨y, g2, e2, hy, b2, o2⟩ := pick_txt (z := six) bx (by omega) (by rw [six_len]; omega) (by rw [six_len]; omega)
    refine ⟨[some (.ref b), v1, v2, some (.dat (.list (l.map .str))), v4, some (.dat d)], .str ⟨#[y]⟩, g2, rfl, ?_, ⟨y, hy, rfl⟩, b2, on.trans o2⟩
    generalize six = M at *
    clear hb hc hl hn nd hno hz e1 r0 r1 b1 o1 ej bx on hj hy b2 o2
    walk_at "dl")
  obtain ⟨rs, g2, e2, rl, hr, b2, o2⟩ := key
  rw [rng_len] at rl b2
  obtain ⟨ys, rfl, hy⟩ : ∃ ys : List Nat, rs = ys.map (fun y => PyData.str ⟨#[y]⟩) ∧ ∀ y ∈ ys, y ∈ six.cps.toList := by
    have : ∀ rs : List D, (∀ d ∈ rs, ∃ y : Nat, y ∈ six.cps.toList ∧ d = .str ⟨#[y]⟩) → ∃ ys : List Nat, rs = ys.map (fun y => PyData.str ⟨#[y]⟩) ∧ ∀ y ∈ ys, y ∈ six.cps.toList := fun rs => by
      induction rs with
      | nil => exact fun _ => ⟨[], rfl, fun y hy => by cases hy⟩
      | cons d rs ih =>
        intro H
        obtain ⟨y, h1, rfl⟩ := H d List.mem_cons_self
        obtain ⟨ys, rfl, h2⟩ := ih fun e he => H e (List.mem_cons_of_mem _ he)
        exact ⟨y :: ys, rfl, fun z hz => by
          rcases List.mem_cons.mp hz with rfl | hz
          · exact h1
          · exact h2 z hz⟩
    refine this rs fun d hd => ?_
    obtain ⟨j, hj, rfl⟩ := List.getElem_of_mem hd
    exact hr j _ (List.getElem?_eq_getElem hj)
  rw [List.length_map] at rl
  have na := name_made (ys := ys) (i := n) (by omega) (by omega) (fun y h => six_ok y (hy y h)) hn
  have nn := hno _ na
  have ndl : (l ++ [Txt.join "" (ys.map fun y => (⟨#[y]⟩ : Str)) ++ ⟨#[97 + n]⟩]).Nodup := by
    rw [List.nodup_append]
    refine ⟨nd, by simp, fun x hx y hy' e => ?_⟩
    rw [List.mem_singleton] at hy'
    subst hy'
    rw [e] at hx
    exact nn hx
  have nl := na.1.2.1
  refine ⟨_, some (.dat (.str (Txt.join "" (ys.map fun y => (⟨#[y]⟩ : Str))))), g2, na, nm_run (L := ends) (M := six) (Z := "") (cc := 97 + n) (nI := (n : Int)) rfl rfl rfl e1 (by omega) (by omega) e2 (by rw [List.length_map]; omega) ?_ rfl (by rw [List.length_map, hl]) (ends_at hn) (by rw [ends_len]; omega) ?_ (by rw [List.length_map]; omega) ?_, b2.mono (by omega), o2⟩
  · unfold joinW
    have q : ((ys.map fun y => (⟨#[y]⟩ : Str)).map (·.length)).sum + (ys.map fun y => (⟨#[y]⟩ : Str)).length * ("" : Str).length ≤ 16777216 := by
      have e0 : ("" : Str).length = 0 := by decide +kernel
      rw [e0, Nat.mul_zero, List.map_map]
      have : ∀ ys : List Nat, (ys.map ((fun s : Str => s.length) ∘ fun y => (⟨#[y]⟩ : Str))).sum = ys.length := fun ys => by
        induction ys with
        | nil => rfl
        | cons a t ih =>
          rw [List.map_cons, List.sum_cons, ih, List.length_cons]
          show 1 + _ = _
          omega
      rw [this]
      omega
    simp only [deref, rowS_sing]
    rw [if_pos q]
    rfl
  · rw [← len_app]; omega
  · unfold sortSW
    have e : rowS (l.map PyData.str ++ [.str (Txt.join "" (ys.map fun y => (⟨#[y]⟩ : Str)) ++ ⟨#[97 + n]⟩)]) = some (l ++ [Txt.join "" (ys.map fun y => (⟨#[y]⟩ : Str)) ++ ⟨#[97 + n]⟩]) := by
      have := rowS_strs (l ++ [Txt.join "" (ys.map fun y => (⟨#[y]⟩ : Str)) ++ ⟨#[97 + n]⟩])
      rwa [List.map_append] at this
    have ln : (l ++ [Txt.join "" (ys.map fun y => (⟨#[y]⟩ : Str)) ++ ⟨#[97 + n]⟩]).length < 1000 := by rw [List.length_append]; simp; omega
    simp only [deref, e, ndl, ln, decide_true, Bool.and_self, if_true]
    rfl
end DL
set_option maxRecDepth 100000
set_option maxHeartbeats 400000
namespace DL
open PySem L2
local macro_rules | `(tactic| walk_at "dl") => `(tactic| simp (config := { dsimp := false }) only [↓fnM_e, ↓sSeq_e, seqK_nx, seqK_rt, seqK_bk, seqK_ct, retK_rt, retK_nx, ↓sFrz_e, frK_some, ↓sAsg, ↓sRet, ↓sRetN, ↓sIf, ↓sExpr, ↓sSkip, ↓sNever, ↓sPar, ↓sFor, ↓sSub, ↓fVar, ↓fC, ↓fNil, ↓fCons, ↓fA, ↓f1, ↓f2, ↓fB, ↓fIf, ↓fNeg, ↓fNot, ↓fAnd, ↓fOr, ↓bNot, ↓bAnd, ↓bOr, ↓bYes, ↓obnd_x, ob_some, ↓sbnd_x, sb_some, ↓ite_x, iteK_t, iteK_f, gN, gT, gC, gE, ↓rng1I, ↓rng2I, ↓seqI, ↓enumA, ↓zipI, ↓strI, ↓fLc, ↓fDc, ↓fM, ↓fSl, ↓oNone, ↓oSome, ↓fRev, wipeE, ↓kwM, permM, permL, List.foldr, List.length_cons, List.length_nil, List.map_cons, List.map_nil, List.cons_append, List.nil_append, List.replicate, List.replicate_succ, List.replicate_zero, List.getElem?_cons_zero, List.getElem?_cons_succ, List.set_cons_zero, List.set_cons_succ, if_true, if_false, reduceIte, Nat.reduceAdd, Nat.reduceSub, Nat.reduceEqDiff, Nat.reduceLT, Nat.reduceLeDiff, Int.reduceLT, Int.reduceLE, Int.reduceNeg, Int.reduceMul, Int.reduceAdd, Int.reduceSub, Int.reduceToNat, Int.reducePow, Int.reduceEq, ok, bok, deref, mkL, lstW, tupW, dats, Option.map_some, appendW, insertW, setL, isL, listW, tupleW, lenW, absW, intC, maxW, minW, idxW, addW, subW_e, modW_e, divW_e, powW_e, mulW, intW, lt_e, gt_e, le_e, ge_e, ltW, allW_e, anyW_e, sumW_e, lW, setW, lstAt, cutW, backW, isW, isiW, iLT_none, iLT_bool, iLT_int, iLT_str, iLT_list, iLT_tup, iL_none, iL_bool, iL_int, iL_str, iL_list, iL_tup, iT_none, iT_bool, iT_int, iT_str, iT_list, iT_tup, iS_none, iS_bool, iS_int, iS_str, iS_list, iS_tup, iI_none, iI_bool, iI_int, iI_str, iI_list, iI_tup, iB_none, iB_bool, iB_int, iB_str, iB_list, iB_tup, Bool.false_eq_true, reduceCtorEq, Bool.not_true, Bool.not_false, decide_true, decide_false, List.zip_cons_cons, List.zip_nil_left, List.foldl_cons, List.foldl_nil, and_self, and_true, true_and, Bool.and_true, Bool.true_and, Bool.or_true, Bool.true_or, *])
theorem nameAt_inj {i j : Nat} {s : Str} (h1 : NameAt i s) (h2 : NameAt j s) : i = j := by
  have := h1.2.1.symm.trans h2.2.1
  injection this with e
  omega
theorem names_okZ {h : Hh} {b c most : Nat} (hb : BoxAt h b c) (hc : c < 10000) (m0 : 0 < most) (m1 : most ≤ 24) :
    ∃ (l : List Str) (h' : Hh), m__law_names [.ref b, .dat (.int most)] h = some (.dat (.list (l.map .str)), h') ∧ Folk most l ∧ (∀ s ∈ l, s.length ≤ 4) ∧ l.Pairwise (fun a b => leS a b = true) ∧ BoxAt h' b (c + 1 + 4 * most) ∧ Only b h h' := by
  have hz : sizeLine = 16777216 := rfl
  obtain ⟨r, g1, e1, r0, r1, b1, o1⟩ := take_ok (n := (most : Int)) hb (by omega) (by omega) (by omega)
  have key := whileL_run (t := fB (f2 lt_W (fA lenW (fCons (fVar 3) (fNil))) (fVar 2))) (body := nmBody) (fun n ρ g => ∃ (l : List Str) (v4 : Option W), ρ = [some (.ref b), some (.dat (.int most)), some (.dat (.int (1 + r))), some (.dat (.list (l.map .str))), v4, none] ∧ l.length = n ∧ l.Nodup ∧ (∀ s ∈ l, ∃ i, i < n ∧ NameAt i s) ∧ l.Pairwise (fun a b => leS a b = true) ∧ BoxAt g b (c + 1 + 4 * n) ∧ Only b h g)
    (1 + r).toNat (n := 0) (fuel := 100000) (ρ := [some (.ref b), some (.dat (.int most)), some (.dat (.int (1 + r))), some (.dat (.list [])), none, none]) (h := g1) (by omega) ⟨[], none, rfl, rfl, .nil, (fun s hs => by cases hs), .nil, b1, o1⟩ (by
      intro j ρ g _ hj hi
      obtain ⟨l, v4, rfl, hl, nd, hs, pw, bx, on⟩ := hi
      obtain ⟨s, v4', g', na, et, b2, o2⟩ := nm_turn (v1 := some (.dat (.int most))) (v2 := some (.dat (.int (1 + r)))) (v4 := v4) bx (by omega) hl (by omega) nd (fun s hs' hm => by
        obtain ⟨i, hi, ni⟩ := hs s hm
        have := nameAt_inj hs' ni
        omega)
      have pm := List.mergeSort_perm (l ++ [s]) leT
      refine ⟨g, _, g', ?_, et, _, v4', rfl, ?_, ?_, ?_, ?_, b2.mono (by omega), on.trans o2⟩
      · have d1 : decide (((l.map PyData.str).length : Int) < 1 + r) = true := by rw [List.length_map, hl]; simp; omega
        clear hz e1 r0 r1 b1 o1 hl nd hs pw bx on na et b2 o2 hb hc m0 m1 hj pm
        walk_at "dl"
      · rw [pm.length_eq]; simp [hl]
      · refine pm.nodup_iff.mpr ?_
        rw [List.nodup_append]
        refine ⟨nd, by simp, fun x hx y hy e => ?_⟩
        rw [List.mem_singleton] at hy
        subst hy
        subst e
        obtain ⟨i, hi, ni⟩ := hs x hx
        have := nameAt_inj na ni
        omega
      · intro x hx
        rcases List.mem_append.mp (pm.mem_iff.mp hx) with hx | hx
        · obtain ⟨i, hi, ni⟩ := hs x hx
          exact ⟨i, by omega, ni⟩
        · rw [List.mem_singleton] at hx
          subst hx
          exact ⟨j, by omega, na⟩
      · exact List.pairwise_mergeSort leT_trans leT_total (l ++ [s])) (by
      intro ρ g hi
      obtain ⟨l, v4, rfl, hl, nd, hs, pw, bx, on⟩ := hi
      have d1 : decide (((l.map PyData.str).length : Int) < 1 + r) = false := by rw [List.length_map, hl]; simp; omega
      clear hz e1 r0 r1 b1 o1 hl nd hs pw bx on hb hc m0 m1
      walk_at "dl")
  obtain ⟨ρ', g, e2, l, v4, rfl, hl, nd, hs, pw, bx, on⟩ := key
  have bm : BoxAt g b (c + 1 + 4 * most) := bx.mono (by omega)
  refine ⟨l, g, ?_, ⟨nd, by omega, by omega, fun s h' => by obtain ⟨i, _, na⟩ := hs s h'; exact na.1⟩, fun s h' => by obtain ⟨i, _, na⟩ := hs s h'; exact na.2.2, pw, bm, on⟩
  have lv := leave_dat' (d := .list (l.map .str)) hb bm on
  have c0 : 0 ≤ sizeLine := Nat.zero_le _
  have ew : sWhile 100000 (fB (f2 lt_W (fA lenW (fCons (fVar 3) (fNil))) (fVar 2))) nmBody [some (.ref b), some (.dat (.int most)), some (.dat (.int (1 + r))), some (.dat (.list [])), none, none] g1 = some (.nx [some (.ref b), some (.dat (.int most)), some (.dat (.int (1 + r))), some (.dat (.list (l.map .str))), v4, none], g) := e2
  unfold nmBody at ew
  unfold m__law_names
  clear hz r0 r1 b1 o1 hl nd hs pw bx on hb hc m0 m1 e2 bm
  walk_at "dl"
theorem erase_map {α β : Type} (f : α → β) : ∀ (l : List α) (i : Nat), (l.map f).eraseIdx i = (l.eraseIdx i).map f
  | [], _ => rfl
  | a :: l, 0 => rfl
  | a :: l, i + 1 => by
    show f a :: (l.map f).eraseIdx i = f a :: (l.eraseIdx i).map f
    rw [erase_map f l i]
theorem erase_perm {α : Type} : ∀ (l : List α) (i : Nat) (h : i < l.length), l.Perm (l[i] :: l.eraseIdx i)
  | a :: l, 0, _ => List.Perm.refl _
  | a :: l, i + 1, h => by
    have ih := erase_perm l i (by simpa using h)
    exact (List.Perm.cons a ih).trans (List.Perm.swap _ _ _)
theorem eqW_nil {l : List Str} {n : Nat} {h : Hh} (ht : Txts l) (hg : h[n]? = some (some (.lst (l.map .str)))) : eqW true (.ref n) (.dat (.list [])) h = some (.dat (.bool (decide (l ≠ []))), h) := by
  have hs := shp_list ht
  have h0 : shp (.list []) = true := by decide +kernel
  have e : PyData.eqv (.list (l.map .str)) (.list []) = decide (l = []) := by
    cases l with
    | nil => decide +kernel
    | cons a l => simp [PyData.eqv, PyData.eqvAll]
  unfold eqW
  simp only [deref, hg, eqS, hs, h0, e, Bool.and_self, if_true]
  show bok (!decide (l = [])) h = _
  rw [← decide_not]; rfl
end DL
set_option maxRecDepth 100000
set_option maxHeartbeats 400000
namespace DL
open PySem L2
local macro_rules | `(tactic| walk_at "dl") => `(tactic| simp (config := { dsimp := false }) only [↓fnM_e, ↓sSeq_e, seqK_nx, seqK_rt, seqK_bk, seqK_ct, retK_rt, retK_nx, ↓sFrz_e, frK_some, ↓sAsg, ↓sRet, ↓sRetN, ↓sIf, ↓sExpr, ↓sSkip, ↓sNever, ↓sPar, ↓sFor, ↓sSub, ↓fVar, ↓fC, ↓fNil, ↓fCons, ↓fA, ↓f1, ↓f2, ↓fB, ↓fIf, ↓fNeg, ↓fNot, ↓fAnd, ↓fOr, ↓bNot, ↓bAnd, ↓bOr, ↓bYes, ↓obnd_x, ob_some, ↓sbnd_x, sb_some, ↓ite_x, iteK_t, iteK_f, gN, gT, gC, gE, ↓rng1I, ↓rng2I, ↓seqI, ↓enumA, ↓zipI, ↓strI, ↓fLc, ↓fDc, ↓fM, ↓fSl, ↓oNone, ↓oSome, ↓fRev, wipeE, ↓kwM, permM, permL, List.foldr, List.length_cons, List.length_nil, List.map_cons, List.map_nil, List.cons_append, List.nil_append, List.replicate, List.replicate_succ, List.replicate_zero, List.getElem?_cons_zero, List.getElem?_cons_succ, List.set_cons_zero, List.set_cons_succ, if_true, if_false, reduceIte, Nat.reduceAdd, Nat.reduceSub, Nat.reduceEqDiff, Nat.reduceLT, Nat.reduceLeDiff, Int.reduceLT, Int.reduceLE, Int.reduceNeg, Int.reduceMul, Int.reduceAdd, Int.reduceSub, Int.reduceToNat, Int.reducePow, Int.reduceEq, ok, bok, deref, mkL, lstW, tupW, dats, Option.map_some, appendW, insertW, setL, isL, listW, tupleW, lenW, absW, intC, maxW, minW, idxW, addW, subW_e, modW_e, divW_e, powW_e, mulW, intW, lt_e, gt_e, le_e, ge_e, ltW, allW_e, anyW_e, sumW_e, lW, setW, lstAt, cutW, backW, isW, isiW, iLT_none, iLT_bool, iLT_int, iLT_str, iLT_list, iLT_tup, iL_none, iL_bool, iL_int, iL_str, iL_list, iL_tup, iT_none, iT_bool, iT_int, iT_str, iT_list, iT_tup, iS_none, iS_bool, iS_int, iS_str, iS_list, iS_tup, iI_none, iI_bool, iI_int, iI_str, iI_list, iI_tup, iB_none, iB_bool, iB_int, iB_str, iB_list, iB_tup, Bool.false_eq_true, reduceCtorEq, Bool.not_true, Bool.not_false, decide_true, decide_false, List.zip_cons_cons, List.zip_nil_left, List.foldl_cons, List.foldl_nil, and_self, and_true, true_and, Bool.and_true, Bool.true_and, Bool.or_true, Bool.true_or, *])
noncomputable def rowBody : SM := sExpr (fM isL appendW (fVar 3) (fCons (fM isL popAtW (fVar 2) (fCons (fA (m__law_take) (fCons (fVar 0) (fCons (fA lenW (fCons (fVar 2) (fNil))) (fNil)))) (fNil))) (fNil)))
theorem row_turn {g g1 g2 : Hh} {b p q : Nat} {x : W} {left found : List D} {d : D} {i n : Int} (hp : g[p]? = some (some (.lst left))) (hq : g[q]? = some (some (.lst found))) (hn : (left.length : Int) = n) (e1 : m__law_take [.ref b, .dat (.int n)] g = some (.dat (.int i), g1)) (hp1 : g1[p]? = some (some (.lst left))) (i0 : 0 ≤ i) (i1 : i < 1000000) (hd : left[i.toNat]? = some d)
    (e2 : g1.set p (some (.lst (left.eraseIdx i.toNat))) = g2) (hq2 : g2[q]? = some (some (.lst found))) (hl : found.length < sizeLine) :
    rowBody [some (.ref b), some x, some (.ref p), some (.ref q)] g = some (.nx [some (.ref b), some x, some (.ref p), some (.ref q)], g2.set q (some (.lst (found ++ [d])))) := by
  have f1 : isL (.ref p) g = true := by unfold isL; simp only [deref, hp]
  have f2 : isL (.ref q) g = true := by unfold isL; simp only [deref, hq]
  have f3 : popAtW (.ref p) [.dat (.int i)] g1 = some (.dat d, g2) := by
    unfold popAtW lstAt setL
    simp only [hp1, hd, e2]
    rw [if_pos ⟨i0, i1⟩]
  have f4 : appendW (.ref q) [.dat d] g2 = some (.dat .none, g2.set q (some (.lst (found ++ [d])))) := by
    unfold appendW lstAt setL
    simp only [hq2, hl, if_true]
  have f5 : lenW [.ref p] g = some (.dat (.int n), g) := by
    unfold lenW
    simp only [deref, hp, hn]
    rfl
  unfold rowBody fM
  clear hp hq hn hp1 i0 i1 hd e2 hq2 hl
  simp only [fCons, fNil, fA, fVar, sExpr, List.getElem?_cons_zero, List.getElem?_cons_succ, obnd, sbnd, f1, f2, if_true, e1, f3, f4, f5]
theorem only_two {b : Nat} {h h' : Hh} {o o' : Option MO} (hb : b < h.length) (x : Only b (h ++ [o, o']) h') : ∃ g : Hh, h' = g ++ [o, o'] ∧ g.length = h.length ∧ Only b h g := by
  have x' : Only b ((h ++ [o]) ++ [o']) h' := by simpa using x
  obtain ⟨o1, g1, e1, l1⟩ := only_app (by rw [List.length_append]; omega) x'
  rw [e1, app_take l1] at o1
  obtain ⟨o2, g2, e2, l2⟩ := only_app hb o1
  rw [e2, app_take l2] at o2
  exact ⟨g2, by rw [e1, e2]; simp, l2, o2⟩
theorem two_get {g : Hh} {o o' : Option MO} {n : Nat} (e : g.length = n) : (g ++ [o, o'])[n]? = some o ∧ (g ++ [o, o'])[n + 1]? = some o' := by
  constructor
  · rw [List.getElem?_append_right (by omega), e, Nat.sub_self]; rfl
  · rw [List.getElem?_append_right (by omega), e, show n + 1 - n = 1 by omega]; rfl
theorem two_set {g : Hh} {o o' z : Option MO} {n : Nat} (e : g.length = n) : (g ++ [o, o']).set n z = g ++ [z, o'] ∧ (g ++ [o, o']).set (n + 1) z = g ++ [o, z] := by
  constructor
  · rw [List.set_append_right _ _ (by omega), show n - g.length = 0 by omega]; rfl
  · rw [List.set_append_right _ _ (by omega), show n + 1 - g.length = 1 by omega]; rfl
theorem row_ok {x : D} {l : List Str} {h : Hh} {b c : Nat} (hx : IsSeq x (l.map .str)) (ht : Txts l) (hb : BoxAt h b c) (hc : c < 1000000) (hl : l.length ≤ 1000) :
    ∃ (r : List Str) (h' : Hh), m__law_row [.ref b, .dat x] h = some (.dat (rowT r), h') ∧ r.Perm l ∧ BoxAt h' b (c + l.length) ∧ Only b h h' := by
  have hz : sizeLine = 16777216 := rfl
  have key := whileL_run (t := fB (f2 (eqW true) (fVar 2) (fA (lstW false) (fNil)))) (body := rowBody) (fun n ρ g => ∃ (left found : List Str) (g' : Hh), ρ = [some (.ref b), some (.dat x), some (.ref h.length), some (.ref (h.length + 1))] ∧ g = g' ++ [some (.lst (left.map .str)), some (.lst (found.map .str))] ∧ (found ++ left).Perm l ∧ left.length + n = l.length ∧ BoxAt g' b (c + n) ∧ Only b h g')
    l.length (n := 0) (fuel := 100000) (ρ := [some (.ref b), some (.dat x), some (.ref h.length), some (.ref (h.length + 1))]) (h := h ++ [some (.lst (l.map .str)), some (.lst [])]) (by omega) ⟨l, [], h, rfl, rfl, List.Perm.refl _, rfl, hb, .refl _ _⟩ (by
      intro j ρ g _ hj hi
      obtain ⟨left, found, g', rfl, rfl, pm, ll, bx, on⟩ := hi
      have gl := on.len
      have tl : Txts left := fun s hs => ht s (pm.mem_iff.mp (List.mem_append_right _ hs))
      have fl : found.length ≤ l.length := by have := pm.length_eq; rw [List.length_append] at this; omega
      obtain ⟨i, g1, e1, i0, i1, b1, o1⟩ := take_ok (n := (left.length : Int)) (box_app (l := [some (.lst (left.map .str)), some (.lst (found.map .str))]) bx) (by omega) (by omega) (by omega)
      obtain ⟨g2, rfl, g2l, o2⟩ := only_two bx.lt o1
      have hi : i.toNat < left.length := by omega
      have hlb : h.length = g'.length := gl.symm
      have et := row_turn (x := .dat x) (p := h.length) (q := h.length + 1) (left := left.map .str) (found := found.map .str) (d := .str left[i.toNat]) (n := (left.length : Int)) (two_get (by omega)).1 (two_get (by omega)).2 (by rw [List.length_map]) e1 (two_get (by omega)).1 i0 (by omega) (by rw [List.getElem?_map, List.getElem?_eq_getElem hi]; rfl) (two_set (by omega)).1 (two_get (by omega)).2 (by rw [List.length_map]; omega)
      rw [(two_set (by omega)).2] at et
      refine ⟨_, _, _, ?_, et, left.eraseIdx i.toNat, found ++ [left[i.toNat]], g2, rfl, ?_, ?_, ?_, ?_, on.trans o2⟩
      · have ne : left ≠ [] := fun z => by rw [z] at hi; simp at hi
        have e3 := eqW_nil (n := h.length) (h := g' ++ [some (.lst (left.map .str)), some (.lst (found.map .str))]) tl (two_get (by omega)).1
        rw [decide_eq_true ne] at e3
        have c0 : 0 ≤ sizeLine := Nat.zero_le _
        clear et e1 hz ht hb hc hl pm ll bx on tl fl b1 o1 o2 hx gl hlb g2l i0 i1 ne hi hj
        walk_at "dl"
      · rw [erase_map, List.map_append]; rfl
      · refine List.Perm.trans ?_ pm
        rw [List.append_assoc]
        exact List.Perm.append_left _ (erase_perm left i.toNat hi).symm
      · rw [List.length_eraseIdx_of_lt hi]; omega
      · have := box_take b1 (n := g2.length) (by rw [g2l]; exact bx.lt)
        rw [List.take_append_of_le_length (Nat.le_refl _), List.take_length] at this
        exact this) (by
      intro ρ g hi
      obtain ⟨left, found, g', rfl, rfl, pm, ll, bx, on⟩ := hi
      have e0 : left = [] := List.length_eq_zero_iff.mp (by omega)
      subst e0
      have gl := on.len
      have e3 := eqW_nil (l := []) (n := h.length) (h := g' ++ [some (.lst (([] : List Str).map .str)), some (.lst (found.map .str))]) (fun s hs => by cases hs) (two_get (by omega)).1
      have e4 : decide (([] : List Str) ≠ []) = false := by simp
      rw [e4] at e3
      have c0 : 0 ≤ sizeLine := Nat.zero_le _
      rw [List.map_nil] at e3 ⊢
      clear hz ht hb hc hl pm ll bx on hx gl e4
      walk_at "dl")
  obtain ⟨ρ', g, e2, left, found, g', rfl, rfl, pm, ll, bx, on⟩ := key
  have e0 : left = [] := List.length_eq_zero_iff.mp (by omega)
  subst e0
  rw [List.append_nil] at pm
  rw [Nat.zero_add] at bx
  refine ⟨found, g', ?_, pm, bx, on⟩
  have gl := on.len
  have lb := hb.lt
  have lv : leave false h (.dat (rowT found)) (g' ++ [some (.lst []), none]) = some (.dat (rowT found), g') := by
    have e : (g' ++ [some (MO.lst []), none]).take h.length = g' := by rw [← gl, List.take_append_of_le_length (Nat.le_refl _), List.take_length]
    rw [leave_dat (by rw [e]; exact live_only hb bx on), e]
  have hf : frz 3 [some (.ref b), some (.dat x), some (.ref h.length), some (.ref (h.length + 1))] (g' ++ [some (.lst []), some (.lst (found.map .str))]) = some ([some (.ref b), some (.dat x), some (.ref h.length), some (.dat (.list (found.map .str)))], g' ++ [some (.lst []), none]) := by
    have g1 := (two_get (g := g') (o := some (MO.lst [])) (o' := some (MO.lst (found.map .str))) (n := h.length) (by omega)).2
    have g2 := (two_set (g := g') (o := some (MO.lst [])) (o' := some (MO.lst (found.map .str))) (z := none) (n := h.length) (by omega)).2
    have n1 : (b = h.length + 1) = False := eq_false (by omega)
    have n2 : (h.length = h.length + 1) = False := eq_false (by omega)
    unfold frz
    simp only [List.getElem?_cons_zero, List.getElem?_cons_succ, g1, g2, List.set_cons_zero, List.set_cons_succ, List.any_cons, List.any_nil, isR_ref, isR_dat, isR_none, n1, n2, decide_false, Bool.or_false, isTab, Bool.false_eq_true, if_false, moD]
  have ew : sWhile 100000 (fB (f2 (eqW true) (fVar 2) (fA (lstW false) (fNil)))) rowBody [some (.ref b), some (.dat x), some (.ref h.length), some (.ref (h.length + 1))] (h ++ [some (.lst (l.map .str)), some (.lst [])]) = some (.nx [some (.ref b), some (.dat x), some (.ref h.length), some (.ref (h.length + 1))], g' ++ [some (.lst []), some (.lst (found.map .str))]) := e2
  have c0 : 0 ≤ sizeLine := Nat.zero_le _
  have ha : (h ++ [some (MO.lst (l.map .str))]) ++ [some (.lst [])] = h ++ [some (.lst (l.map .str)), some (.lst [])] := by simp
  have hl1 : (h ++ [some (MO.lst (l.map PyData.str))]).length = h.length + 1 := by simp
  unfold rowBody at ew
  unfold m__law_row
  clear hz ht hb hc hl pm ll bx on e2 gl lb
  rcases hx with rfl | rfl <;> walk_at "dl"
end DL
set_option maxRecDepth 100000
set_option maxHeartbeats 400000
namespace DL
open PySem L2
local macro_rules | `(tactic| walk_at "dl") => `(tactic| simp (config := { dsimp := false }) only [↓fnM_e, ↓sSeq_e, seqK_nx, seqK_rt, seqK_bk, seqK_ct, retK_rt, retK_nx, ↓sFrz_e, frK_some, ↓sAsg, ↓sRet, ↓sRetN, ↓sIf, ↓sExpr, ↓sSkip, ↓sNever, ↓sPar, ↓sFor, ↓sSub, ↓fVar, ↓fC, ↓fNil, ↓fCons, ↓fA, ↓f1, ↓f2, ↓fB, ↓fIf, ↓fNeg, ↓fNot, ↓fAnd, ↓fOr, ↓bNot, ↓bAnd, ↓bOr, ↓bYes, ↓obnd_x, ob_some, ↓sbnd_x, sb_some, ↓ite_x, iteK_t, iteK_f, gN, gT, gC, gE, ↓rng1I, ↓rng2I, ↓seqI, ↓enumA, ↓zipI, ↓strI, ↓fLc, ↓fDc, ↓fM, ↓fSl, ↓oNone, ↓oSome, ↓fRev, wipeE, ↓kwM, permM, permL, List.foldr, List.length_cons, List.length_nil, List.map_cons, List.map_nil, List.cons_append, List.nil_append, List.replicate, List.replicate_succ, List.replicate_zero, List.getElem?_cons_zero, List.getElem?_cons_succ, List.set_cons_zero, List.set_cons_succ, if_true, if_false, reduceIte, Nat.reduceAdd, Nat.reduceSub, Nat.reduceEqDiff, Nat.reduceLT, Nat.reduceLeDiff, Int.reduceLT, Int.reduceLE, Int.reduceNeg, Int.reduceMul, Int.reduceAdd, Int.reduceSub, Int.reduceToNat, Int.reducePow, Int.reduceEq, ok, bok, deref, mkL, lstW, tupW, dats, Option.map_some, appendW, insertW, setL, isL, listW, tupleW, lenW, absW, intC, maxW, minW, idxW, addW, subW_e, modW_e, divW_e, powW_e, mulW, intW, lt_e, gt_e, le_e, ge_e, ltW, allW_e, anyW_e, sumW_e, lW, setW, lstAt, cutW, backW, isW, isiW, iLT_none, iLT_bool, iLT_int, iLT_str, iLT_list, iLT_tup, iL_none, iL_bool, iL_int, iL_str, iL_list, iL_tup, iT_none, iT_bool, iT_int, iT_str, iT_list, iT_tup, iS_none, iS_bool, iS_int, iS_str, iS_list, iS_tup, iI_none, iI_bool, iI_int, iI_str, iI_list, iI_tup, iB_none, iB_bool, iB_int, iB_str, iB_list, iB_tup, Bool.false_eq_true, reduceCtorEq, Bool.not_true, Bool.not_false, decide_true, decide_false, List.zip_cons_cons, List.zip_nil_left, List.foldl_cons, List.foldl_nil, and_self, and_true, true_and, Bool.and_true, Bool.true_and, Bool.or_true, Bool.true_or, *])
end DL
set_option maxRecDepth 100000
set_option maxHeartbeats 400000
namespace DL
open PySem L2
local macro_rules | `(tactic| walk_at "dl") => `(tactic| simp (config := { dsimp := false }) only [↓fnM_e, ↓sSeq_e, seqK_nx, seqK_rt, seqK_bk, seqK_ct, retK_rt, retK_nx, ↓sFrz_e, frK_some, ↓sAsg, ↓sRet, ↓sRetN, ↓sIf, ↓sExpr, ↓sSkip, ↓sNever, ↓sPar, ↓sFor, ↓sSub, ↓fVar, ↓fC, ↓fNil, ↓fCons, ↓fA, ↓f1, ↓f2, ↓fB, ↓fIf, ↓fNeg, ↓fNot, ↓fAnd, ↓fOr, ↓bNot, ↓bAnd, ↓bOr, ↓bYes, ↓obnd_x, ob_some, ↓sbnd_x, sb_some, ↓ite_x, iteK_t, iteK_f, gN, gT, gC, gE, ↓rng1I, ↓rng2I, ↓seqI, ↓enumA, ↓zipI, ↓strI, ↓fLc, ↓fDc, ↓fM, ↓fSl, ↓oNone, ↓oSome, ↓fRev, wipeE, ↓kwM, permM, permL, List.foldr, List.length_cons, List.length_nil, List.map_cons, List.map_nil, List.cons_append, List.nil_append, List.replicate, List.replicate_succ, List.replicate_zero, List.getElem?_cons_zero, List.getElem?_cons_succ, List.set_cons_zero, List.set_cons_succ, if_true, if_false, reduceIte, Nat.reduceAdd, Nat.reduceSub, Nat.reduceEqDiff, Nat.reduceLT, Nat.reduceLeDiff, Int.reduceLT, Int.reduceLE, Int.reduceNeg, Int.reduceMul, Int.reduceAdd, Int.reduceSub, Int.reduceToNat, Int.reducePow, Int.reduceEq, ok, bok, deref, mkL, lstW, tupW, dats, Option.map_some, appendW, insertW, setL, isL, listW, tupleW, lenW, absW, intC, maxW, minW, idxW, addW, subW_e, modW_e, divW_e, powW_e, mulW, intW, lt_e, gt_e, le_e, ge_e, ltW, allW_e, anyW_e, sumW_e, lW, setW, lstAt, cutW, backW, isW, isiW, iLT_none, iLT_bool, iLT_int, iLT_str, iLT_list, iLT_tup, iL_none, iL_bool, iL_int, iL_str, iL_list, iL_tup, iT_none, iT_bool, iT_int, iT_str, iT_list, iT_tup, iS_none, iS_bool, iS_int, iS_str, iS_list, iS_tup, iI_none, iI_bool, iI_int, iI_str, iI_list, iI_tup, iB_none, iB_bool, iB_int, iB_str, iB_list, iB_tup, Bool.false_eq_true, reduceCtorEq, Bool.not_true, Bool.not_false, decide_true, decide_false, List.zip_cons_cons, List.zip_nil_left, List.foldl_cons, List.foldl_nil, and_self, and_true, true_and, Bool.and_true, Bool.true_and, Bool.or_true, Bool.true_or, *])
end DL
set_option maxRecDepth 100000
set_option maxHeartbeats 400000
namespace DL
open PySem L2
local macro_rules | `(tactic| walk_at "dl") => `(tactic| simp (config := { dsimp := false }) only [↓fnM_e, ↓sSeq_e, seqK_nx, seqK_rt, seqK_bk, seqK_ct, retK_rt, retK_nx, ↓sFrz_e, frK_some, ↓sAsg, ↓sRet, ↓sRetN, ↓sIf, ↓sExpr, ↓sSkip, ↓sNever, ↓sPar, ↓sFor, ↓sSub, ↓fVar, ↓fC, ↓fNil, ↓fCons, ↓fA, ↓f1, ↓f2, ↓fB, ↓fIf, ↓fNeg, ↓fNot, ↓fAnd, ↓fOr, ↓bNot, ↓bAnd, ↓bOr, ↓bYes, ↓obnd_x, ob_some, ↓sbnd_x, sb_some, ↓ite_x, iteK_t, iteK_f, gN, gT, gC, gE, ↓rng1I, ↓rng2I, ↓seqI, ↓enumA, ↓zipI, ↓strI, ↓fLc, ↓fDc, ↓fM, ↓fSl, ↓oNone, ↓oSome, ↓fRev, wipeE, ↓kwM, permM, permL, List.foldr, List.length_cons, List.length_nil, List.map_cons, List.map_nil, List.cons_append, List.nil_append, List.replicate, List.replicate_succ, List.replicate_zero, List.getElem?_cons_zero, List.getElem?_cons_succ, List.set_cons_zero, List.set_cons_succ, if_true, if_false, reduceIte, Nat.reduceAdd, Nat.reduceSub, Nat.reduceEqDiff, Nat.reduceLT, Nat.reduceLeDiff, Int.reduceLT, Int.reduceLE, Int.reduceNeg, Int.reduceMul, Int.reduceAdd, Int.reduceSub, Int.reduceToNat, Int.reducePow, Int.reduceEq, ok, bok, deref, mkL, lstW, tupW, dats, Option.map_some, appendW, insertW, setL, isL, listW, tupleW, lenW, absW, intC, maxW, minW, idxW, addW, subW_e, modW_e, divW_e, powW_e, mulW, intW, lt_e, gt_e, le_e, ge_e, ltW, allW_e, anyW_e, sumW_e, lW, setW, lstAt, cutW, backW, isW, isiW, iLT_none, iLT_bool, iLT_int, iLT_str, iLT_list, iLT_tup, iL_none, iL_bool, iL_int, iL_str, iL_list, iL_tup, iT_none, iT_bool, iT_int, iT_str, iT_list, iT_tup, iS_none, iS_bool, iS_int, iS_str, iS_list, iS_tup, iI_none, iI_bool, iI_int, iI_str, iI_list, iI_tup, iB_none, iB_bool, iB_int, iB_str, iB_list, iB_tup, Bool.false_eq_true, reduceCtorEq, Bool.not_true, Bool.not_false, decide_true, decide_false, List.zip_cons_cons, List.zip_nil_left, List.foldl_cons, List.foldl_nil, and_self, and_true, true_and, Bool.and_true, Bool.true_and, Bool.or_true, Bool.true_or, *])
theorem strs_all {l : List Str} : ∀ {rs : List D}, (∀ d ∈ rs, ∃ s, s ∈ l ∧ d = .str s) → ∃ m : List Str, rs = m.map .str ∧ ∀ s ∈ m, s ∈ l
  | [], _ => ⟨[], rfl, fun s hs => by cases hs⟩
  | d :: rs, H => by
    obtain ⟨s, hs, rfl⟩ := H d List.mem_cons_self
    obtain ⟨m, rfl, hm⟩ := strs_all (rs := rs) fun e he => H e (List.mem_cons_of_mem _ he)
    exact ⟨s :: m, rfl, fun t ht => by
      rcases List.mem_cons.mp ht with rfl | ht
      · exact hs
      · exact hm t ht⟩
theorem pairs_all {l : List Str} : ∀ {m : List Str} {rs : List D}, rs.length = m.length → (∀ (j : Nat) (d : D), rs[j]? = some d → ∃ s t, m[j]? = some s ∧ t ∈ l ∧ d = prT (s, t)) → ∃ ps : List (Str × Str), rs = ps.map prT ∧ ps.map (·.1) = m ∧ ∀ p ∈ ps, p.2 ∈ l
  | [], [], _, _ => ⟨[], rfl, rfl, fun p hp => by cases hp⟩
  | a :: m, d :: rs, e, H => by
    obtain ⟨s, t, h1, h2, rfl⟩ := H 0 d rfl
    cases h1
    obtain ⟨ps, rfl, h3, h4⟩ := pairs_all (m := m) (rs := rs) (by simpa using e) fun j d hd => H (j + 1) d hd
    exact ⟨(a, t) :: ps, rfl, by rw [List.map_cons, h3], fun p hp => by
      rcases List.mem_cons.mp hp with rfl | hp
      · exact h2
      · exact h4 p hp⟩
theorem call2_run {x : D} {b : Nat} {h h1 h2 h3 h4 : Hh} {n k o : Int} {ds S R : List D} (hx : IsSeq x ds) (hn : (ds.length : Int) = n) (e1 : m__law_pick [.ref b, .dat (.list [.int 1, .int 2, .int n, .int n])] h = some (.dat (.int k), h1)) (k0 : -1000000000 ≤ k) (k1 : k ≤ 1000000000)
    (e2 : lcL (gN 5) (bYes) (fA (m__law_pick) (fCons (fVar 0) (fCons (fVar 1) (fNil)))) [some (.ref b), some (.dat x), some (.dat (.int k)), none, none, none, none] (rngD 0 k.toNat) h1 = some (S, h2)) (l1 : S.length ≤ sizeLine) (e3 : m__law_take [.ref b, .dat (.int 4)] h2 = some (.dat (.int o), h3))
    (e4 : lcL (gN 6) (bYes) (fA tupW (fCons (fVar 6) (fCons (fIf (fB (f2 gt_W (fA (m__law_take) (fCons (fVar 0) (fCons (fVar 4) (fNil)))) (fC (.int 0)))) (fVar 6) (fA (m__law_pick) (fCons (fVar 0) (fCons (fVar 3) (fNil))))) (fNil)))) [some (.ref b), some (.dat x), some (.dat (.int k)), some (.dat (.list S)), some (.dat (.int (1 + o))), none, none] ds h3 = some (R, h4)) (l2 : R.length ≤ sizeLine) :
    m__law_call [.ref b, .dat x] h = leave false h (.dat (.tuple R)) h4 := by
  have c4 : 4 ≤ sizeLine := by decide
  unfold m__law_call
  rcases hx with rfl | rfl <;> walk_at "dl"
theorem call2_ok {x : D} {l : List Str} {h : Hh} {b c : Nat} (hx : IsSeq x (l.map .str)) (hb : BoxAt h b c) (hc : c < 1000000) (h0 : 0 < l.length) (h1 : l.length ≤ 900) :
    ∃ (ps : List (Str × Str)) (h' : Hh), m__law_call [.ref b, .dat x] h = some (.dat (cT ps), h') ∧ ps.map (·.1) = l ∧ (∀ p ∈ ps, p.2 ∈ l) ∧ BoxAt h' b (c + 4 + 3 * l.length) ∧ Only b h h' := by
  have hz : sizeLine = 16777216 := rfl
  obtain ⟨d, g1, e1, hd, b1, o1⟩ := pick_ok (x := .list [.int 1, .int 2, .int (l.length : Int), .int (l.length : Int)]) (.inl rfl) hb (by omega) (by simp) (by simp)
  obtain ⟨k, rfl, k0, k1⟩ : ∃ k : Int, d = .int k ∧ 1 ≤ k ∧ k ≤ (l.length : Int) + 1 := by
    simp only [List.mem_cons, List.not_mem_nil, or_false] at hd
    rcases hd with rfl | rfl | rfl | rfl
    · exact ⟨1, rfl, by omega, by omega⟩
    · exact ⟨2, rfl, by omega, by omega⟩
    · exact ⟨_, rfl, by omega, by omega⟩
    · exact ⟨_, rfl, by omega, by omega⟩
  obtain ⟨S', g2, e2, sl, hs, b2, o2⟩ := lcL_inv (k := gN 5) (f := fA (m__law_pick) (fCons (fVar 0) (fCons (fVar 1) (fNil)))) (ρ := [some (.ref b), some (.dat x), some (.dat (.int k)), none, none, none, none]) (fun j g => BoxAt g b (c + 1 + j) ∧ Only b h g) (fun _ d => ∃ s, s ∈ l ∧ d = .str s) (ds := rngD 0 k.toNat) (n := 0) (h := g1) ⟨b1, o1⟩ (by
    intro j d ej g hi
    obtain ⟨bx, on⟩ := hi
    have hj := (rng_get ej).1
    obtain ⟨d', g', e3, hd', b3, o3⟩ := pick_ok hx bx (by omega) (by rw [List.length_map]; omega) (by rw [List.length_map]; omega)
    obtain ⟨s, hs, rfl⟩ := List.mem_map.mp hd'
    refine ⟨[some (.ref b), some (.dat x), some (.dat (.int k)), none, none, some (.dat d), none], .str s, g', rfl, ?_, ⟨s, hs, rfl⟩, b3, on.trans o3⟩
    clear hx hb hc h0 h1 hz e1 hd b1 o1 k0 k1 ej bx on hj hd' hs b3 o3
    walk_at "dl")
  rw [rng_len] at sl b2
  obtain ⟨S, rfl, hS⟩ := strs_all (l := l) (rs := S') fun d hd => by
    obtain ⟨j, hj, rfl⟩ := List.getElem_of_mem hd
    exact hs j _ (List.getElem?_eq_getElem hj)
  rw [List.length_map] at sl
  obtain ⟨o, g3, e3, p0, p1, b3, o3⟩ := take_ok (n := 4) b2 (by omega) (by omega) (by omega)
  have b3' : BoxAt g3 b (c + 4 + l.length) := b3.mono (by omega)
  obtain ⟨R', g4, e4, rl, hr, b4, o4⟩ := lcL_inv (k := gN 6) (f := fA tupW (fCons (fVar 6) (fCons (fIf (fB (f2 gt_W (fA (m__law_take) (fCons (fVar 0) (fCons (fVar 4) (fNil)))) (fC (.int 0)))) (fVar 6) (fA (m__law_pick) (fCons (fVar 0) (fCons (fVar 3) (fNil))))) (fNil)))) (ρ := [some (.ref b), some (.dat x), some (.dat (.int k)), some (.dat (.list (S.map .str))), some (.dat (.int (1 + o))), none, none])
    (fun j g => BoxAt g b (c + 4 + l.length + 2 * j) ∧ Only b h g) (fun j d => ∃ s t, l[j]? = some s ∧ t ∈ l ∧ d = prT (s, t)) (ds := l.map .str) (n := 0) (h := g3) ⟨b3', o2.trans o3⟩ (by
    intro j d ej g hi
    obtain ⟨bx, on⟩ := hi
    rw [Nat.zero_add] at bx ⊢
    rw [List.getElem?_map] at ej
    obtain ⟨s, es, rfl⟩ := Option.map_eq_some_iff.mp ej
    have hj : j < l.length := (List.getElem?_eq_some_iff.mp es).1
    have c2 : 2 ≤ sizeLine := by omega
    obtain ⟨q, g5, e5, q0, q1, b5, o5⟩ := take_ok (n := 1 + o) bx (by omega) (by omega) (by omega)
    cases hq : decide (0 < q) with
    | true =>
      refine ⟨[some (.ref b), some (.dat x), some (.dat (.int k)), some (.dat (.list (S.map .str))), some (.dat (.int (1 + o))), none, some (.dat (.str s))], prT (s, s), g5, rfl, ?_, ⟨s, s, es, List.mem_of_getElem? es, rfl⟩, b5.mono (by omega), on.trans o5⟩
      clear hx hb hc h0 h1 hz e1 hd b1 o1 k0 k1 e2 hs b2 o2 hS sl e3 p0 p1 b3 o3 b3' bx on ej es hj q0 q1 b5 o5
      walk_at "dl"
    | false =>
      obtain ⟨d', g6, e6, hd', b6, o6⟩ := pick_ok (x := .list (S.map .str)) (.inl rfl) b5 (by omega) (by rw [List.length_map]; omega) (by rw [List.length_map]; omega)
      obtain ⟨t, ht, rfl⟩ := List.mem_map.mp hd'
      refine ⟨[some (.ref b), some (.dat x), some (.dat (.int k)), some (.dat (.list (S.map .str))), some (.dat (.int (1 + o))), none, some (.dat (.str s))], prT (s, t), g6, rfl, ?_, ⟨s, t, es, hS t ht, rfl⟩, b6.mono (by omega), on.trans (o5.trans o6)⟩
      clear hx hb hc h0 h1 hz e1 hd b1 o1 k0 k1 e2 hs b2 o2 hS sl e3 p0 p1 b3 o3 b3' bx on ej es hj q0 q1 b5 o5 hd' ht b6 o6
      walk_at "dl")
  rw [List.length_map] at rl b4
  obtain ⟨ps, rfl, pf, pt⟩ := pairs_all (l := l) (m := l) (rs := R') rl (fun j d hd => by have := hr j d hd; rwa [Nat.zero_add] at this)
  rw [Nat.zero_add] at b4
  have b4' : BoxAt g4 b (c + 4 + 3 * l.length) := b4.mono (by omega)
  refine ⟨ps, g4, ?_, pf, pt, b4', o4⟩
  rw [call2_run (n := (l.length : Int)) hx (by rw [List.length_map]) e1 (by omega) (by omega) e2 (by rw [List.length_map]; omega) e3 e4 (by omega)]
  exact leave_dat' hb b4' o4
end DL
set_option maxRecDepth 100000
set_option maxHeartbeats 400000
namespace DL
open PySem L2
local macro_rules | `(tactic| walk_at "dl") => `(tactic| simp (config := { dsimp := false }) only [↓fnM_e, ↓sSeq_e, seqK_nx, seqK_rt, seqK_bk, seqK_ct, retK_rt, retK_nx, ↓sFrz_e, frK_some, ↓sAsg, ↓sRet, ↓sRetN, ↓sIf, ↓sExpr, ↓sSkip, ↓sNever, ↓sPar, ↓sFor, ↓sSub, ↓fVar, ↓fC, ↓fNil, ↓fCons, ↓fA, ↓f1, ↓f2, ↓fB, ↓fIf, ↓fNeg, ↓fNot, ↓fAnd, ↓fOr, ↓bNot, ↓bAnd, ↓bOr, ↓bYes, ↓obnd_x, ob_some, ↓sbnd_x, sb_some, ↓ite_x, iteK_t, iteK_f, gN, gT, gC, gE, ↓rng1I, ↓rng2I, ↓seqI, ↓enumA, ↓zipI, ↓strI, ↓fLc, ↓fDc, ↓fM, ↓fSl, ↓oNone, ↓oSome, ↓fRev, wipeE, ↓kwM, permM, permL, List.foldr, List.length_cons, List.length_nil, List.map_cons, List.map_nil, List.cons_append, List.nil_append, List.replicate, List.replicate_succ, List.replicate_zero, List.getElem?_cons_zero, List.getElem?_cons_succ, List.set_cons_zero, List.set_cons_succ, if_true, if_false, reduceIte, Nat.reduceAdd, Nat.reduceSub, Nat.reduceEqDiff, Nat.reduceLT, Nat.reduceLeDiff, Int.reduceLT, Int.reduceLE, Int.reduceNeg, Int.reduceMul, Int.reduceAdd, Int.reduceSub, Int.reduceToNat, Int.reducePow, Int.reduceEq, ok, bok, deref, mkL, lstW, tupW, dats, Option.map_some, appendW, insertW, setL, isL, listW, tupleW, lenW, absW, intC, maxW, minW, idxW, addW, subW_e, modW_e, divW_e, powW_e, mulW, intW, lt_e, gt_e, le_e, ge_e, ltW, allW_e, anyW_e, sumW_e, lW, setW, lstAt, cutW, backW, isW, isiW, iLT_none, iLT_bool, iLT_int, iLT_str, iLT_list, iLT_tup, iL_none, iL_bool, iL_int, iL_str, iL_list, iL_tup, iT_none, iT_bool, iT_int, iT_str, iT_list, iT_tup, iS_none, iS_bool, iS_int, iS_str, iS_list, iS_tup, iI_none, iI_bool, iI_int, iI_str, iI_list, iI_tup, iB_none, iB_bool, iB_int, iB_str, iB_list, iB_tup, Bool.false_eq_true, reduceCtorEq, Bool.not_true, Bool.not_false, decide_true, decide_false, List.zip_cons_cons, List.zip_nil_left, List.foldl_cons, List.foldl_nil, and_self, and_true, true_and, Bool.and_true, Bool.true_and, Bool.or_true, Bool.true_or, *])
noncomputable def foldBody : SM := sSub (f2 (addW false) (f2 idxW (fVar 2) (f2 modW (fVar 3) (fVar 1))) (f2 (mulW false) (fVar 4) (f2 (addW false) (fVar 3) (fC (.int 2))))) (fVar 2) (f2 modW (fVar 3) (fVar 1))
theorem fold_run {g : Hh} {x : W} {p j : Nat} {k m v a : Int} {cs : List D} (m0 : decide (0 < m) = true) (hg : g[p]? = some (some (.lst cs))) (ha : L2.atI cs (k % m) = some (.int a)) (hj : ixN cs.length (k % m) = some j) (k0 : -18446744073709551616 < k + 2) (k1 : k + 2 < 18446744073709551616) :
    foldBody [some x, some (.dat (.int m)), some (.ref p), some (.dat (.int k)), some (.dat (.int v))] g = some (.nx [some x, some (.dat (.int m)), some (.ref p), some (.dat (.int k)), some (.dat (.int v))], g.set p (some (.lst (cs.set j (.int (a + v * (k + 2))))))) := by
  unfold foldBody
  walk_at "dl"
theorem ints_at {cs : List Int} {i : Nat} (h : i < cs.length) : L2.atI (cs.map PyData.int) (i : Int) = some (.int cs[i]) :=
  atI_nat (xs := cs.map PyData.int) (j := i) (by rw [List.getElem?_map, List.getElem?_eq_getElem h]; rfl)
theorem ixN_nat {n i : Nat} (h : i < n) : ixN n (i : Int) = some i := by
  unfold ixN
  rw [if_pos (by omega), if_pos (by omega)]
  simp
theorem enum_int {ms : List Int} {j : Nat} {d : D} (e : (enumD 0 (ms.map .int))[j]? = some d) : ∃ v : Int, j < ms.length ∧ d = .tuple [.int (j : Int), .int v] := by
  obtain ⟨s, hs, rfl⟩ := enumD_get e
  rw [List.getElem?_map] at hs
  obtain ⟨v, hv, rfl⟩ := Option.map_eq_some_iff.mp hs
  exact ⟨v, (List.getElem?_eq_some_iff.mp hv).1, by rw [Nat.zero_add]⟩
theorem shp_ints (cs : List Int) : shp (.list (cs.map .int)) = true := by
  have h1 : ∀ cs : List Int, PyData.canLayAll0 (cs.map .int) = true := fun cs => by
    induction cs with
    | nil => rfl
    | cons a t ih => rw [List.map_cons, PyData.canLayAll0, ih]; simp [PyData.canLay0]
  have h2 : ∀ cs : List Int, PyData.depthAll (cs.map .int) = 0 := fun cs => by
    induction cs with
    | nil => rfl
    | cons a t ih => rw [List.map_cons, PyData.depthAll, ih]; simp [PyData.depth]
  unfold shp
  rw [PyData.canLay0, h1, PyData.depth, h2]
  rfl
theorem eqW_ints_nil {cs : List Int} {h : Hh} : eqW true (.dat (.list (cs.map .int))) (.dat (.list [])) h = some (.dat (.bool (decide (cs ≠ []))), h) := by
  have hs := shp_ints cs
  have h0 : shp (.list []) = true := by decide +kernel
  have e : PyData.eqv (.list (cs.map .int)) (.list []) = decide (cs = []) := by
    cases cs with
    | nil => decide +kernel
    | cons a l => simp [PyData.eqv, PyData.eqvAll]
  unfold eqW
  simp only [deref, eqS, hs, h0, e, Bool.and_self, if_true]
  show bok (!decide (cs = [])) h = _
  rw [← decide_not]; rfl
theorem fold_end {ns : List Int} {h : Hh} {cs : List Int} {m : Int} {z : Bool} {A B : List Int} {v3 v4 : Option W} (i3 : ∀ n, isR n v3 = false) (i4 : ∀ n, isR n v4 = false) (eA : cutG ns none (some m) = A) (eB : cutG ns (some m) (some 63) = B)
    (e1 : forL (gT 2 (gC (gN 3) (gC (gN 4) (gE)))) foldBody (enumD 0 (B.map .int)) [some (.scr ns), some (.dat (.int m)), some (.ref h.length), none, none] (h ++ [some (.lst (A.map .int))]) = some (.nx [some (.scr ns), some (.dat (.int m)), some (.ref h.length), v3, v4], h ++ [some (.lst (cs.map .int))])) (ez : decide (cs ≠ []) = z) :
    m__law_folded [.scr ns, .dat (.int m)] h = some (.dat (.list (if z = true then cs.map .int else [.int 0])), h) := by
  have e2 := eqW_ints_nil (cs := cs) (h := h ++ [none])
  rw [ez] at e2
  have c0 : 0 ≤ sizeLine := Nat.zero_le _
  have c1 : 1 ≤ sizeLine := by decide
  have hf : frz 2 [some (.scr ns), some (.dat (.int m)), some (.ref h.length), v3, v4] (h ++ [some (.lst (cs.map .int))]) = some ([some (.scr ns), some (.dat (.int m)), some (.dat (.list (cs.map .int))), v3, v4], h ++ [none]) := by
    have g1 : (h ++ [some (MO.lst (cs.map .int))])[h.length]? = some (some (.lst (cs.map .int))) := app_get rfl
    have g2 : (h ++ [some (MO.lst (cs.map .int))]).set h.length none = h ++ [none] := app_set rfl
    unfold frz
    simp only [List.getElem?_cons_zero, List.getElem?_cons_succ, g1, g2, List.set_cons_zero, List.set_cons_succ, List.any_cons, List.any_nil, i3, i4, isR_ref, isR_dat, isR_scr, isR_none, Bool.or_false, Bool.false_or, isTab, Bool.false_eq_true, if_false, moD]
  have lv := fun d : D => show leave false h (.dat d) (h ++ [none]) = some (.dat d, h) by
    have e : (h ++ [none]).take h.length = h := app_take rfl
    rw [leave_dat (by rw [e]), e]
  unfold foldBody at e1
  unfold m__law_folded
  clear i3 i4 ez
  cases z with
  | true => walk_at "dl"
  | false => walk_at "dl"
theorem folded_ok {ns : List Int} {h : Hh} (hn : ns.length ≤ 63) : ∃ cs : List Int, m__law_folded [.scr ns, .dat (.int 3)] h = some (.dat (.list (cs.map .int)), h) ∧ 0 < cs.length ∧ cs.length ≤ 3 := by
  have eA : cutG ns none (some (3 : Int)) = ns.take 3 := cut_to ns (k := 3)
  have eB : cutG ns (some (3 : Int)) (some 63) = ns.drop 3 := by
    have e : HT.sIx ns.length 0 (some (3 : Int)) = min 3 ns.length := HT.sIx_nat ns.length 0 3
    have e0 : HT.sIx ns.length ns.length (some (63 : Int)) = min 63 ns.length := HT.sIx_nat ns.length ns.length 63
    unfold cutG
    rw [e, e0, Nat.min_eq_right hn]
    rcases Nat.le_total 3 ns.length with q | q
    · rw [Nat.min_eq_left q]
      exact List.take_of_length_le (by rw [List.length_drop]; omega)
    · rw [Nat.min_eq_right q, List.drop_eq_nil_of_le q]
      simp
  obtain ⟨ρ', g, e1, v3, v4, cs, rfl, i3, i4, rfl, hl⟩ := forL_end (k := gT 2 (gC (gN 3) (gC (gN 4) (gE)))) (body := foldBody) (fun _ ρ g => ∃ (v3 v4 : Option W) (cs : List Int), ρ = [some (.scr ns), some (.dat (.int 3)), some (.ref h.length), v3, v4] ∧ (∀ n, isR n v3 = false) ∧ (∀ n, isR n v4 = false) ∧ g = h ++ [some (.lst (cs.map .int))] ∧ cs.length = (ns.take 3).length)
    (ds := enumD 0 ((ns.drop 3).map .int)) (ρ := [some (.scr ns), some (.dat (.int 3)), some (.ref h.length), none, none]) (h := h ++ [some (.lst ((ns.take 3).map .int))]) ⟨none, none, ns.take 3, rfl, fun _ => rfl, fun _ => rfl, rfl, rfl⟩ (by
      intro j d ej ρ g hi
      obtain ⟨v3, v4, cs, rfl, i3, i4, rfl, hl⟩ := hi
      obtain ⟨v, hj, rfl⟩ := enum_int ej
      rw [List.length_drop] at hj
      have h3 : cs.length = 3 := by rw [hl, List.length_take]; omega
      have hk : j % 3 < cs.length := by omega
      have ek : (j : Int) % 3 = ((j % 3 : Nat) : Int) := by omega
      have et := fold_run (x := .scr ns) (p := h.length) (j := j % 3) (k := (j : Int)) (m := 3) (v := v) (a := cs[j % 3]) (cs := cs.map .int) (g := h ++ [some (.lst (cs.map .int))]) rfl (app_get rfl) (by rw [ek]; exact ints_at hk) (by rw [List.length_map, ek]; exact ixN_nat hk) (by omega) (by omega)
      rw [app_set rfl] at et
      refine ⟨_, _, _, ?_, et, some (.dat (.int (j : Int))), some (.dat (.int v)), cs.set (j % 3) (cs[j % 3] + v * ((j : Int) + 2)), rfl, fun _ => rfl, fun _ => rfl, ?_, by rw [List.length_set]; exact hl⟩
      · clear et hj h3 hk ek hl ej eA eB hn i3 i4
        walk_at "dl"
      · rw [List.map_set])
  by_cases z : cs = []
  · refine ⟨[0], ?_, by simp, by simp⟩
    rw [fold_end (z := false) i3 i4 eA eB e1 (by simp [z])]
    rfl
  · refine ⟨cs, ?_, List.length_pos_iff.mpr z, by rw [hl, List.length_take]; omega⟩
    rw [fold_end (z := true) i3 i4 eA eB e1 (by simp [z])]
    rfl
theorem boxL_run {cs : List Int} {k cell a n : Int} {z : Bool} {h : Hh} (hn : ((cs.map PyData.int).length : Int) = n) (h1 : decide (k < n) = true) (h2 : L2.atI (cs.map PyData.int) k = some (.int cell)) (ha : (if cell < 0 then -cell else cell) = a) (hz : decide (1000000000000000000 ≤ a) = z) :
    m__law_box [.dat (.list (cs.map .int)), .dat (.int k)] h = some (.ref h.length, h ++ [some (.lst [.int (a * (if z = true then 1 else 0)), .int (cell % 2147483629 + 7919 * k + 11), .int 0])]) := by
  have c7 : 3 ≤ sizeLine := by decide
  have hna : Int.natAbs 10 < 18446744073709551616 := by decide
  have lv := leave_ref (h := h) (ds := [.int (a * (if z = true then 1 else 0)), .int (cell % 2147483629 + 7919 * k + 11), .int 0])
  unfold m__law_box
  cases z with
  | true => walk_at "dl"; exact leave_ref
  | false => walk_at "dl"; exact leave_ref
theorem boxL_new {cs : List Int} {k : Nat} {h : Hh} (hk : k < cs.length) (hk2 : k < 100) :
    ∃ d s : Int, m__law_box [.dat (.list (cs.map .int)), .dat (.int (k : Int))] h = some (.ref h.length, h ++ [some (.lst [.int d, .int s, .int 0])]) ∧ 0 ≤ d ∧ 0 ≤ s ∧ s < 1099511627776 := by
  refine ⟨_, _, boxL_run (n := (cs.length : Int)) (by rw [List.length_map]) (by simp; omega) (ints_at hk) rfl rfl, ?_, by omega, by omega⟩
  split <;> split <;> omega
noncomputable def lawTurn (T : Int) (right : FM) : SM := (sSeq (sAsg (fA (m__law_box) (fCons (fVar 1) (fCons (fVar 2) (fNil)))) (gN 3))
    (sIf (bNot (fB (fA allW (fCons (fLc false (rng1I (fCons (fC (.int T)) (fNil))) (gN 4) (bYes) (fA right (fCons (fVar 3) (fNil))) [4]) (fNil))))) (sRet (fC (.bool false))) (sSkip)))
noncomputable def lawF (T : Int) (right : FM) : FM := fnM false 1 5 (sSeq (sAsg (fA (m__law_folded) (fCons (fVar 0) (fCons (fC (.int 3)) (fNil)))) (gN 1))
    (sSeq (sFor (rng1I (fCons (fA lenW (fCons (fVar 1) (fNil))) (fNil))) (gN 2)
    (sSeq (sAsg (fA (m__law_box) (fCons (fVar 1) (fCons (fVar 2) (fNil)))) (gN 3))
    (sIf (bNot (fB (fA allW (fCons (fLc false (rng1I (fCons (fC (.int T)) (fNil))) (gN 4) (bYes) (fA right (fCons (fVar 3) (fNil))) [4]) (fNil))))) (sRet (fC (.bool false))) (sSkip))))
    (sRet (fC (.bool true)))))
theorem lawF_turn {T : Int} {t : Nat} {h0 : Hh} (hT : T.toNat = t) (T0 : -1000000000 ≤ T) (T1 : T ≤ 1000000000) (T2 : t ≤ sizeLine) {right : FM} {cost : Nat} (hr : ∀ (h : Hh) (b c : Nat), Pre h0 h → h0.length ≤ b → BoxAt h b c → c ≤ t * cost → ∃ h', right [.ref b] h = some (.dat (.bool true), h') ∧ BoxAt h' b (c + cost) ∧ Only b h h') {ns cs : List Int} {k : Nat} (k0 : k < cs.length) (k1 : k < 100) (v3 v4 : Option W) (h : Hh) (hp : Pre h0 h) (hl0 : h0.length ≤ h.length) :
    ∃ w3 h', lawTurn T right [some (.scr ns), some (.dat (.list (cs.map .int))), some (.dat (.int (k : Int))), v3, v4] h = some (.nx [some (.scr ns), some (.dat (.list (cs.map .int))), some (.dat (.int (k : Int))), w3, v4], h') ∧ Pre h0 h' ∧ h0.length ≤ h'.length := by
  obtain ⟨d, s, e, hd, hs, hs2⟩ := boxL_new (h := h) k0 k1
  have hb : BoxAt (h ++ [some (.lst [.int d, .int s, .int 0])]) h.length 0 := ⟨d, s, 0, by simp, hd, hs, hs2, by omega, by omega⟩
  obtain ⟨rs, h', e2, hl, hall, _, hp', hl1⟩ := lcL_inv (k := gN 4) (f := fA right (fCons (fVar 3) (fNil))) (ρ := [some (.scr ns), some (.dat (.list (cs.map .int))), some (.dat (.int (k : Int))), some (.ref h.length), none])
    (fun n g => BoxAt g h.length (n * cost) ∧ Pre h0 g ∧ h0.length ≤ g.length) (fun _ d => d = .bool true) (ds := rngD 0 T.toNat) (n := 0) (h := h ++ [some (.lst [.int d, .int s, .int 0])]) (by rw [Nat.zero_mul]; exact ⟨hb, hp.app hl0, by simp; omega⟩) (by
      intro j d' ej g hi
      obtain ⟨hi, hp1, hl1⟩ := hi
      rw [Nat.zero_add] at hi ⊢
      have hj := (rng_get ej).1
      obtain ⟨g', e3, b3, o3⟩ := hr g h.length _ hp1 hl0 hi (Nat.mul_le_mul_right _ (by omega))
      refine ⟨[some (.scr ns), some (.dat (.list (cs.map .int))), some (.dat (.int (k : Int))), some (.ref h.length), some (.dat d')], .bool true, g', rfl, ?_, rfl, by rw [Nat.succ_mul]; exact b3, hp1.only hl0 o3, by rw [o3.len]; exact hl1⟩
      clear hp hp1 hl0 hl1 k0 k1 e
      walk_at "dl")
  have er : rs = List.replicate rs.length (.bool true) := bools_all fun r hr => by
    obtain ⟨j, hj, rfl⟩ := List.getElem_of_mem hr
    exact hall j _ (List.getElem?_eq_getElem hj)
  have hl' : rs.length = t := by rw [hl, rng_len, hT]
  rw [hl'] at er
  subst er
  have e4 := bools_true t
  have e5 := all_true t
  have e6 : (List.replicate t (PyData.bool true)).length ≤ sizeLine := by rw [List.length_replicate]; exact T2
  refine ⟨some (.ref h.length), h', ?_, hp', hl1⟩
  unfold lawTurn
  clear hall hl hl' hb hr hp hp' hl0 hl1 k0 k1
  rw [hT] at e2
  walk_at "dl"
theorem law_okF {T : Int} {t : Nat} {h0 : Hh} (hT : T.toNat = t) (T0 : -1000000000 ≤ T) (T1 : T ≤ 1000000000) (T2 : t ≤ sizeLine) {right : FM} {cost : Nat} (hr : ∀ (h : Hh) (b c : Nat), Pre h0 h → h0.length ≤ b → BoxAt h b c → c ≤ t * cost → ∃ h', right [.ref b] h = some (.dat (.bool true), h') ∧ BoxAt h' b (c + cost) ∧ Only b h h') (ns : List Int) (hn : ns.length ≤ 63) :
    ∃ h', lawF T right [.scr ns] h0 = some (.dat (.bool true), h') := by
  obtain ⟨cs, ec, c0, c3⟩ := folded_ok (h := h0) hn
  obtain ⟨ρ', h', e, w2, w3, w4, rfl, hp, hl⟩ := forL_end (k := gN 2) (body := lawTurn T right) (fun _ ρ g => ∃ w2 w3 w4 : Option W, ρ = [some (.scr ns), some (.dat (.list (cs.map .int))), w2, w3, w4] ∧ Pre h0 g ∧ h0.length ≤ g.length) (ds := rngD 0 cs.length) (ρ := [some (.scr ns), some (.dat (.list (cs.map .int))), none, none, none]) (h := h0) ⟨none, none, none, rfl, fun _ _ => rfl, Nat.le_refl _⟩ (by
      intro j d ej ρ h hi
      obtain ⟨w2, w3, w4, rfl, hp, hl⟩ := hi
      obtain ⟨hj, rfl⟩ := rng_get ej
      obtain ⟨w3', h', e, hp', hl'⟩ := lawF_turn hT T0 T1 T2 hr (ns := ns) (cs := cs) (k := j) hj (by omega) w3 w4 h hp hl
      exact ⟨_, _, h', rfl, e, _, _, _, rfl, hp', hl'⟩)
  refine ⟨h0, ?_⟩
  obtain ⟨n, hn'⟩ : ∃ n : Int, ((cs.map PyData.int).length : Int) = n := ⟨_, rfl⟩
  have b0 : -1000000000 ≤ n := by omega
  have b1 : n ≤ 1000000000 := by rw [← hn', List.length_map]; omega
  have b2 : n.toNat = cs.length := by rw [← hn', List.length_map]; simp
  have lv : leave false h0 (.dat (.bool true)) h' = some (.dat (.bool true), h0) := by
    have e := hp.take hl
    rw [leave_dat (by rw [e]), e]
  unfold lawTurn at e
  unfold lawF
  clear hr T0 T1 T2 hp hl c0 c3
  walk_at "dl"
end DL
set_option maxRecDepth 100000
set_option maxHeartbeats 400000
namespace DL
open PySem L2
local macro_rules | `(tactic| walk_at "dl") => `(tactic| simp (config := { dsimp := false }) only [↓fnM_e, ↓sSeq_e, seqK_nx, seqK_rt, seqK_bk, seqK_ct, retK_rt, retK_nx, ↓sFrz_e, frK_some, ↓sAsg, ↓sRet, ↓sRetN, ↓sIf, ↓sExpr, ↓sSkip, ↓sNever, ↓sPar, ↓sFor, ↓sSub, ↓fVar, ↓fC, ↓fNil, ↓fCons, ↓fA, ↓f1, ↓f2, ↓fB, ↓fIf, ↓fNeg, ↓fNot, ↓fAnd, ↓fOr, ↓bNot, ↓bAnd, ↓bOr, ↓bYes, ↓obnd_x, ob_some, ↓sbnd_x, sb_some, ↓ite_x, iteK_t, iteK_f, gN, gT, gC, gE, ↓rng1I, ↓rng2I, ↓seqI, ↓enumA, ↓zipI, ↓strI, ↓fLc, ↓fDc, ↓fM, ↓fSl, ↓oNone, ↓oSome, ↓fRev, wipeE, ↓kwM, permM, permL, List.foldr, List.length_cons, List.length_nil, List.map_cons, List.map_nil, List.cons_append, List.nil_append, List.replicate, List.replicate_succ, List.replicate_zero, List.getElem?_cons_zero, List.getElem?_cons_succ, List.set_cons_zero, List.set_cons_succ, if_true, if_false, reduceIte, Nat.reduceAdd, Nat.reduceSub, Nat.reduceEqDiff, Nat.reduceLT, Nat.reduceLeDiff, Int.reduceLT, Int.reduceLE, Int.reduceNeg, Int.reduceMul, Int.reduceAdd, Int.reduceSub, Int.reduceToNat, Int.reducePow, Int.reduceEq, ok, bok, deref, mkL, lstW, tupW, dats, Option.map_some, appendW, insertW, setL, isL, listW, tupleW, lenW, absW, intC, maxW, minW, idxW, addW, subW_e, modW_e, divW_e, powW_e, mulW, intW, lt_e, gt_e, le_e, ge_e, ltW, allW_e, anyW_e, sumW_e, lW, setW, lstAt, cutW, backW, isW, isiW, iLT_none, iLT_bool, iLT_int, iLT_str, iLT_list, iLT_tup, iL_none, iL_bool, iL_int, iL_str, iL_list, iL_tup, iT_none, iT_bool, iT_int, iT_str, iT_list, iT_tup, iS_none, iS_bool, iS_int, iS_str, iS_list, iS_tup, iI_none, iI_bool, iI_int, iI_str, iI_list, iI_tup, iB_none, iB_bool, iB_int, iB_str, iB_list, iB_tup, Bool.false_eq_true, reduceCtorEq, Bool.not_true, Bool.not_false, decide_true, decide_false, List.zip_cons_cons, List.zip_nil_left, List.foldl_cons, List.foldl_nil, and_self, and_true, true_and, Bool.and_true, Bool.true_and, Bool.or_true, Bool.true_or, *])
end DL
set_option maxRecDepth 100000
set_option maxHeartbeats 400000
namespace DL
open PySem L2
end DL
set_option maxRecDepth 100000
set_option maxHeartbeats 400000
namespace DL
open PySem L2
end DL
set_option maxRecDepth 100000
set_option maxHeartbeats 400000
namespace DL
open PySem L2
end DL
set_option maxRecDepth 100000
set_option maxHeartbeats 400000
namespace DL
open PySem L2
local macro_rules | `(tactic| walk_at "dl") => `(tactic| simp (config := { dsimp := false }) only [↓fnM_e, ↓sSeq_e, seqK_nx, seqK_rt, seqK_bk, seqK_ct, retK_rt, retK_nx, ↓sFrz_e, frK_some, ↓sAsg, ↓sRet, ↓sRetN, ↓sIf, ↓sExpr, ↓sSkip, ↓sNever, ↓sPar, ↓sFor, ↓sSub, ↓fVar, ↓fC, ↓fNil, ↓fCons, ↓fA, ↓f1, ↓f2, ↓fB, ↓fIf, ↓fNeg, ↓fNot, ↓fAnd, ↓fOr, ↓bNot, ↓bAnd, ↓bOr, ↓bYes, ↓obnd_x, ob_some, ↓sbnd_x, sb_some, ↓ite_x, iteK_t, iteK_f, gN, gT, gC, gE, ↓rng1I, ↓rng2I, ↓seqI, ↓enumA, ↓zipI, ↓strI, ↓fLc, ↓fDc, ↓fM, ↓fSl, ↓oNone, ↓oSome, ↓fRev, wipeE, ↓kwM, permM, permL, List.foldr, List.length_cons, List.length_nil, List.map_cons, List.map_nil, List.cons_append, List.nil_append, List.replicate, List.replicate_succ, List.replicate_zero, List.getElem?_cons_zero, List.getElem?_cons_succ, List.set_cons_zero, List.set_cons_succ, if_true, if_false, reduceIte, Nat.reduceAdd, Nat.reduceSub, Nat.reduceEqDiff, Nat.reduceLT, Nat.reduceLeDiff, Int.reduceLT, Int.reduceLE, Int.reduceNeg, Int.reduceMul, Int.reduceAdd, Int.reduceSub, Int.reduceToNat, Int.reducePow, Int.reduceEq, ok, bok, deref, mkL, lstW, tupW, dats, Option.map_some, appendW, insertW, setL, isL, listW, tupleW, lenW, absW, intC, maxW, minW, idxW, addW, subW_e, modW_e, divW_e, powW_e, mulW, intW, lt_e, gt_e, le_e, ge_e, ltW, allW_e, anyW_e, sumW_e, lW, setW, lstAt, cutW, backW, isW, isiW, iLT_none, iLT_bool, iLT_int, iLT_str, iLT_list, iLT_tup, iL_none, iL_bool, iL_int, iL_str, iL_list, iL_tup, iT_none, iT_bool, iT_int, iT_str, iT_list, iT_tup, iS_none, iS_bool, iS_int, iS_str, iS_list, iS_tup, iI_none, iI_bool, iI_int, iI_str, iI_list, iI_tup, iB_none, iB_bool, iB_int, iB_str, iB_list, iB_tup, Bool.false_eq_true, reduceCtorEq, Bool.not_true, Bool.not_false, decide_true, decide_false, List.zip_cons_cons, List.zip_nil_left, List.foldl_cons, List.foldl_nil, and_self, and_true, true_and, Bool.and_true, Bool.true_and, Bool.or_true, Bool.true_or, *])
end DL
set_option maxRecDepth 100000
set_option maxHeartbeats 400000
namespace DL
open PySem L2
theorem words_all {l : List Str} : ∀ {cs : List D}, (∀ d ∈ cs, ∃ ps, d = cT ps ∧ CallOf l ps) → ∃ ws : List (List (Str × Str)), cs = ws.map cT ∧ Words l ws
  | [], _ => ⟨[], rfl, fun ps hp => by cases hp⟩
  | d :: cs, H => by
    obtain ⟨ps, rfl, hp⟩ := H d List.mem_cons_self
    obtain ⟨ws, rfl, hw⟩ := words_all fun e he => H e (List.mem_cons_of_mem _ he)
    exact ⟨ps :: ws, rfl, fun q hq => by
      rcases List.mem_cons.mp hq with rfl | hq
      · exact hp
      · exact hw q hq⟩
theorem lcL_list {α : Type} {k : TM} {f : EM} {ρ : Env} {h : Hh} (em : α → D) (g : α → D) : ∀ {xs : List α}, (∀ x ∈ xs, ∃ ρ1, k (.dat (em x)) ρ h = some ρ1 ∧ f ρ1 h = some (.dat (g x), h)) → lcL k bYes f ρ (xs.map em) h = some (xs.map g, h)
  | [], _ => rfl
  | x :: xs, H => by
    obtain ⟨ρ1, e1, e2⟩ := H x List.mem_cons_self
    rw [List.map_cons, List.map_cons, lcL]
    simp only [e1, bYes, obnd, if_true, e2]
    rw [lcL_list em g fun y hy => H y (List.mem_cons_of_mem _ hy)]
end DL
set_option maxRecDepth 100000
set_option maxHeartbeats 400000
namespace DL
open PySem L2
local macro_rules | `(tactic| walk_at "dl") => `(tactic| simp (config := { dsimp := false }) only [↓fnM_e, ↓sSeq_e, seqK_nx, seqK_rt, seqK_bk, seqK_ct, retK_rt, retK_nx, ↓sFrz_e, frK_some, ↓sAsg, ↓sRet, ↓sRetN, ↓sIf, ↓sExpr, ↓sSkip, ↓sNever, ↓sPar, ↓sFor, ↓sSub, ↓fVar, ↓fC, ↓fNil, ↓fCons, ↓fA, ↓f1, ↓f2, ↓fB, ↓fIf, ↓fNeg, ↓fNot, ↓fAnd, ↓fOr, ↓bNot, ↓bAnd, ↓bOr, ↓bYes, ↓obnd_x, ob_some, ↓sbnd_x, sb_some, ↓ite_x, iteK_t, iteK_f, gN, gT, gC, gE, ↓rng1I, ↓rng2I, ↓seqI, ↓enumA, ↓zipI, ↓strI, ↓fLc, ↓fDc, ↓fM, ↓fSl, ↓oNone, ↓oSome, ↓fRev, wipeE, ↓kwM, permM, permL, List.foldr, List.length_cons, List.length_nil, List.map_cons, List.map_nil, List.cons_append, List.nil_append, List.replicate, List.replicate_succ, List.replicate_zero, List.getElem?_cons_zero, List.getElem?_cons_succ, List.set_cons_zero, List.set_cons_succ, if_true, if_false, reduceIte, Nat.reduceAdd, Nat.reduceSub, Nat.reduceEqDiff, Nat.reduceLT, Nat.reduceLeDiff, Int.reduceLT, Int.reduceLE, Int.reduceNeg, Int.reduceMul, Int.reduceAdd, Int.reduceSub, Int.reduceToNat, Int.reducePow, Int.reduceEq, ok, bok, deref, mkL, lstW, tupW, dats, Option.map_some, appendW, insertW, setL, isL, listW, tupleW, lenW, absW, intC, maxW, minW, idxW, addW, subW_e, modW_e, divW_e, powW_e, mulW, intW, lt_e, gt_e, le_e, ge_e, ltW, allW_e, anyW_e, sumW_e, lW, setW, lstAt, cutW, backW, isW, isiW, iLT_none, iLT_bool, iLT_int, iLT_str, iLT_list, iLT_tup, iL_none, iL_bool, iL_int, iL_str, iL_list, iL_tup, iT_none, iT_bool, iT_int, iT_str, iT_list, iT_tup, iS_none, iS_bool, iS_int, iS_str, iS_list, iS_tup, iI_none, iI_bool, iI_int, iI_str, iI_list, iI_tup, iB_none, iB_bool, iB_int, iB_str, iB_list, iB_tup, Bool.false_eq_true, reduceCtorEq, Bool.not_true, Bool.not_false, decide_true, decide_false, List.zip_cons_cons, List.zip_nil_left, List.foldl_cons, List.foldl_nil, and_self, and_true, true_and, Bool.and_true, Bool.true_and, Bool.or_true, Bool.true_or, *])
def OkA (h : Hh) : Prop := h.all okM = true
theorem OkA.nil : OkA [] := rfl
theorem OkA.app {h : Hh} {o : Option MO} (x : OkA h) (y : okM o = true) : OkA (h ++ [o]) := by
  unfold OkA at *
  rw [List.all_append, x]
  simp [y]
theorem okM_ints (a b c : Int) : okM (some (.lst [.int a, .int b, .int c])) = true := by simp [okM, noLs, noL]
theorem OkA.only {h h' : Hh} {b c : Nat} (x : OkA h) (o : Only b h h') (bx : BoxAt h' b c) : OkA h' := by
  unfold OkA at *
  rw [List.all_eq_true] at *
  intro z hz
  obtain ⟨i, hi, e⟩ := List.getElem_of_mem hz
  have e' : h'[i]? = some z := by rw [List.getElem?_eq_getElem hi, e]
  by_cases hb : i = b
  · subst hb
    obtain ⟨d, s, k, q, _⟩ := bx
    rw [q] at e'
    cases e'
    exact okM_ints _ _ _
  · rw [o.off i hb] at e'
    exact x z (List.mem_of_getElem? e')
theorem OkA.take {h : Hh} (n : Nat) (x : OkA h) : OkA (h.take n) := by
  unfold OkA at *
  rw [List.all_eq_true] at *
  exact fun z hz => x z (List.mem_of_mem_take hz)
theorem depth_words : ∀ ws : List (List (Str × Str)), PyData.depthAll (ws.map cT) ≤ 2
  | [] => Nat.zero_le _
  | ps :: ws => by
    rw [List.map_cons, PyData.depthAll]
    have := depth_words ws
    have := depth_call ps
    exact Nat.max_le.mpr ⟨by assumption, by assumption⟩
theorem plain_words {ws : List (List (Str × Str))} (ht : ∀ ps ∈ ws, ps.length ≤ 1000) (hl : ws.length ≤ 1000) : plainD (.list (ws.map cT)) = true := by
  rw [plainD, Bool.and_eq_true, decide_eq_true_eq, List.length_map]
  refine ⟨?_, Nat.le_trans hl (by decide)⟩
  induction ws with
  | nil => rfl
  | cons ps ws ih =>
    rw [List.map_cons, plainDs, ih (fun q hq => ht q (List.mem_cons_of_mem _ hq)) (by simp at hl; omega)]
    show (plainD (.tuple (ps.map prT)) && true) = true
    rw [plain_call (ht ps List.mem_cons_self)]; rfl
end DL
set_option maxRecDepth 100000
set_option maxHeartbeats 400000
namespace DL
open PySem L2
def Srt (r : List Str) (key : Str → Nat) (m : List Str) : Prop := m.Perm r ∧ m.Pairwise fun a b => key a < key b ∨ (key a = key b ∧ r.idxOf a < r.idxOf b)
theorem Srt.eq {r m m' : List Str} {key : Str → Nat} (h : Srt r key m) (h' : Srt r key m') : m = m' := by
  refine List.Perm.eq_of_pairwise (fun a b ha hb h1 h2 => ?_) h.2 h'.2 (h.1.trans h'.1.symm)
  omega
theorem Srt.congr {r m : List Str} {key key' : Str → Nat} (h : Srt r key m) (e : ∀ s ∈ r, key s = key' s) : Srt r key' m := by
  refine ⟨h.1, List.Pairwise.imp_of_mem ?_ h.2⟩
  intro a b ha hb q
  rw [← e a (h.1.mem_iff.mp ha), ← e b (h.1.mem_iff.mp hb)]
  exact q
theorem pw_idxS {r : List Str} (nd : r.Nodup) : r.Pairwise fun a b => r.idxOf a < r.idxOf b := by
  rw [List.pairwise_iff_getElem]
  intro i j hi hj hij
  rw [idx_of nd hi, idx_of nd hj]
  exact hij
theorem Srt.start {r : List Str} (nd : r.Nodup) : Srt r (fun _ => 0) r := ⟨.refl _, (pw_idxS nd).imp fun h => .inr ⟨rfl, h⟩⟩
theorem Srt.idx {r m : List Str} {key : Str → Nat} (h : Srt r key m) {a b : Str} (ha : a ∈ m) (hb : b ∈ m) : m.idxOf a < m.idxOf b ↔ (key a < key b ∨ (key a = key b ∧ r.idxOf a < r.idxOf b)) := by
  have la := List.idxOf_lt_length_of_mem ha
  have lb := List.idxOf_lt_length_of_mem hb
  have ea := List.getElem_idxOf la
  have eb := List.getElem_idxOf lb
  have pw := List.pairwise_iff_getElem.mp h.2
  constructor
  · intro q
    have := pw _ _ la lb q
    rwa [ea, eb] at this
  · intro q
    rcases Nat.lt_trichotomy (m.idxOf a) (m.idxOf b) with z | z | z
    · exact z
    · have e := idx_inj ha hb z
      subst e
      omega
    · have := pw _ _ lb la z
      rw [ea, eb] at this
      omega
theorem Srt.step {r m : List Str} {num : Str → Nat} {f k : Nat} {ps : List (Str × Str)} (nd : r.Nodup) (h : Srt r (fun s => num s % f ^ k) m) (hg : ∀ s ∈ r, m.idxOf (goal ps s) = num s / f ^ k % f) (f0 : 0 < f) : Srt r (fun s => num s % f ^ (k + 1)) (led m ps) := by
  have nm : m.Nodup := h.1.nodup_iff.mpr nd
  have nl : (led m ps).Nodup := led_nodup nm ps
  refine ⟨(led_perm m ps).trans h.1, List.Pairwise.imp_of_mem ?_ (List.Pairwise.and (led_pw m ps) nl)⟩
  intro a b ha hb q
  obtain ⟨hab, ne⟩ := q
  have ha' := (led_perm m ps).mem_iff.mp ha
  have hb' := (led_perm m ps).mem_iff.mp hb
  have ix := h.idx ha' hb'
  unfold leK keyN at hab
  simp only [decide_eq_true_eq] at hab
  rw [hg a (h.1.mem_iff.mp ha'), hg b (h.1.mem_iff.mp hb')] at hab
  have ea : num a % f ^ (k + 1) = num a % f ^ k + f ^ k * (num a / f ^ k % f) := Nat.mod_pow_succ
  have eb : num b % f ^ (k + 1) = num b % f ^ k + f ^ k * (num b / f ^ k % f) := Nat.mod_pow_succ
  have pf : 0 < f ^ k := Nat.pow_pos f0
  have ma : num a % f ^ k < f ^ k := Nat.mod_lt _ pf
  show num a % f ^ (k + 1) < num b % f ^ (k + 1) ∨ (num a % f ^ (k + 1) = num b % f ^ (k + 1) ∧ r.idxOf a < r.idxOf b)
  rw [ea, eb]
  clear ea eb
  generalize num a % f ^ k = A at *
  generalize num b % f ^ k = B at *
  generalize num a / f ^ k % f = da at *
  generalize num b / f ^ k % f = db at *
  rcases hab with q | ⟨q1, q2⟩
  · left
    have := Nat.mul_le_mul_left (f ^ k) (show da + 1 ≤ db from q)
    rw [Nat.mul_succ] at this
    omega
  · rw [q1]
    have lt : m.idxOf a < m.idxOf b := by
      rcases Nat.lt_or_eq_of_le q2 with z | z
      · exact z
      · exact absurd (idx_inj ha' hb' z) ne
    have := ix.mp lt
    omega
end DL
set_option maxRecDepth 100000
set_option maxHeartbeats 400000
namespace DL
open PySem L2
local macro_rules | `(tactic| walk_at "dl") => `(tactic| simp (config := { dsimp := false }) only [↓fnM_e, ↓sSeq_e, seqK_nx, seqK_rt, seqK_bk, seqK_ct, retK_rt, retK_nx, ↓sFrz_e, frK_some, ↓sAsg, ↓sRet, ↓sRetN, ↓sIf, ↓sExpr, ↓sSkip, ↓sNever, ↓sPar, ↓sFor, ↓sSub, ↓fVar, ↓fC, ↓fNil, ↓fCons, ↓fA, ↓f1, ↓f2, ↓fB, ↓fIf, ↓fNeg, ↓fNot, ↓fAnd, ↓fOr, ↓bNot, ↓bAnd, ↓bOr, ↓bYes, ↓obnd_x, ob_some, ↓sbnd_x, sb_some, ↓ite_x, iteK_t, iteK_f, gN, gT, gC, gE, ↓rng1I, ↓rng2I, ↓seqI, ↓enumA, ↓zipI, ↓strI, ↓fLc, ↓fDc, ↓fM, ↓fSl, ↓oNone, ↓oSome, ↓fRev, wipeE, ↓kwM, permM, permL, List.foldr, List.length_cons, List.length_nil, List.map_cons, List.map_nil, List.cons_append, List.nil_append, List.replicate, List.replicate_succ, List.replicate_zero, List.getElem?_cons_zero, List.getElem?_cons_succ, List.set_cons_zero, List.set_cons_succ, if_true, if_false, reduceIte, Nat.reduceAdd, Nat.reduceSub, Nat.reduceEqDiff, Nat.reduceLT, Nat.reduceLeDiff, Int.reduceLT, Int.reduceLE, Int.reduceNeg, Int.reduceMul, Int.reduceAdd, Int.reduceSub, Int.reduceToNat, Int.reducePow, Int.reduceEq, ok, bok, deref, mkL, lstW, tupW, dats, Option.map_some, appendW, insertW, setL, isL, listW, tupleW, lenW, absW, intC, maxW, minW, idxW, addW, subW_e, modW_e, divW_e, powW_e, mulW, intW, lt_e, gt_e, le_e, ge_e, ltW, allW_e, anyW_e, sumW_e, lW, setW, lstAt, cutW, backW, isW, isiW, iLT_none, iLT_bool, iLT_int, iLT_str, iLT_list, iLT_tup, iL_none, iL_bool, iL_int, iL_str, iL_list, iL_tup, iT_none, iT_bool, iT_int, iT_str, iT_list, iT_tup, iS_none, iS_bool, iS_int, iS_str, iS_list, iS_tup, iI_none, iI_bool, iI_int, iI_str, iI_list, iI_tup, iB_none, iB_bool, iB_int, iB_str, iB_list, iB_tup, Bool.false_eq_true, reduceCtorEq, Bool.not_true, Bool.not_false, decide_true, decide_false, List.zip_cons_cons, List.zip_nil_left, List.foldl_cons, List.foldl_nil, and_self, and_true, true_and, Bool.and_true, Bool.true_and, Bool.or_true, Bool.true_or, *])
end DL
set_option maxRecDepth 100000
set_option maxHeartbeats 400000
namespace DL
open PySem L2
local macro_rules | `(tactic| walk_at "dl") => `(tactic| simp (config := { dsimp := false }) only [↓fnM_e, ↓sSeq_e, seqK_nx, seqK_rt, seqK_bk, seqK_ct, retK_rt, retK_nx, ↓sFrz_e, frK_some, ↓sAsg, ↓sRet, ↓sRetN, ↓sIf, ↓sExpr, ↓sSkip, ↓sNever, ↓sPar, ↓sFor, ↓sSub, ↓fVar, ↓fC, ↓fNil, ↓fCons, ↓fA, ↓f1, ↓f2, ↓fB, ↓fIf, ↓fNeg, ↓fNot, ↓fAnd, ↓fOr, ↓bNot, ↓bAnd, ↓bOr, ↓bYes, ↓obnd_x, ob_some, ↓sbnd_x, sb_some, ↓ite_x, iteK_t, iteK_f, gN, gT, gC, gE, ↓rng1I, ↓rng2I, ↓seqI, ↓enumA, ↓zipI, ↓strI, ↓fLc, ↓fDc, ↓fM, ↓fSl, ↓oNone, ↓oSome, ↓fRev, wipeE, ↓kwM, permM, permL, List.foldr, List.length_cons, List.length_nil, List.map_cons, List.map_nil, List.cons_append, List.nil_append, List.replicate, List.replicate_succ, List.replicate_zero, List.getElem?_cons_zero, List.getElem?_cons_succ, List.set_cons_zero, List.set_cons_succ, if_true, if_false, reduceIte, Nat.reduceAdd, Nat.reduceSub, Nat.reduceEqDiff, Nat.reduceLT, Nat.reduceLeDiff, Int.reduceLT, Int.reduceLE, Int.reduceNeg, Int.reduceMul, Int.reduceAdd, Int.reduceSub, Int.reduceToNat, Int.reducePow, Int.reduceEq, ok, bok, deref, mkL, lstW, tupW, dats, Option.map_some, appendW, insertW, setL, isL, listW, tupleW, lenW, absW, intC, maxW, minW, idxW, addW, subW_e, modW_e, divW_e, powW_e, mulW, intW, lt_e, gt_e, le_e, ge_e, ltW, allW_e, anyW_e, sumW_e, lW, setW, lstAt, cutW, backW, isW, isiW, iLT_none, iLT_bool, iLT_int, iLT_str, iLT_list, iLT_tup, iL_none, iL_bool, iL_int, iL_str, iL_list, iL_tup, iT_none, iT_bool, iT_int, iT_str, iT_list, iT_tup, iS_none, iS_bool, iS_int, iS_str, iS_list, iS_tup, iI_none, iI_bool, iI_int, iI_str, iI_list, iI_tup, iB_none, iB_bool, iB_int, iB_str, iB_list, iB_tup, Bool.false_eq_true, reduceCtorEq, Bool.not_true, Bool.not_false, decide_true, decide_false, List.zip_cons_cons, List.zip_nil_left, List.foldl_cons, List.foldl_nil, and_self, and_true, true_and, Bool.and_true, Bool.true_and, Bool.or_true, Bool.true_or, *])
theorem bools_map {α : Type} (p : α → Bool) : ∀ l : List α, bools (l.map fun i => .bool (p i)) = some (l.map p)
  | [] => rfl
  | a :: l => by rw [List.map_cons, bools, bools_map p l]; rfl
end DL
set_option maxRecDepth 100000
set_option maxHeartbeats 400000
namespace DL
open PySem L2
local macro_rules | `(tactic| walk_at "dl") => `(tactic| simp (config := { dsimp := false }) only [↓fnM_e, ↓sSeq_e, seqK_nx, seqK_rt, seqK_bk, seqK_ct, retK_rt, retK_nx, ↓sFrz_e, frK_some, ↓sAsg, ↓sRet, ↓sRetN, ↓sIf, ↓sExpr, ↓sSkip, ↓sNever, ↓sPar, ↓sFor, ↓sSub, ↓fVar, ↓fC, ↓fNil, ↓fCons, ↓fA, ↓f1, ↓f2, ↓fB, ↓fIf, ↓fNeg, ↓fNot, ↓fAnd, ↓fOr, ↓bNot, ↓bAnd, ↓bOr, ↓bYes, ↓obnd_x, ob_some, ↓sbnd_x, sb_some, ↓ite_x, iteK_t, iteK_f, gN, gT, gC, gE, ↓rng1I, ↓rng2I, ↓seqI, ↓enumA, ↓zipI, ↓strI, ↓fLc, ↓fDc, ↓fM, ↓fSl, ↓oNone, ↓oSome, ↓fRev, wipeE, ↓kwM, permM, permL, List.foldr, List.length_cons, List.length_nil, List.map_cons, List.map_nil, List.cons_append, List.nil_append, List.replicate, List.replicate_succ, List.replicate_zero, List.getElem?_cons_zero, List.getElem?_cons_succ, List.set_cons_zero, List.set_cons_succ, if_true, if_false, reduceIte, Nat.reduceAdd, Nat.reduceSub, Nat.reduceEqDiff, Nat.reduceLT, Nat.reduceLeDiff, Int.reduceLT, Int.reduceLE, Int.reduceNeg, Int.reduceMul, Int.reduceAdd, Int.reduceSub, Int.reduceToNat, Int.reducePow, Int.reduceEq, ok, bok, deref, mkL, lstW, tupW, dats, Option.map_some, appendW, insertW, setL, isL, listW, tupleW, lenW, absW, intC, maxW, minW, idxW, addW, subW_e, modW_e, divW_e, powW_e, mulW, intW, lt_e, gt_e, le_e, ge_e, ltW, allW_e, anyW_e, sumW_e, lW, setW, lstAt, cutW, backW, isW, isiW, iLT_none, iLT_bool, iLT_int, iLT_str, iLT_list, iLT_tup, iL_none, iL_bool, iL_int, iL_str, iL_list, iL_tup, iT_none, iT_bool, iT_int, iT_str, iT_list, iT_tup, iS_none, iS_bool, iS_int, iS_str, iS_list, iS_tup, iI_none, iI_bool, iI_int, iI_str, iI_list, iI_tup, iB_none, iB_bool, iB_int, iB_str, iB_list, iB_tup, Bool.false_eq_true, reduceCtorEq, Bool.not_true, Bool.not_false, decide_true, decide_false, List.zip_cons_cons, List.zip_nil_left, List.foldl_cons, List.foldl_nil, and_self, and_true, true_and, Bool.and_true, Bool.true_and, Bool.or_true, Bool.true_or, *])
theorem all_noDM_app {h : Hh} {o : Option MO} (hk : h.all noDM = true) (ho : noDM o = true) : (h ++ [o]).all noDM = true := by
  rw [List.all_append, hk]
  simp [ho]
end DL
set_option maxRecDepth 100000
set_option maxHeartbeats 400000
namespace DL
open PySem L2
local macro_rules | `(tactic| walk_at "dl") => `(tactic| simp (config := { dsimp := false }) only [↓fnM_e, ↓sSeq_e, seqK_nx, seqK_rt, seqK_bk, seqK_ct, retK_rt, retK_nx, ↓sFrz_e, frK_some, ↓sAsg, ↓sRet, ↓sRetN, ↓sIf, ↓sExpr, ↓sSkip, ↓sNever, ↓sPar, ↓sFor, ↓sSub, ↓fVar, ↓fC, ↓fNil, ↓fCons, ↓fA, ↓f1, ↓f2, ↓fB, ↓fIf, ↓fNeg, ↓fNot, ↓fAnd, ↓fOr, ↓bNot, ↓bAnd, ↓bOr, ↓bYes, ↓obnd_x, ob_some, ↓sbnd_x, sb_some, ↓ite_x, iteK_t, iteK_f, gN, gT, gC, gE, ↓rng1I, ↓rng2I, ↓seqI, ↓enumA, ↓zipI, ↓strI, ↓fLc, ↓fDc, ↓fM, ↓fSl, ↓oNone, ↓oSome, ↓fRev, wipeE, ↓kwM, permM, permL, List.foldr, List.length_cons, List.length_nil, List.map_cons, List.map_nil, List.cons_append, List.nil_append, List.replicate, List.replicate_succ, List.replicate_zero, List.getElem?_cons_zero, List.getElem?_cons_succ, List.set_cons_zero, List.set_cons_succ, if_true, if_false, reduceIte, Nat.reduceAdd, Nat.reduceSub, Nat.reduceEqDiff, Nat.reduceLT, Nat.reduceLeDiff, Int.reduceLT, Int.reduceLE, Int.reduceNeg, Int.reduceMul, Int.reduceAdd, Int.reduceSub, Int.reduceToNat, Int.reducePow, Int.reduceEq, ok, bok, deref, mkL, lstW, tupW, dats, Option.map_some, appendW, insertW, setL, isL, listW, tupleW, lenW, absW, intC, maxW, minW, idxW, addW, subW_e, modW_e, divW_e, powW_e, mulW, intW, lt_e, gt_e, le_e, ge_e, ltW, allW_e, anyW_e, sumW_e, lW, setW, lstAt, cutW, backW, isW, isiW, iLT_none, iLT_bool, iLT_int, iLT_str, iLT_list, iLT_tup, iL_none, iL_bool, iL_int, iL_str, iL_list, iL_tup, iT_none, iT_bool, iT_int, iT_str, iT_list, iT_tup, iS_none, iS_bool, iS_int, iS_str, iS_list, iS_tup, iI_none, iI_bool, iI_int, iI_str, iI_list, iI_tup, iB_none, iB_bool, iB_int, iB_str, iB_list, iB_tup, Bool.false_eq_true, reduceCtorEq, Bool.not_true, Bool.not_false, decide_true, decide_false, List.zip_cons_cons, List.zip_nil_left, List.foldl_cons, List.foldl_nil, and_self, and_true, true_and, Bool.and_true, Bool.true_and, Bool.or_true, Bool.true_or, *])
end DL
set_option maxRecDepth 100000
set_option maxHeartbeats 400000
namespace DL
open PySem L2
local macro_rules | `(tactic| walk_at "dl") => `(tactic| simp (config := { dsimp := false }) only [↓fnM_e, ↓sSeq_e, seqK_nx, seqK_rt, seqK_bk, seqK_ct, retK_rt, retK_nx, ↓sFrz_e, frK_some, ↓sAsg, ↓sRet, ↓sRetN, ↓sIf, ↓sExpr, ↓sSkip, ↓sNever, ↓sPar, ↓sFor, ↓sSub, ↓fVar, ↓fC, ↓fNil, ↓fCons, ↓fA, ↓f1, ↓f2, ↓fB, ↓fIf, ↓fNeg, ↓fNot, ↓fAnd, ↓fOr, ↓bNot, ↓bAnd, ↓bOr, ↓bYes, ↓obnd_x, ob_some, ↓sbnd_x, sb_some, ↓ite_x, iteK_t, iteK_f, gN, gT, gC, gE, ↓rng1I, ↓rng2I, ↓seqI, ↓enumA, ↓zipI, ↓strI, ↓fLc, ↓fDc, ↓fM, ↓fSl, ↓oNone, ↓oSome, ↓fRev, wipeE, ↓kwM, permM, permL, List.foldr, List.length_cons, List.length_nil, List.map_cons, List.map_nil, List.cons_append, List.nil_append, List.replicate, List.replicate_succ, List.replicate_zero, List.getElem?_cons_zero, List.getElem?_cons_succ, List.set_cons_zero, List.set_cons_succ, if_true, if_false, reduceIte, Nat.reduceAdd, Nat.reduceSub, Nat.reduceEqDiff, Nat.reduceLT, Nat.reduceLeDiff, Int.reduceLT, Int.reduceLE, Int.reduceNeg, Int.reduceMul, Int.reduceAdd, Int.reduceSub, Int.reduceToNat, Int.reducePow, Int.reduceEq, ok, bok, deref, mkL, lstW, tupW, dats, Option.map_some, appendW, insertW, setL, isL, listW, tupleW, lenW, absW, intC, maxW, minW, idxW, addW, subW_e, modW_e, divW_e, powW_e, mulW, intW, lt_e, gt_e, le_e, ge_e, ltW, allW_e, anyW_e, sumW_e, lW, setW, lstAt, cutW, backW, isW, isiW, iLT_none, iLT_bool, iLT_int, iLT_str, iLT_list, iLT_tup, iL_none, iL_bool, iL_int, iL_str, iL_list, iL_tup, iT_none, iT_bool, iT_int, iT_str, iT_list, iT_tup, iS_none, iS_bool, iS_int, iS_str, iS_list, iS_tup, iI_none, iI_bool, iI_int, iI_str, iI_list, iI_tup, iB_none, iB_bool, iB_int, iB_str, iB_list, iB_tup, Bool.false_eq_true, reduceCtorEq, Bool.not_true, Bool.not_false, decide_true, decide_false, List.zip_cons_cons, List.zip_nil_left, List.foldl_cons, List.foldl_nil, and_self, and_true, true_and, Bool.and_true, Bool.true_and, Bool.or_true, Bool.true_or, *])
structure JD (h0 h : Hh) : Prop where
  pre : Pre h0 h
  len : h0.length ≤ h.length
  nod : h.all noDM = true
theorem JD.app {h0 h : Hh} (j : JD h0 h) {o : Option MO} (ho : noDM o = true) : JD h0 (h ++ [o]) := ⟨j.pre.app j.len, by rw [List.length_append]; have := j.len; omega, all_noDM_app j.nod ho⟩
theorem noDM_ints (a b c : Int) : noDM (some (.lst [.int a, .int b, .int c])) = true := by simp [noDM, noDs, noD]
theorem nod_only {h h' : Hh} {b c : Nat} (hk : h.all noDM = true) (o : Only b h h') (bx : BoxAt h' b c) : h'.all noDM = true := by
  rw [List.all_eq_true] at *
  intro z hz
  obtain ⟨i, hi, e⟩ := List.getElem_of_mem hz
  have e' : h'[i]? = some z := by rw [List.getElem?_eq_getElem hi, e]
  by_cases hb : i = b
  · subst hb
    obtain ⟨d, s, k, q, _⟩ := bx
    rw [q] at e'
    cases e'
    exact noDM_ints _ _ _
  · rw [o.off i hb] at e'
    exact hk z (List.mem_of_getElem? e')
theorem JD.only {h0 h h' : Hh} {b c : Nat} (j : JD h0 h) (hb : h0.length ≤ b) (o : Only b h h') (bx : BoxAt h' b c) : JD h0 h' := ⟨j.pre.only hb o, by rw [o.len]; exact j.len, nod_only j.nod o bx⟩
end DL
set_option maxRecDepth 100000
set_option maxHeartbeats 400000
namespace DL
open PySem L2
local macro_rules | `(tactic| walk_at "dl") => `(tactic| simp (config := { dsimp := false }) only [↓fnM_e, ↓sSeq_e, seqK_nx, seqK_rt, seqK_bk, seqK_ct, retK_rt, retK_nx, ↓sFrz_e, frK_some, ↓sAsg, ↓sRet, ↓sRetN, ↓sIf, ↓sExpr, ↓sSkip, ↓sNever, ↓sPar, ↓sFor, ↓sSub, ↓fVar, ↓fC, ↓fNil, ↓fCons, ↓fA, ↓f1, ↓f2, ↓fB, ↓fIf, ↓fNeg, ↓fNot, ↓fAnd, ↓fOr, ↓bNot, ↓bAnd, ↓bOr, ↓bYes, ↓obnd_x, ob_some, ↓sbnd_x, sb_some, ↓ite_x, iteK_t, iteK_f, gN, gT, gC, gE, ↓rng1I, ↓rng2I, ↓seqI, ↓enumA, ↓zipI, ↓strI, ↓fLc, ↓fDc, ↓fM, ↓fSl, ↓oNone, ↓oSome, ↓fRev, wipeE, ↓kwM, permM, permL, List.foldr, List.length_cons, List.length_nil, List.map_cons, List.map_nil, List.cons_append, List.nil_append, List.replicate, List.replicate_succ, List.replicate_zero, List.getElem?_cons_zero, List.getElem?_cons_succ, List.set_cons_zero, List.set_cons_succ, if_true, if_false, reduceIte, Nat.reduceAdd, Nat.reduceSub, Nat.reduceEqDiff, Nat.reduceLT, Nat.reduceLeDiff, Int.reduceLT, Int.reduceLE, Int.reduceNeg, Int.reduceMul, Int.reduceAdd, Int.reduceSub, Int.reduceToNat, Int.reducePow, Int.reduceEq, ok, bok, deref, mkL, lstW, tupW, dats, Option.map_some, appendW, insertW, setL, isL, listW, tupleW, lenW, absW, intC, maxW, minW, idxW, addW, subW_e, modW_e, divW_e, powW_e, mulW, intW, lt_e, gt_e, le_e, ge_e, ltW, allW_e, anyW_e, sumW_e, lW, setW, lstAt, cutW, backW, isW, isiW, iLT_none, iLT_bool, iLT_int, iLT_str, iLT_list, iLT_tup, iL_none, iL_bool, iL_int, iL_str, iL_list, iL_tup, iT_none, iT_bool, iT_int, iT_str, iT_list, iT_tup, iS_none, iS_bool, iS_int, iS_str, iS_list, iS_tup, iI_none, iI_bool, iI_int, iI_str, iI_list, iI_tup, iB_none, iB_bool, iB_int, iB_str, iB_list, iB_tup, Bool.false_eq_true, reduceCtorEq, Bool.not_true, Bool.not_false, decide_true, decide_false, List.zip_cons_cons, List.zip_nil_left, List.foldl_cons, List.foldl_nil, and_self, and_true, true_and, Bool.and_true, Bool.true_and, Bool.or_true, Bool.true_or, *])
theorem Words.rev {r : List Str} {ws : List (List (Str × Str))} (c : Words r ws) : Words r ws.reverse := fun p hp => c p (List.mem_reverse.mp hp)
end DL
set_option maxRecDepth 100000
set_option maxHeartbeats 400000
namespace DL
open PySem L2
local macro_rules | `(tactic| walk_at "dl") => `(tactic| simp (config := { dsimp := false }) only [↓fnM_e, ↓sSeq_e, seqK_nx, seqK_rt, seqK_bk, seqK_ct, retK_rt, retK_nx, ↓sFrz_e, frK_some, ↓sAsg, ↓sRet, ↓sRetN, ↓sIf, ↓sExpr, ↓sSkip, ↓sNever, ↓sPar, ↓sFor, ↓sSub, ↓fVar, ↓fC, ↓fNil, ↓fCons, ↓fA, ↓f1, ↓f2, ↓fB, ↓fIf, ↓fNeg, ↓fNot, ↓fAnd, ↓fOr, ↓bNot, ↓bAnd, ↓bOr, ↓bYes, ↓obnd_x, ob_some, ↓sbnd_x, sb_some, ↓ite_x, iteK_t, iteK_f, gN, gT, gC, gE, ↓rng1I, ↓rng2I, ↓seqI, ↓enumA, ↓zipI, ↓strI, ↓fLc, ↓fDc, ↓fM, ↓fSl, ↓oNone, ↓oSome, ↓fRev, wipeE, ↓kwM, permM, permL, List.foldr, List.length_cons, List.length_nil, List.map_cons, List.map_nil, List.cons_append, List.nil_append, List.replicate, List.replicate_succ, List.replicate_zero, List.getElem?_cons_zero, List.getElem?_cons_succ, List.set_cons_zero, List.set_cons_succ, if_true, if_false, reduceIte, Nat.reduceAdd, Nat.reduceSub, Nat.reduceEqDiff, Nat.reduceLT, Nat.reduceLeDiff, Int.reduceLT, Int.reduceLE, Int.reduceNeg, Int.reduceMul, Int.reduceAdd, Int.reduceSub, Int.reduceToNat, Int.reducePow, Int.reduceEq, ok, bok, deref, mkL, lstW, tupW, dats, Option.map_some, appendW, insertW, setL, isL, listW, tupleW, lenW, absW, intC, maxW, minW, idxW, addW, subW_e, modW_e, divW_e, powW_e, mulW, intW, lt_e, gt_e, le_e, ge_e, ltW, allW_e, anyW_e, sumW_e, lW, setW, lstAt, cutW, backW, isW, isiW, iLT_none, iLT_bool, iLT_int, iLT_str, iLT_list, iLT_tup, iL_none, iL_bool, iL_int, iL_str, iL_list, iL_tup, iT_none, iT_bool, iT_int, iT_str, iT_list, iT_tup, iS_none, iS_bool, iS_int, iS_str, iS_list, iS_tup, iI_none, iI_bool, iI_int, iI_str, iI_list, iI_tup, iB_none, iB_bool, iB_int, iB_str, iB_list, iB_tup, Bool.false_eq_true, reduceCtorEq, Bool.not_true, Bool.not_false, decide_true, decide_false, List.zip_cons_cons, List.zip_nil_left, List.foldl_cons, List.foldl_nil, and_self, and_true, true_and, Bool.and_true, Bool.true_and, Bool.or_true, Bool.true_or, *])
end DL
set_option maxRecDepth 100000
set_option maxHeartbeats 400000
namespace DL
open PySem L2
local macro_rules | `(tactic| walk_at "dl") => `(tactic| simp (config := { dsimp := false }) only [↓fnM_e, ↓sSeq_e, seqK_nx, seqK_rt, seqK_bk, seqK_ct, retK_rt, retK_nx, ↓sFrz_e, frK_some, ↓sAsg, ↓sRet, ↓sRetN, ↓sIf, ↓sExpr, ↓sSkip, ↓sNever, ↓sPar, ↓sFor, ↓sSub, ↓fVar, ↓fC, ↓fNil, ↓fCons, ↓fA, ↓f1, ↓f2, ↓fB, ↓fIf, ↓fNeg, ↓fNot, ↓fAnd, ↓fOr, ↓bNot, ↓bAnd, ↓bOr, ↓bYes, ↓obnd_x, ob_some, ↓sbnd_x, sb_some, ↓ite_x, iteK_t, iteK_f, gN, gT, gC, gE, ↓rng1I, ↓rng2I, ↓seqI, ↓enumA, ↓zipI, ↓strI, ↓fLc, ↓fDc, ↓fM, ↓fSl, ↓oNone, ↓oSome, ↓fRev, wipeE, ↓kwM, permM, permL, List.foldr, List.length_cons, List.length_nil, List.map_cons, List.map_nil, List.cons_append, List.nil_append, List.replicate, List.replicate_succ, List.replicate_zero, List.getElem?_cons_zero, List.getElem?_cons_succ, List.set_cons_zero, List.set_cons_succ, if_true, if_false, reduceIte, Nat.reduceAdd, Nat.reduceSub, Nat.reduceEqDiff, Nat.reduceLT, Nat.reduceLeDiff, Int.reduceLT, Int.reduceLE, Int.reduceNeg, Int.reduceMul, Int.reduceAdd, Int.reduceSub, Int.reduceToNat, Int.reducePow, Int.reduceEq, ok, bok, deref, mkL, lstW, tupW, dats, Option.map_some, appendW, insertW, setL, isL, listW, tupleW, lenW, absW, intC, maxW, minW, idxW, addW, subW_e, modW_e, divW_e, powW_e, mulW, intW, lt_e, gt_e, le_e, ge_e, ltW, allW_e, anyW_e, sumW_e, lW, setW, lstAt, cutW, backW, isW, isiW, iLT_none, iLT_bool, iLT_int, iLT_str, iLT_list, iLT_tup, iL_none, iL_bool, iL_int, iL_str, iL_list, iL_tup, iT_none, iT_bool, iT_int, iT_str, iT_list, iT_tup, iS_none, iS_bool, iS_int, iS_str, iS_list, iS_tup, iI_none, iI_bool, iI_int, iI_str, iI_list, iI_tup, iB_none, iB_bool, iB_int, iB_str, iB_list, iB_tup, Bool.false_eq_true, reduceCtorEq, Bool.not_true, Bool.not_false, decide_true, decide_false, List.zip_cons_cons, List.zip_nil_left, List.foldl_cons, List.foldl_nil, and_self, and_true, true_and, Bool.and_true, Bool.true_and, Bool.or_true, Bool.true_or, *])
end DL
set_option maxRecDepth 100000
set_option maxHeartbeats 400000
namespace DL
open PySem L2
local macro_rules | `(tactic| walk_at "dl") => `(tactic| simp (config := { dsimp := false }) only [↓fnM_e, ↓sSeq_e, seqK_nx, seqK_rt, seqK_bk, seqK_ct, retK_rt, retK_nx, ↓sFrz_e, frK_some, ↓sAsg, ↓sRet, ↓sRetN, ↓sIf, ↓sExpr, ↓sSkip, ↓sNever, ↓sPar, ↓sFor, ↓sSub, ↓fVar, ↓fC, ↓fNil, ↓fCons, ↓fA, ↓f1, ↓f2, ↓fB, ↓fIf, ↓fNeg, ↓fNot, ↓fAnd, ↓fOr, ↓bNot, ↓bAnd, ↓bOr, ↓bYes, ↓obnd_x, ob_some, ↓sbnd_x, sb_some, ↓ite_x, iteK_t, iteK_f, gN, gT, gC, gE, ↓rng1I, ↓rng2I, ↓seqI, ↓enumA, ↓zipI, ↓strI, ↓fLc, ↓fDc, ↓fM, ↓fSl, ↓oNone, ↓oSome, ↓fRev, wipeE, ↓kwM, permM, permL, List.foldr, List.length_cons, List.length_nil, List.map_cons, List.map_nil, List.cons_append, List.nil_append, List.replicate, List.replicate_succ, List.replicate_zero, List.getElem?_cons_zero, List.getElem?_cons_succ, List.set_cons_zero, List.set_cons_succ, if_true, if_false, reduceIte, Nat.reduceAdd, Nat.reduceSub, Nat.reduceEqDiff, Nat.reduceLT, Nat.reduceLeDiff, Int.reduceLT, Int.reduceLE, Int.reduceNeg, Int.reduceMul, Int.reduceAdd, Int.reduceSub, Int.reduceToNat, Int.reducePow, Int.reduceEq, ok, bok, deref, mkL, lstW, tupW, dats, Option.map_some, appendW, insertW, setL, isL, listW, tupleW, lenW, absW, intC, maxW, minW, idxW, addW, subW_e, modW_e, divW_e, powW_e, mulW, intW, lt_e, gt_e, le_e, ge_e, ltW, allW_e, anyW_e, sumW_e, lW, setW, lstAt, cutW, backW, isW, isiW, iLT_none, iLT_bool, iLT_int, iLT_str, iLT_list, iLT_tup, iL_none, iL_bool, iL_int, iL_str, iL_list, iL_tup, iT_none, iT_bool, iT_int, iT_str, iT_list, iT_tup, iS_none, iS_bool, iS_int, iS_str, iS_list, iS_tup, iI_none, iI_bool, iI_int, iI_str, iI_list, iI_tup, iB_none, iB_bool, iB_int, iB_str, iB_list, iB_tup, Bool.false_eq_true, reduceCtorEq, Bool.not_true, Bool.not_false, decide_true, decide_false, List.zip_cons_cons, List.zip_nil_left, List.foldl_cons, List.foldl_nil, and_self, and_true, true_and, Bool.and_true, Bool.true_and, Bool.or_true, Bool.true_or, *])
def fldK (C : Addr) (f : Str) (w : W) (h1 : Hh) : Option (W × Hh) := match insF C w h1 with
  | some fs => match fs.lookup f with
    | some d => some (.dat d, h1)
    | none => none
  | none => none
theorem fFld_e (C : Addr) (f : Str) (g : EM) (ρ : DL.Env) (h : Hh) : fFld C f g ρ h = ob (fldK C f) () (g ρ h) := rfl
def metK (C : Addr) (m : Str) (mm : FM) (ga : AM) (ρ : DL.Env) (w : W) (h1 : Hh) : Option (W × Hh) := match insF C w h1 with
  | some fs => match fs.lookup m with
    | some _ => none
    | none => ob (fun ws h2 => mm (w :: ws) h2) () (ga ρ h1)
  | none => none
theorem fMeth_e (C : Addr) (m : Str) (mm : FM) (go : EM) (ga : AM) (ρ : DL.Env) (h : Hh) : fMeth C m mm go ga ρ h = ob (metK C m mm ga ρ) () (go ρ h) := rfl
def mkT (C : Addr) (mi : FM) (ws : List W) (h1 : Hh) : Option (W × Hh) := match mi (.ref h1.length :: ws) (h1 ++ [some (.ins C [])]) with
  | some (.dat .none, h2) => match h2[h1.length]? with
    | some (some (.ins C' fs)) => if C' = C then some (.ins C fs, h2.set h1.length none) else none
    | _ => none
  | _ => none
theorem fMk_e (C : Addr) (mi : FM) (ga : AM) (ρ : DL.Env) (h : Hh) : fMk C mi ga ρ h = ob (mkT C mi) () (ga ρ h) := rfl
theorem fld_n {C : Addr} {a b : D} {h : Hh} : fldK C "own_names" (.ins C [("own_names", a), ("own_pairs", b)]) h = some (.dat a, h) := by
  simp only [fldK, insF, if_true]; rfl
theorem fld_p {C : Addr} {a b : D} {h : Hh} : fldK C "own_pairs" (.ins C [("own_names", a), ("own_pairs", b)]) h = some (.dat b, h) := by
  simp only [fldK, insF, if_true]; rfl
theorem met_t {C : Addr} {m : Str} {mm : FM} {ga : AM} {ρ : DL.Env} {a b : D} {h : Hh} (hm : List.lookup m [(("own_names" : Str), a), ("own_pairs", b)] = none) : metK C m mm ga ρ (.ins C [("own_names", a), ("own_pairs", b)]) h = ob (fun ws h2 => mm (.ins C [("own_names", a), ("own_pairs", b)] :: ws) h2) () (ga ρ h) := by
  simp only [metK, insF, if_true, hm]
theorem met_leads {C : Addr} {mm : FM} {ga : AM} {ρ : DL.Env} {a b : D} {h : Hh} : metK C "leads" mm ga ρ (.ins C [("own_names", a), ("own_pairs", b)]) h = ob (fun ws h2 => mm (.ins C [("own_names", a), ("own_pairs", b)] :: ws) h2) () (ga ρ h) := met_t rfl
theorem met_then {C : Addr} {mm : FM} {ga : AM} {ρ : DL.Env} {a b : D} {h : Hh} : metK C "then" mm ga ρ (.ins C [("own_names", a), ("own_pairs", b)]) h = ob (fun ws h2 => mm (.ins C [("own_names", a), ("own_pairs", b)] :: ws) h2) () (ga ρ h) := met_t rfl
theorem met_times {C : Addr} {mm : FM} {ga : AM} {ρ : DL.Env} {a b : D} {h : Hh} : metK C "times" mm ga ρ (.ins C [("own_names", a), ("own_pairs", b)]) h = ob (fun ws h2 => mm (.ins C [("own_names", a), ("own_pairs", b)] :: ws) h2) () (ga ρ h) := met_t rfl
theorem met_made {C : Addr} {mm : FM} {ga : AM} {ρ : DL.Env} {a b : D} {h : Hh} : metK C "made" mm ga ρ (.ins C [("own_names", a), ("own_pairs", b)]) h = ob (fun ws h2 => mm (.ins C [("own_names", a), ("own_pairs", b)] :: ws) h2) () (ga ρ h) := met_t rfl
theorem met_tells {C : Addr} {mm : FM} {ga : AM} {ρ : DL.Env} {a b : D} {h : Hh} : metK C "tells" mm ga ρ (.ins C [("own_names", a), ("own_pairs", b)]) h = ob (fun ws h2 => mm (.ins C [("own_names", a), ("own_pairs", b)] :: ws) h2) () (ga ρ h) := met_t rfl
theorem met_names {C : Addr} {mm : FM} {ga : AM} {ρ : DL.Env} {a b : D} {h : Hh} : metK C "names" mm ga ρ (.ins C [("own_names", a), ("own_pairs", b)]) h = ob (fun ws h2 => mm (.ins C [("own_names", a), ("own_pairs", b)] :: ws) h2) () (ga ρ h) := met_t rfl
end DL
set_option maxRecDepth 100000
set_option maxHeartbeats 400000
namespace DL
open PySem L2
local macro_rules | `(tactic| walk_at "dl") => `(tactic| simp (config := { dsimp := false }) only [↓fnM_e, ↓sSeq_e, seqK_nx, seqK_rt, seqK_bk, seqK_ct, retK_rt, retK_nx, ↓sFrz_e, frK_some, ↓sAsg, ↓sRet, ↓sRetN, ↓sIf, ↓sExpr, ↓sSkip, ↓sNever, ↓sPar, ↓sFor, ↓sSub, ↓fVar, ↓fC, ↓fNil, ↓fCons, ↓fA, ↓f1, ↓f2, ↓fB, ↓fIf, ↓fNeg, ↓fNot, ↓fAnd, ↓fOr, ↓bNot, ↓bAnd, ↓bOr, ↓bYes, ↓obnd_x, ob_some, ↓sbnd_x, sb_some, ↓ite_x, iteK_t, iteK_f, gN, gT, gC, gE, ↓rng1I, ↓rng2I, ↓seqI, ↓enumA, ↓zipI, ↓strI, ↓fLc, ↓fDc, ↓fM, ↓fSl, ↓oNone, ↓oSome, ↓fRev, wipeE, ↓kwM, permM, permL, List.foldr, List.length_cons, List.length_nil, List.map_cons, List.map_nil, List.cons_append, List.nil_append, List.replicate, List.replicate_succ, List.replicate_zero, List.getElem?_cons_zero, List.getElem?_cons_succ, List.set_cons_zero, List.set_cons_succ, if_true, if_false, reduceIte, Nat.reduceAdd, Nat.reduceSub, Nat.reduceEqDiff, Nat.reduceLT, Nat.reduceLeDiff, Int.reduceLT, Int.reduceLE, Int.reduceNeg, Int.reduceMul, Int.reduceAdd, Int.reduceSub, Int.reduceToNat, Int.reducePow, Int.reduceEq, ok, bok, deref, mkL, lstW, tupW, dats, Option.map_some, appendW, insertW, setL, isL, listW, tupleW, lenW, absW, intC, maxW, minW, idxW, addW, subW_e, modW_e, divW_e, powW_e, mulW, intW, lt_e, gt_e, le_e, ge_e, ltW, allW_e, anyW_e, sumW_e, lW, setW, lstAt, cutW, backW, isW, isiW, iLT_none, iLT_bool, iLT_int, iLT_str, iLT_list, iLT_tup, iL_none, iL_bool, iL_int, iL_str, iL_list, iL_tup, iT_none, iT_bool, iT_int, iT_str, iT_list, iT_tup, iS_none, iS_bool, iS_int, iS_str, iS_list, iS_tup, iI_none, iI_bool, iI_int, iI_str, iI_list, iI_tup, iB_none, iB_bool, iB_int, iB_str, iB_list, iB_tup, Bool.false_eq_true, reduceCtorEq, Bool.not_true, Bool.not_false, decide_true, decide_false, List.zip_cons_cons, List.zip_nil_left, List.foldl_cons, List.foldl_nil, and_self, and_true, true_and, Bool.and_true, Bool.true_and, Bool.or_true, Bool.true_or, *])
theorem nd_inj {S : List Str} (nd : S.Nodup) {i j : Nat} (hi : i < S.length) (hj : j < S.length) (e : S[i] = S[j]) : i = j := by
  rcases Nat.lt_trichotomy i j with h | h | h
  · exact absurd e (List.pairwise_iff_getElem.mp nd i j hi hj h)
  · exact h
  · exact absurd e.symm (List.pairwise_iff_getElem.mp nd j i hj hi h)
theorem eqv_txts : ∀ a b : List Str, PyData.eqvAll (a.map .str) (b.map .str) = decide (a = b)
  | [], [] => by simp [PyData.eqvAll]
  | [], b :: l => by simp [PyData.eqvAll]
  | a :: k, [] => by simp [PyData.eqvAll]
  | a :: k, b :: l => by
    rw [List.map_cons, List.map_cons, PyData.eqvAll, eqv_txts k l]
    by_cases h : a = b
    · subst h; simp [PyData.eqv]
    · simp [PyData.eqv, h]
structure Nam (l : List Str) (ms : List (Str × Str)) : Prop where
  key : ms.map (·.1) = l
  nd : l.Nodup
  inj : (ms.map (·.2)).Nodup
  txt : Txts (ms.map (·.2))
section
variable {l : List Str} {ms : List (Str × Str)} (N : Nam l ms)
include N
theorem Nam.nk : (ms.map (·.1)).Nodup := by rw [N.key]; exact N.nd
theorem Nam.look {s : Str} (hs : s ∈ l) : ∃ p ∈ ms, p.1 = s ∧ goal ms s = p.2 ∧ ms.lookup s = some p.2 := by
  rw [← N.key] at hs
  obtain ⟨p, hp, rfl⟩ := List.mem_map.mp hs
  refine ⟨p, hp, rfl, goal_of N.nk p hp, ?_⟩
  have : ∀ {ms : List (Str × Str)}, (ms.map (·.1)).Nodup → p ∈ ms → ms.lookup p.1 = some p.2 := fun {ms} => by
    induction ms with
    | nil => intro _ h; cases h
    | cons q ms ih =>
      intro nd h
      rw [List.map_cons, List.nodup_cons] at nd
      rcases List.mem_cons.mp h with rfl | h
      · rw [List.lookup_cons]; simp
      · rw [List.lookup_cons]
        have : p.1 ≠ q.1 := fun z => nd.1 (z ▸ List.mem_map.mpr ⟨p, h, rfl⟩)
        rw [beq_eq_false_iff_ne.mpr this]
        exact ih nd.2 h
  exact this N.nk hp
theorem Nam.get {s : Str} (hs : s ∈ l) : getD (sdic (tld ms)) (.str s) = some (some (.str (goal ms s))) := by
  obtain ⟨p, _, _, e1, e2⟩ := N.look hs
  rw [getD_sdic, look_tld, e2, e1]; rfl
theorem Nam.map : l.map (goal ms) = ms.map (·.2) := by
  rw [← N.key, List.map_map]
  apply List.map_congr_left
  intro p hp
  exact goal_of N.nk p hp
theorem Nam.one {a b : Str} (ha : a ∈ l) (hb : b ∈ l) : goal ms a = goal ms b ↔ a = b := by
  constructor
  · intro e
    obtain ⟨i, hi, rfl⟩ := List.getElem_of_mem ha
    obtain ⟨j, hj, rfl⟩ := List.getElem_of_mem hb
    have nd := N.inj
    rw [← N.map] at nd
    have q : (l.map (DL.goal ms))[i]'(by rw [List.length_map]; exact hi) = (l.map (DL.goal ms))[j]'(by rw [List.length_map]; exact hj) := by rw [List.getElem_map, List.getElem_map]; exact e
    have := nd_inj nd (by rw [List.length_map]; exact hi) (by rw [List.length_map]; exact hj) q
    subst this; rfl
  · rintro rfl; rfl
end
section
variable {r : List Str} {ms ps : List (Str × Str)} (N : Nam r ms) (c : CallOf r ps)
include N c
end
end DL
set_option maxRecDepth 100000
set_option maxHeartbeats 400000
namespace DL
open PySem L2
local macro_rules | `(tactic| walk_at "dl") => `(tactic| simp (config := { dsimp := false }) only [↓fnM_e, ↓sSeq_e, seqK_nx, seqK_rt, seqK_bk, seqK_ct, retK_rt, retK_nx, ↓sFrz_e, frK_some, ↓sAsg, ↓sRet, ↓sRetN, ↓sIf, ↓sExpr, ↓sSkip, ↓sNever, ↓sPar, ↓sFor, ↓sSub, ↓fVar, ↓fC, ↓fNil, ↓fCons, ↓fA, ↓f1, ↓f2, ↓fB, ↓fIf, ↓fNeg, ↓fNot, ↓fAnd, ↓fOr, ↓bNot, ↓bAnd, ↓bOr, ↓bYes, ↓obnd_x, ob_some, ↓sbnd_x, sb_some, ↓ite_x, iteK_t, iteK_f, gN, gT, gC, gE, ↓rng1I, ↓rng2I, ↓seqI, ↓enumA, ↓zipI, ↓strI, ↓fLc, ↓fDc, ↓fM, ↓fSl, ↓oNone, ↓oSome, ↓fRev, wipeE, ↓kwM, permM, permL, List.foldr, List.length_cons, List.length_nil, List.map_cons, List.map_nil, List.cons_append, List.nil_append, List.replicate, List.replicate_succ, List.replicate_zero, List.getElem?_cons_zero, List.getElem?_cons_succ, List.set_cons_zero, List.set_cons_succ, if_true, if_false, reduceIte, Nat.reduceAdd, Nat.reduceSub, Nat.reduceEqDiff, Nat.reduceLT, Nat.reduceLeDiff, Int.reduceLT, Int.reduceLE, Int.reduceNeg, Int.reduceMul, Int.reduceAdd, Int.reduceSub, Int.reduceToNat, Int.reducePow, Int.reduceEq, ok, bok, deref, mkL, lstW, tupW, dats, Option.map_some, appendW, insertW, setL, isL, listW, tupleW, lenW, absW, intC, maxW, minW, idxW, addW, subW_e, modW_e, divW_e, powW_e, mulW, intW, lt_e, gt_e, le_e, ge_e, ltW, allW_e, anyW_e, sumW_e, lW, setW, lstAt, cutW, backW, isW, isiW, iLT_none, iLT_bool, iLT_int, iLT_str, iLT_list, iLT_tup, iL_none, iL_bool, iL_int, iL_str, iL_list, iL_tup, iT_none, iT_bool, iT_int, iT_str, iT_list, iT_tup, iS_none, iS_bool, iS_int, iS_str, iS_list, iS_tup, iI_none, iI_bool, iI_int, iI_str, iI_list, iI_tup, iB_none, iB_bool, iB_int, iB_str, iB_list, iB_tup, Bool.false_eq_true, reduceCtorEq, Bool.not_true, Bool.not_false, decide_true, decide_false, List.zip_cons_cons, List.zip_nil_left, List.foldl_cons, List.foldl_nil, and_self, and_true, true_and, Bool.and_true, Bool.true_and, Bool.or_true, Bool.true_or, *])
local macro_rules | `(tactic| walk_at "tb") => `(tactic| simp (config := { dsimp := false }) only [↓fFld_e, ↓fMeth_e, ↓fMk_e, fld_n, fld_p, met_leads, met_then, met_times, met_made, met_tells, met_names, ↓fnM_e, ↓sSeq_e, seqK_nx, seqK_rt, seqK_bk, seqK_ct, retK_rt, retK_nx, ↓sFrz_e, frK_some, ↓sAsg, ↓sRet, ↓sRetN, ↓sIf, ↓sExpr, ↓sSkip, ↓sNever, ↓sPar, ↓sFor, ↓sSub, ↓fVar, ↓fC, ↓fNil, ↓fCons, ↓fA, ↓f1, ↓f2, ↓fB, ↓fIf, ↓fNeg, ↓fNot, ↓fAnd, ↓fOr, ↓bNot, ↓bAnd, ↓bOr, ↓bYes, ↓obnd_x, ob_some, ↓sbnd_x, sb_some, ↓ite_x, iteK_t, iteK_f, gN, gT, gC, gE, ↓rng1I, ↓rng2I, ↓seqI, ↓enumA, ↓zipI, ↓strI, ↓fLc, ↓fDc, ↓fM, ↓fSl, ↓oNone, ↓oSome, ↓fRev, wipeE, ↓kwM, permM, permL, List.foldr, List.length_cons, List.length_nil, List.map_cons, List.map_nil, List.cons_append, List.nil_append, List.replicate, List.replicate_succ, List.replicate_zero, List.getElem?_cons_zero, List.getElem?_cons_succ, List.set_cons_zero, List.set_cons_succ, if_true, if_false, reduceIte, Nat.reduceAdd, Nat.reduceSub, Nat.reduceEqDiff, Nat.reduceLT, Nat.reduceLeDiff, Int.reduceLT, Int.reduceLE, Int.reduceNeg, Int.reduceMul, Int.reduceAdd, Int.reduceSub, Int.reduceToNat, Int.reducePow, Int.reduceEq, ok, bok, deref, mkL, lstW, tupW, dats, Option.map_some, appendW, insertW, setL, isL, listW, tupleW, lenW, absW, intC, maxW, minW, idxW, addW, subW_e, modW_e, divW_e, powW_e, mulW, intW, lt_e, gt_e, le_e, ge_e, ltW, allW_e, anyW_e, sumW_e, lW, setW, lstAt, cutW, backW, isW, isiW, iLT_none, iLT_bool, iLT_int, iLT_str, iLT_list, iLT_tup, iL_none, iL_bool, iL_int, iL_str, iL_list, iL_tup, iT_none, iT_bool, iT_int, iT_str, iT_list, iT_tup, iS_none, iS_bool, iS_int, iS_str, iS_list, iS_tup, iI_none, iI_bool, iI_int, iI_str, iI_list, iI_tup, iB_none, iB_bool, iB_int, iB_str, iB_list, iB_tup, Bool.false_eq_true, reduceCtorEq, Bool.not_true, Bool.not_false, decide_true, decide_false, List.zip_cons_cons, List.zip_nil_left, List.foldl_cons, List.foldl_nil, and_self, and_true, true_and, Bool.and_true, Bool.true_and, Bool.or_true, Bool.true_or, *])
end DL
set_option maxRecDepth 100000
set_option maxHeartbeats 400000
namespace DL
open PySem L2
local macro_rules | `(tactic| walk_at "tb") => `(tactic| simp (config := { dsimp := false }) only [↓fFld_e, ↓fMeth_e, ↓fMk_e, fld_n, fld_p, met_leads, met_then, met_times, met_made, met_tells, met_names, ↓fnM_e, ↓sSeq_e, seqK_nx, seqK_rt, seqK_bk, seqK_ct, retK_rt, retK_nx, ↓sFrz_e, frK_some, ↓sAsg, ↓sRet, ↓sRetN, ↓sIf, ↓sExpr, ↓sSkip, ↓sNever, ↓sPar, ↓sFor, ↓sSub, ↓fVar, ↓fC, ↓fNil, ↓fCons, ↓fA, ↓f1, ↓f2, ↓fB, ↓fIf, ↓fNeg, ↓fNot, ↓fAnd, ↓fOr, ↓bNot, ↓bAnd, ↓bOr, ↓bYes, ↓obnd_x, ob_some, ↓sbnd_x, sb_some, ↓ite_x, iteK_t, iteK_f, gN, gT, gC, gE, ↓rng1I, ↓rng2I, ↓seqI, ↓enumA, ↓zipI, ↓strI, ↓fLc, ↓fDc, ↓fM, ↓fSl, ↓oNone, ↓oSome, ↓fRev, wipeE, ↓kwM, permM, permL, List.foldr, List.length_cons, List.length_nil, List.map_cons, List.map_nil, List.cons_append, List.nil_append, List.replicate, List.replicate_succ, List.replicate_zero, List.getElem?_cons_zero, List.getElem?_cons_succ, List.set_cons_zero, List.set_cons_succ, if_true, if_false, reduceIte, Nat.reduceAdd, Nat.reduceSub, Nat.reduceEqDiff, Nat.reduceLT, Nat.reduceLeDiff, Int.reduceLT, Int.reduceLE, Int.reduceNeg, Int.reduceMul, Int.reduceAdd, Int.reduceSub, Int.reduceToNat, Int.reducePow, Int.reduceEq, ok, bok, deref, mkL, lstW, tupW, dats, Option.map_some, appendW, insertW, setL, isL, listW, tupleW, lenW, absW, intC, maxW, minW, idxW, addW, subW_e, modW_e, divW_e, powW_e, mulW, intW, lt_e, gt_e, le_e, ge_e, ltW, allW_e, anyW_e, sumW_e, lW, setW, lstAt, cutW, backW, isW, isiW, iLT_none, iLT_bool, iLT_int, iLT_str, iLT_list, iLT_tup, iL_none, iL_bool, iL_int, iL_str, iL_list, iL_tup, iT_none, iT_bool, iT_int, iT_str, iT_list, iT_tup, iS_none, iS_bool, iS_int, iS_str, iS_list, iS_tup, iI_none, iI_bool, iI_int, iI_str, iI_list, iI_tup, iB_none, iB_bool, iB_int, iB_str, iB_list, iB_tup, Bool.false_eq_true, reduceCtorEq, Bool.not_true, Bool.not_false, decide_true, decide_false, List.zip_cons_cons, List.zip_nil_left, List.foldl_cons, List.foldl_nil, and_self, and_true, true_and, Bool.and_true, Bool.true_and, Bool.or_true, Bool.true_or, *])
end DL
set_option maxRecDepth 100000
set_option maxHeartbeats 400000
namespace DL
open PySem L2
local macro_rules | `(tactic| walk_at "dl") => `(tactic| simp (config := { dsimp := false }) only [↓fnM_e, ↓sSeq_e, seqK_nx, seqK_rt, seqK_bk, seqK_ct, retK_rt, retK_nx, ↓sFrz_e, frK_some, ↓sAsg, ↓sRet, ↓sRetN, ↓sIf, ↓sExpr, ↓sSkip, ↓sNever, ↓sPar, ↓sFor, ↓sSub, ↓fVar, ↓fC, ↓fNil, ↓fCons, ↓fA, ↓f1, ↓f2, ↓fB, ↓fIf, ↓fNeg, ↓fNot, ↓fAnd, ↓fOr, ↓bNot, ↓bAnd, ↓bOr, ↓bYes, ↓obnd_x, ob_some, ↓sbnd_x, sb_some, ↓ite_x, iteK_t, iteK_f, gN, gT, gC, gE, ↓rng1I, ↓rng2I, ↓seqI, ↓enumA, ↓zipI, ↓strI, ↓fLc, ↓fDc, ↓fM, ↓fSl, ↓oNone, ↓oSome, ↓fRev, wipeE, ↓kwM, permM, permL, List.foldr, List.length_cons, List.length_nil, List.map_cons, List.map_nil, List.cons_append, List.nil_append, List.replicate, List.replicate_succ, List.replicate_zero, List.getElem?_cons_zero, List.getElem?_cons_succ, List.set_cons_zero, List.set_cons_succ, if_true, if_false, reduceIte, Nat.reduceAdd, Nat.reduceSub, Nat.reduceEqDiff, Nat.reduceLT, Nat.reduceLeDiff, Int.reduceLT, Int.reduceLE, Int.reduceNeg, Int.reduceMul, Int.reduceAdd, Int.reduceSub, Int.reduceToNat, Int.reducePow, Int.reduceEq, ok, bok, deref, mkL, lstW, tupW, dats, Option.map_some, appendW, insertW, setL, isL, listW, tupleW, lenW, absW, intC, maxW, minW, idxW, addW, subW_e, modW_e, divW_e, powW_e, mulW, intW, lt_e, gt_e, le_e, ge_e, ltW, allW_e, anyW_e, sumW_e, lW, setW, lstAt, cutW, backW, isW, isiW, iLT_none, iLT_bool, iLT_int, iLT_str, iLT_list, iLT_tup, iL_none, iL_bool, iL_int, iL_str, iL_list, iL_tup, iT_none, iT_bool, iT_int, iT_str, iT_list, iT_tup, iS_none, iS_bool, iS_int, iS_str, iS_list, iS_tup, iI_none, iI_bool, iI_int, iI_str, iI_list, iI_tup, iB_none, iB_bool, iB_int, iB_str, iB_list, iB_tup, Bool.false_eq_true, reduceCtorEq, Bool.not_true, Bool.not_false, decide_true, decide_false, List.zip_cons_cons, List.zip_nil_left, List.foldl_cons, List.foldl_nil, and_self, and_true, true_and, Bool.and_true, Bool.true_and, Bool.or_true, Bool.true_or, *])
theorem cut_drop {α : Type} (xs : List α) {k : Nat} : cutG xs (some (k : Int)) none = xs.drop k := by
  have e : HT.sIx xs.length 0 (some (k : Int)) = min k xs.length := HT.sIx_nat _ _ _
  have e0 : HT.sIx xs.length xs.length none = xs.length := rfl
  unfold cutG
  rw [e, e0]
  rcases Nat.le_total k xs.length with q | q
  · rw [Nat.min_eq_left q]
    exact List.take_of_length_le (by rw [List.length_drop]; omega)
  · rw [Nat.min_eq_right q, List.drop_eq_nil_of_le q]
    simp
structure GoodC (ps : List (Str × Str)) : Prop where
  pos : 0 < ps.length
  few : ps.length ≤ 30
  nam : ∀ p ∈ ps, NameOk p.1 ∧ NameOk p.2
  nd : (ps.map (·.1)).Nodup
  pw : (ps.map (·.1)).Pairwise fun a b => leS a b = true
  tgt : ∀ p ∈ ps, p.2 ∈ ps.map (·.1)
theorem GoodC.txts {ps : List (Str × Str)} (g : GoodC ps) : Txts (ps.map (·.1)) := fun s hs => by
  obtain ⟨p, hp, rfl⟩ := List.mem_map.mp hs
  exact (g.nam p hp).1.txt
end DL
set_option maxRecDepth 100000
set_option maxHeartbeats 400000
namespace DL
open PySem L2
local macro_rules | `(tactic| walk_at "dl") => `(tactic| simp (config := { dsimp := false }) only [↓fnM_e, ↓sSeq_e, seqK_nx, seqK_rt, seqK_bk, seqK_ct, retK_rt, retK_nx, ↓sFrz_e, frK_some, ↓sAsg, ↓sRet, ↓sRetN, ↓sIf, ↓sExpr, ↓sSkip, ↓sNever, ↓sPar, ↓sFor, ↓sSub, ↓fVar, ↓fC, ↓fNil, ↓fCons, ↓fA, ↓f1, ↓f2, ↓fB, ↓fIf, ↓fNeg, ↓fNot, ↓fAnd, ↓fOr, ↓bNot, ↓bAnd, ↓bOr, ↓bYes, ↓obnd_x, ob_some, ↓sbnd_x, sb_some, ↓ite_x, iteK_t, iteK_f, gN, gT, gC, gE, ↓rng1I, ↓rng2I, ↓seqI, ↓enumA, ↓zipI, ↓strI, ↓fLc, ↓fDc, ↓fM, ↓fSl, ↓oNone, ↓oSome, ↓fRev, wipeE, ↓kwM, permM, permL, List.foldr, List.length_cons, List.length_nil, List.map_cons, List.map_nil, List.cons_append, List.nil_append, List.replicate, List.replicate_succ, List.replicate_zero, List.getElem?_cons_zero, List.getElem?_cons_succ, List.set_cons_zero, List.set_cons_succ, if_true, if_false, reduceIte, Nat.reduceAdd, Nat.reduceSub, Nat.reduceEqDiff, Nat.reduceLT, Nat.reduceLeDiff, Int.reduceLT, Int.reduceLE, Int.reduceNeg, Int.reduceMul, Int.reduceAdd, Int.reduceSub, Int.reduceToNat, Int.reducePow, Int.reduceEq, ok, bok, deref, mkL, lstW, tupW, dats, Option.map_some, appendW, insertW, setL, isL, listW, tupleW, lenW, absW, intC, maxW, minW, idxW, addW, subW_e, modW_e, divW_e, powW_e, mulW, intW, lt_e, gt_e, le_e, ge_e, ltW, allW_e, anyW_e, sumW_e, lW, setW, lstAt, cutW, backW, isW, isiW, iLT_none, iLT_bool, iLT_int, iLT_str, iLT_list, iLT_tup, iL_none, iL_bool, iL_int, iL_str, iL_list, iL_tup, iT_none, iT_bool, iT_int, iT_str, iT_list, iT_tup, iS_none, iS_bool, iS_int, iS_str, iS_list, iS_tup, iI_none, iI_bool, iI_int, iI_str, iI_list, iI_tup, iB_none, iB_bool, iB_int, iB_str, iB_list, iB_tup, Bool.false_eq_true, reduceCtorEq, Bool.not_true, Bool.not_false, decide_true, decide_false, List.zip_cons_cons, List.zip_nil_left, List.foldl_cons, List.foldl_nil, and_self, and_true, true_and, Bool.and_true, Bool.true_and, Bool.or_true, Bool.true_or, *])
local macro_rules | `(tactic| walk_at "tb") => `(tactic| simp (config := { dsimp := false }) only [↓fFld_e, ↓fMeth_e, ↓fMk_e, fld_n, fld_p, met_leads, met_then, met_times, met_made, met_tells, met_names, ↓fnM_e, ↓sSeq_e, seqK_nx, seqK_rt, seqK_bk, seqK_ct, retK_rt, retK_nx, ↓sFrz_e, frK_some, ↓sAsg, ↓sRet, ↓sRetN, ↓sIf, ↓sExpr, ↓sSkip, ↓sNever, ↓sPar, ↓sFor, ↓sSub, ↓fVar, ↓fC, ↓fNil, ↓fCons, ↓fA, ↓f1, ↓f2, ↓fB, ↓fIf, ↓fNeg, ↓fNot, ↓fAnd, ↓fOr, ↓bNot, ↓bAnd, ↓bOr, ↓bYes, ↓obnd_x, ob_some, ↓sbnd_x, sb_some, ↓ite_x, iteK_t, iteK_f, gN, gT, gC, gE, ↓rng1I, ↓rng2I, ↓seqI, ↓enumA, ↓zipI, ↓strI, ↓fLc, ↓fDc, ↓fM, ↓fSl, ↓oNone, ↓oSome, ↓fRev, wipeE, ↓kwM, permM, permL, List.foldr, List.length_cons, List.length_nil, List.map_cons, List.map_nil, List.cons_append, List.nil_append, List.replicate, List.replicate_succ, List.replicate_zero, List.getElem?_cons_zero, List.getElem?_cons_succ, List.set_cons_zero, List.set_cons_succ, if_true, if_false, reduceIte, Nat.reduceAdd, Nat.reduceSub, Nat.reduceEqDiff, Nat.reduceLT, Nat.reduceLeDiff, Int.reduceLT, Int.reduceLE, Int.reduceNeg, Int.reduceMul, Int.reduceAdd, Int.reduceSub, Int.reduceToNat, Int.reducePow, Int.reduceEq, ok, bok, deref, mkL, lstW, tupW, dats, Option.map_some, appendW, insertW, setL, isL, listW, tupleW, lenW, absW, intC, maxW, minW, idxW, addW, subW_e, modW_e, divW_e, powW_e, mulW, intW, lt_e, gt_e, le_e, ge_e, ltW, allW_e, anyW_e, sumW_e, lW, setW, lstAt, cutW, backW, isW, isiW, iLT_none, iLT_bool, iLT_int, iLT_str, iLT_list, iLT_tup, iL_none, iL_bool, iL_int, iL_str, iL_list, iL_tup, iT_none, iT_bool, iT_int, iT_str, iT_list, iT_tup, iS_none, iS_bool, iS_int, iS_str, iS_list, iS_tup, iI_none, iI_bool, iI_int, iI_str, iI_list, iI_tup, iB_none, iB_bool, iB_int, iB_str, iB_list, iB_tup, Bool.false_eq_true, reduceCtorEq, Bool.not_true, Bool.not_false, decide_true, decide_false, List.zip_cons_cons, List.zip_nil_left, List.foldl_cons, List.foldl_nil, and_self, and_true, true_and, Bool.and_true, Bool.true_and, Bool.or_true, Bool.true_or, *])
end DL
set_option maxRecDepth 100000
set_option maxHeartbeats 400000
namespace DL
open PySem L2
section
variable {ρ ρ1 ρ2 : DL.Env} {h h1 h2 : Hh}
theorem xN : fNil ρ h = some ([], h) := rfl
theorem xC {E : EM} {g : AM} {w : W} {ws : List W} (he : E ρ h = some (w, h1)) (hg : g ρ h1 = some (ws, h2)) : fCons E g ρ h = some (w :: ws, h2) := by simp only [fCons, obnd, he, hg]
theorem xA {m : FM} {g : AM} {ws : List W} {r : Option (W × Hh)} (hg : g ρ h = some (ws, h1)) (hm : m ws h1 = r) : fA m g ρ h = r := by simp only [fA, obnd, hg, hm]
theorem x2 {f : W → W → Hh → Option (W × Hh)} {A B : EM} {x y : W} {r : Option (W × Hh)} (ha : A ρ h = some (x, h1)) (hb : B ρ h1 = some (y, h2)) (hf : f x y h2 = r) : f2 f A B ρ h = r := by simp only [f2, obnd, ha, hb, hf]
theorem xL {IT : IM} {k : TM} {f : EM} {vs : List Nat} {ds rs : List D} (hi : IT ρ h = some (ds, h1)) (e : lcL k bYes f (wipeE ρ vs) ds h1 = some (rs, h2)) (hl : rs.length ≤ sizeLine) : fLc false IT k bYes f vs ρ h = some (.dat (.list rs), h2) := by
  unfold fLc
  simp only [hi, obnd, e]
  rw [if_pos hl]
  rfl
theorem xS {E : EM} {x : D} {ds : List D} (he : E ρ h = some (.dat x, h1)) (hx : IsSeq x ds) : seqI E ρ h = some (ds, h1) := by
  unfold seqI
  simp only [he, obnd]
  rcases hx with rfl | rfl <;> rfl
theorem xT {E : EM} (he : E ρ h = some (.dat (.bool true), h1)) : bNot (fB E) ρ h = some (false, h1) := by
  unfold bNot fB
  simp only [he, obnd]
  rfl
theorem xO {A B : BM} {r : Option (Bool × Hh)} (ha : A ρ h = some (false, h1)) (hb : B ρ h1 = r) : bOr A B ρ h = r := by
  unfold bOr
  simp only [ha, obnd]
  exact hb
theorem xAnd {A B : EM} {r : Option (W × Hh)} (ha : A ρ h = some (.dat (.bool true), h1)) (hb : B ρ h1 = r) : fAnd A B ρ h = r := by
  unfold fAnd
  simp only [ha, obnd]
  exact hb
theorem xTup {x : D} {ds : List D} (hx : IsSeq x ds) : tupleW [.dat x] h = some (.dat (.tuple ds), h) := by rcases hx with rfl | rfl <;> rfl
theorem xList {x : D} {ds : List D} (hx : IsSeq x ds) : listW false [.dat x] h = some (.dat (.list ds), h) := by rcases hx with rfl | rfl <;> rfl
theorem xLst {ws : List W} {ds : List D} (e : dats ws = some ds) (hl : ds.length ≤ sizeLine) : lstW false ws h = some (.dat (.list ds), h) := by
  unfold lstW
  simp only [e, hl, if_true]
  rfl
theorem xTp {ws : List W} {ds : List D} (e : dats ws = some ds) (hl : ds.length ≤ sizeLine) : tupW ws h = some (.dat (.tuple ds), h) := by
  unfold tupW
  simp only [e, hl, if_true]
  rfl
theorem xK {n : Nat} {is : List Nat} {m : FM} {ws l : List W} {r : Option (W × Hh)} (hn : ws.length = n) (hp : permL is ws = some l) (hm : m l h = r) : kwM n is m ws h = r := by
  unfold kwM permM
  rw [if_pos hn, hp]
  exact hm
theorem zA {E : EM} {k : TM} {rest : SM} {w : W} (he : E ρ h = some (w, h1)) (hk : k w ρ h1 = some ρ1) : sSeq (sAsg E k) rest ρ h = rest ρ1 h1 := by
  unfold sSeq sAsg
  simp only [he, sbnd, hk]
theorem zI {t : BM} {a rest : SM} (ht : t ρ h = some (false, h1)) : sSeq (sIf t a sSkip) rest ρ h = rest ρ h1 := by
  unfold sSeq sIf
  simp only [ht, sbnd, Bool.false_eq_true, if_false, sSkip]
theorem zF {IT : IM} {k : TM} {body rest : SM} {ds : List D} (hi : IT ρ h = some (ds, h1)) (e : forL k body ds ρ h1 = some (.nx ρ2, h2)) : sSeq (sFor IT k body) rest ρ h = rest ρ2 h2 := by
  unfold sSeq sFor
  simp only [hi, sbnd, e]
theorem zP {g : AM} {is : List Nat} {rest : SM} {ws : List W} (hg : g ρ h = some (ws, h1)) (hl : ws.length = is.length) (hr : (is.zip ws).foldl (fun ρ p => ρ.set p.1 (some p.2)) ρ = ρ1) : sSeq (sPar g is) rest ρ h = rest ρ1 h1 := by
  unfold sSeq sPar
  simp only [hg, sbnd, hl, if_true, hr]
theorem zR {E : EM} {w : W} (he : E ρ h = some (w, h1)) : sRet E ρ h = some (.rt w, h1) := by
  unfold sRet
  simp only [he, sbnd]
theorem zZ {i : Nat} {f : SM} (e : frz i ρ h = some (ρ1, h1)) : sFrz i f ρ h = f ρ1 h1 := by
  unfold sFrz
  rw [e]
end
end DL
set_option maxRecDepth 100000
set_option maxHeartbeats 400000
namespace DL
open PySem L2
local macro_rules | `(tactic| walk_at "dl") => `(tactic| simp (config := { dsimp := false }) only [↓fnM_e, ↓sSeq_e, seqK_nx, seqK_rt, seqK_bk, seqK_ct, retK_rt, retK_nx, ↓sFrz_e, frK_some, ↓sAsg, ↓sRet, ↓sRetN, ↓sIf, ↓sExpr, ↓sSkip, ↓sNever, ↓sPar, ↓sFor, ↓sSub, ↓fVar, ↓fC, ↓fNil, ↓fCons, ↓fA, ↓f1, ↓f2, ↓fB, ↓fIf, ↓fNeg, ↓fNot, ↓fAnd, ↓fOr, ↓bNot, ↓bAnd, ↓bOr, ↓bYes, ↓obnd_x, ob_some, ↓sbnd_x, sb_some, ↓ite_x, iteK_t, iteK_f, gN, gT, gC, gE, ↓rng1I, ↓rng2I, ↓seqI, ↓enumA, ↓zipI, ↓strI, ↓fLc, ↓fDc, ↓fM, ↓fSl, ↓oNone, ↓oSome, ↓fRev, wipeE, ↓kwM, permM, permL, List.foldr, List.length_cons, List.length_nil, List.map_cons, List.map_nil, List.cons_append, List.nil_append, List.replicate, List.replicate_succ, List.replicate_zero, List.getElem?_cons_zero, List.getElem?_cons_succ, List.set_cons_zero, List.set_cons_succ, if_true, if_false, reduceIte, Nat.reduceAdd, Nat.reduceSub, Nat.reduceEqDiff, Nat.reduceLT, Nat.reduceLeDiff, Int.reduceLT, Int.reduceLE, Int.reduceNeg, Int.reduceMul, Int.reduceAdd, Int.reduceSub, Int.reduceToNat, Int.reducePow, Int.reduceEq, ok, bok, deref, mkL, lstW, tupW, dats, Option.map_some, appendW, insertW, setL, isL, listW, tupleW, lenW, absW, intC, maxW, minW, idxW, addW, subW_e, modW_e, divW_e, powW_e, mulW, intW, lt_e, gt_e, le_e, ge_e, ltW, allW_e, anyW_e, sumW_e, lW, setW, lstAt, cutW, backW, isW, isiW, iLT_none, iLT_bool, iLT_int, iLT_str, iLT_list, iLT_tup, iL_none, iL_bool, iL_int, iL_str, iL_list, iL_tup, iT_none, iT_bool, iT_int, iT_str, iT_list, iT_tup, iS_none, iS_bool, iS_int, iS_str, iS_list, iS_tup, iI_none, iI_bool, iI_int, iI_str, iI_list, iI_tup, iB_none, iB_bool, iB_int, iB_str, iB_list, iB_tup, Bool.false_eq_true, reduceCtorEq, Bool.not_true, Bool.not_false, decide_true, decide_false, List.zip_cons_cons, List.zip_nil_left, List.foldl_cons, List.foldl_nil, and_self, and_true, true_and, Bool.and_true, Bool.true_and, Bool.or_true, Bool.true_or, *])
end DL
set_option maxRecDepth 100000
set_option maxHeartbeats 400000
namespace DL
open PySem L2
local macro_rules | `(tactic| walk_at "dl") => `(tactic| simp (config := { dsimp := false }) only [↓fnM_e, ↓sSeq_e, seqK_nx, seqK_rt, seqK_bk, seqK_ct, retK_rt, retK_nx, ↓sFrz_e, frK_some, ↓sAsg, ↓sRet, ↓sRetN, ↓sIf, ↓sExpr, ↓sSkip, ↓sNever, ↓sPar, ↓sFor, ↓sSub, ↓fVar, ↓fC, ↓fNil, ↓fCons, ↓fA, ↓f1, ↓f2, ↓fB, ↓fIf, ↓fNeg, ↓fNot, ↓fAnd, ↓fOr, ↓bNot, ↓bAnd, ↓bOr, ↓bYes, ↓obnd_x, ob_some, ↓sbnd_x, sb_some, ↓ite_x, iteK_t, iteK_f, gN, gT, gC, gE, ↓rng1I, ↓rng2I, ↓seqI, ↓enumA, ↓zipI, ↓strI, ↓fLc, ↓fDc, ↓fM, ↓fSl, ↓oNone, ↓oSome, ↓fRev, wipeE, ↓kwM, permM, permL, List.foldr, List.length_cons, List.length_nil, List.map_cons, List.map_nil, List.cons_append, List.nil_append, List.replicate, List.replicate_succ, List.replicate_zero, List.getElem?_cons_zero, List.getElem?_cons_succ, List.set_cons_zero, List.set_cons_succ, if_true, if_false, reduceIte, Nat.reduceAdd, Nat.reduceSub, Nat.reduceEqDiff, Nat.reduceLT, Nat.reduceLeDiff, Int.reduceLT, Int.reduceLE, Int.reduceNeg, Int.reduceMul, Int.reduceAdd, Int.reduceSub, Int.reduceToNat, Int.reducePow, Int.reduceEq, ok, bok, deref, mkL, lstW, tupW, dats, Option.map_some, appendW, insertW, setL, isL, listW, tupleW, lenW, absW, intC, maxW, minW, idxW, addW, subW_e, modW_e, divW_e, powW_e, mulW, intW, lt_e, gt_e, le_e, ge_e, ltW, allW_e, anyW_e, sumW_e, lW, setW, lstAt, cutW, backW, isW, isiW, iLT_none, iLT_bool, iLT_int, iLT_str, iLT_list, iLT_tup, iL_none, iL_bool, iL_int, iL_str, iL_list, iL_tup, iT_none, iT_bool, iT_int, iT_str, iT_list, iT_tup, iS_none, iS_bool, iS_int, iS_str, iS_list, iS_tup, iI_none, iI_bool, iI_int, iI_str, iI_list, iI_tup, iB_none, iB_bool, iB_int, iB_str, iB_list, iB_tup, Bool.false_eq_true, reduceCtorEq, Bool.not_true, Bool.not_false, decide_true, decide_false, List.zip_cons_cons, List.zip_nil_left, List.foldl_cons, List.foldl_nil, and_self, and_true, true_and, Bool.and_true, Bool.true_and, Bool.or_true, Bool.true_or, *])
local macro_rules | `(tactic| walk_at "tg") => `(tactic| simp (config := { dsimp := false }) only [divBW_e, ↓fFld_e, ↓fMeth_e, ↓fMk_e, fld_n, fld_p, met_leads, met_then, met_times, met_made, met_tells, met_names, ↓fnM_e, ↓sSeq_e, seqK_nx, seqK_rt, seqK_bk, seqK_ct, retK_rt, retK_nx, ↓sFrz_e, frK_some, ↓sAsg, ↓sRet, ↓sRetN, ↓sIf, ↓sExpr, ↓sSkip, ↓sNever, ↓sPar, ↓sFor, ↓sSub, ↓fVar, ↓fC, ↓fNil, ↓fCons, ↓fA, ↓f1, ↓f2, ↓fB, ↓fIf, ↓fNeg, ↓fNot, ↓fAnd, ↓fOr, ↓bNot, ↓bAnd, ↓bOr, ↓bYes, ↓obnd_x, ob_some, ↓sbnd_x, sb_some, ↓ite_x, iteK_t, iteK_f, gN, gT, gC, gE, ↓rng1I, ↓rng2I, ↓seqI, ↓enumA, ↓zipI, ↓strI, ↓fLc, ↓fDc, ↓fM, ↓fSl, ↓oNone, ↓oSome, ↓fRev, wipeE, ↓kwM, permM, permL, List.foldr, List.length_cons, List.length_nil, List.map_cons, List.map_nil, List.cons_append, List.nil_append, List.replicate, List.replicate_succ, List.replicate_zero, List.getElem?_cons_zero, List.getElem?_cons_succ, List.set_cons_zero, List.set_cons_succ, if_true, if_false, reduceIte, Nat.reduceAdd, Nat.reduceSub, Nat.reduceEqDiff, Nat.reduceLT, Nat.reduceLeDiff, Int.reduceLT, Int.reduceLE, Int.reduceNeg, Int.reduceMul, Int.reduceAdd, Int.reduceSub, Int.reduceToNat, Int.reducePow, Int.reduceEq, ok, bok, deref, mkL, lstW, tupW, dats, Option.map_some, appendW, insertW, setL, isL, listW, tupleW, lenW, absW, intC, maxW, minW, idxW, addW, subW_e, modW_e, divW_e, powW_e, mulW, intW, lt_e, gt_e, le_e, ge_e, ltW, allW_e, anyW_e, sumW_e, lW, setW, lstAt, cutW, backW, isW, isiW, iLT_none, iLT_bool, iLT_int, iLT_str, iLT_list, iLT_tup, iL_none, iL_bool, iL_int, iL_str, iL_list, iL_tup, iT_none, iT_bool, iT_int, iT_str, iT_list, iT_tup, iS_none, iS_bool, iS_int, iS_str, iS_list, iS_tup, iI_none, iI_bool, iI_int, iI_str, iI_list, iI_tup, iB_none, iB_bool, iB_int, iB_str, iB_list, iB_tup, Bool.false_eq_true, reduceCtorEq, Bool.not_true, Bool.not_false, decide_true, decide_false, List.zip_cons_cons, List.zip_nil_left, List.foldl_cons, List.foldl_nil, and_self, and_true, true_and, Bool.and_true, Bool.true_and, Bool.or_true, Bool.true_or, *])
end DL
set_option maxRecDepth 100000
set_option maxHeartbeats 400000
namespace DL
open PySem L2
local macro_rules | `(tactic| walk_at "dl") => `(tactic| simp (config := { dsimp := false }) only [↓fnM_e, ↓sSeq_e, seqK_nx, seqK_rt, seqK_bk, seqK_ct, retK_rt, retK_nx, ↓sFrz_e, frK_some, ↓sAsg, ↓sRet, ↓sRetN, ↓sIf, ↓sExpr, ↓sSkip, ↓sNever, ↓sPar, ↓sFor, ↓sSub, ↓fVar, ↓fC, ↓fNil, ↓fCons, ↓fA, ↓f1, ↓f2, ↓fB, ↓fIf, ↓fNeg, ↓fNot, ↓fAnd, ↓fOr, ↓bNot, ↓bAnd, ↓bOr, ↓bYes, ↓obnd_x, ob_some, ↓sbnd_x, sb_some, ↓ite_x, iteK_t, iteK_f, gN, gT, gC, gE, ↓rng1I, ↓rng2I, ↓seqI, ↓enumA, ↓zipI, ↓strI, ↓fLc, ↓fDc, ↓fM, ↓fSl, ↓oNone, ↓oSome, ↓fRev, wipeE, ↓kwM, permM, permL, List.foldr, List.length_cons, List.length_nil, List.map_cons, List.map_nil, List.cons_append, List.nil_append, List.replicate, List.replicate_succ, List.replicate_zero, List.getElem?_cons_zero, List.getElem?_cons_succ, List.set_cons_zero, List.set_cons_succ, if_true, if_false, reduceIte, Nat.reduceAdd, Nat.reduceSub, Nat.reduceEqDiff, Nat.reduceLT, Nat.reduceLeDiff, Int.reduceLT, Int.reduceLE, Int.reduceNeg, Int.reduceMul, Int.reduceAdd, Int.reduceSub, Int.reduceToNat, Int.reducePow, Int.reduceEq, ok, bok, deref, mkL, lstW, tupW, dats, Option.map_some, appendW, insertW, setL, isL, listW, tupleW, lenW, absW, intC, maxW, minW, idxW, addW, subW_e, modW_e, divW_e, powW_e, mulW, intW, lt_e, gt_e, le_e, ge_e, ltW, allW_e, anyW_e, sumW_e, lW, setW, lstAt, cutW, backW, isW, isiW, iLT_none, iLT_bool, iLT_int, iLT_str, iLT_list, iLT_tup, iL_none, iL_bool, iL_int, iL_str, iL_list, iL_tup, iT_none, iT_bool, iT_int, iT_str, iT_list, iT_tup, iS_none, iS_bool, iS_int, iS_str, iS_list, iS_tup, iI_none, iI_bool, iI_int, iI_str, iI_list, iI_tup, iB_none, iB_bool, iB_int, iB_str, iB_list, iB_tup, Bool.false_eq_true, reduceCtorEq, Bool.not_true, Bool.not_false, decide_true, decide_false, List.zip_cons_cons, List.zip_nil_left, List.foldl_cons, List.foldl_nil, and_self, and_true, true_and, Bool.and_true, Bool.true_and, Bool.or_true, Bool.true_or, *])
end DL
set_option maxRecDepth 100000
set_option maxHeartbeats 400000
namespace DL
open PySem L2
local macro_rules | `(tactic| walk_at "dl") => `(tactic| simp (config := { dsimp := false }) only [↓fnM_e, ↓sSeq_e, seqK_nx, seqK_rt, seqK_bk, seqK_ct, retK_rt, retK_nx, ↓sFrz_e, frK_some, ↓sAsg, ↓sRet, ↓sRetN, ↓sIf, ↓sExpr, ↓sSkip, ↓sNever, ↓sPar, ↓sFor, ↓sSub, ↓fVar, ↓fC, ↓fNil, ↓fCons, ↓fA, ↓f1, ↓f2, ↓fB, ↓fIf, ↓fNeg, ↓fNot, ↓fAnd, ↓fOr, ↓bNot, ↓bAnd, ↓bOr, ↓bYes, ↓obnd_x, ob_some, ↓sbnd_x, sb_some, ↓ite_x, iteK_t, iteK_f, gN, gT, gC, gE, ↓rng1I, ↓rng2I, ↓seqI, ↓enumA, ↓zipI, ↓strI, ↓fLc, ↓fDc, ↓fM, ↓fSl, ↓oNone, ↓oSome, ↓fRev, wipeE, ↓kwM, permM, permL, List.foldr, List.length_cons, List.length_nil, List.map_cons, List.map_nil, List.cons_append, List.nil_append, List.replicate, List.replicate_succ, List.replicate_zero, List.getElem?_cons_zero, List.getElem?_cons_succ, List.set_cons_zero, List.set_cons_succ, if_true, if_false, reduceIte, Nat.reduceAdd, Nat.reduceSub, Nat.reduceEqDiff, Nat.reduceLT, Nat.reduceLeDiff, Int.reduceLT, Int.reduceLE, Int.reduceNeg, Int.reduceMul, Int.reduceAdd, Int.reduceSub, Int.reduceToNat, Int.reducePow, Int.reduceEq, ok, bok, deref, mkL, lstW, tupW, dats, Option.map_some, appendW, insertW, setL, isL, listW, tupleW, lenW, absW, intC, maxW, minW, idxW, addW, subW_e, modW_e, divW_e, powW_e, mulW, intW, lt_e, gt_e, le_e, ge_e, ltW, allW_e, anyW_e, sumW_e, lW, setW, lstAt, cutW, backW, isW, isiW, iLT_none, iLT_bool, iLT_int, iLT_str, iLT_list, iLT_tup, iL_none, iL_bool, iL_int, iL_str, iL_list, iL_tup, iT_none, iT_bool, iT_int, iT_str, iT_list, iT_tup, iS_none, iS_bool, iS_int, iS_str, iS_list, iS_tup, iI_none, iI_bool, iI_int, iI_str, iI_list, iI_tup, iB_none, iB_bool, iB_int, iB_str, iB_list, iB_tup, Bool.false_eq_true, reduceCtorEq, Bool.not_true, Bool.not_false, decide_true, decide_false, List.zip_cons_cons, List.zip_nil_left, List.foldl_cons, List.foldl_nil, and_self, and_true, true_and, Bool.and_true, Bool.true_and, Bool.or_true, Bool.true_or, *])
def EvP (t : Nat → Bool) (a k : Nat) : Prop := ∀ n, a ≤ n → t (n + k) = t n
theorem EvP.mono {t : Nat → Bool} {a b k : Nat} (h : EvP t a k) (q : a ≤ b) : EvP t b k := fun n hn => h n (by omega)
theorem nd_le {α : Type} [BEq α] [LawfulBEq α] : ∀ {l L : List α}, l.Nodup → (∀ x ∈ l, x ∈ L) → l.length ≤ L.length
  | [], L, _, _ => Nat.zero_le _
  | a :: l, L, nd, h => by
    obtain ⟨n1, n2⟩ := List.nodup_cons.mp nd
    have ha : a ∈ L := h a List.mem_cons_self
    have ih := nd_le (l := l) (L := L.erase a) n2 fun x hx => by
      have ne : x ≠ a := fun z => n1 (z ▸ hx)
      exact (List.mem_erase_of_ne ne).mpr (h x (List.mem_cons_of_mem _ hx))
    have e := List.length_erase_of_mem ha
    have : 0 < L.length := List.length_pos_of_mem ha
    rw [List.length_cons]
    omega
end DL
set_option maxRecDepth 100000
set_option maxHeartbeats 400000
namespace DL
open PySem L2
local macro_rules | `(tactic| walk_at "dl") => `(tactic| simp (config := { dsimp := false }) only [↓fnM_e, ↓sSeq_e, seqK_nx, seqK_rt, seqK_bk, seqK_ct, retK_rt, retK_nx, ↓sFrz_e, frK_some, ↓sAsg, ↓sRet, ↓sRetN, ↓sIf, ↓sExpr, ↓sSkip, ↓sNever, ↓sPar, ↓sFor, ↓sSub, ↓fVar, ↓fC, ↓fNil, ↓fCons, ↓fA, ↓f1, ↓f2, ↓fB, ↓fIf, ↓fNeg, ↓fNot, ↓fAnd, ↓fOr, ↓bNot, ↓bAnd, ↓bOr, ↓bYes, ↓obnd_x, ob_some, ↓sbnd_x, sb_some, ↓ite_x, iteK_t, iteK_f, gN, gT, gC, gE, ↓rng1I, ↓rng2I, ↓seqI, ↓enumA, ↓zipI, ↓strI, ↓fLc, ↓fDc, ↓fM, ↓fSl, ↓oNone, ↓oSome, ↓fRev, wipeE, ↓kwM, permM, permL, List.foldr, List.length_cons, List.length_nil, List.map_cons, List.map_nil, List.cons_append, List.nil_append, List.replicate, List.replicate_succ, List.replicate_zero, List.getElem?_cons_zero, List.getElem?_cons_succ, List.set_cons_zero, List.set_cons_succ, if_true, if_false, reduceIte, Nat.reduceAdd, Nat.reduceSub, Nat.reduceEqDiff, Nat.reduceLT, Nat.reduceLeDiff, Int.reduceLT, Int.reduceLE, Int.reduceNeg, Int.reduceMul, Int.reduceAdd, Int.reduceSub, Int.reduceToNat, Int.reducePow, Int.reduceEq, ok, bok, deref, mkL, lstW, tupW, dats, Option.map_some, appendW, insertW, setL, isL, listW, tupleW, lenW, absW, intC, maxW, minW, idxW, addW, subW_e, modW_e, divW_e, powW_e, mulW, intW, lt_e, gt_e, le_e, ge_e, ltW, allW_e, anyW_e, sumW_e, lW, setW, lstAt, cutW, backW, isW, isiW, iLT_none, iLT_bool, iLT_int, iLT_str, iLT_list, iLT_tup, iL_none, iL_bool, iL_int, iL_str, iL_list, iL_tup, iT_none, iT_bool, iT_int, iT_str, iT_list, iT_tup, iS_none, iS_bool, iS_int, iS_str, iS_list, iS_tup, iI_none, iI_bool, iI_int, iI_str, iI_list, iI_tup, iB_none, iB_bool, iB_int, iB_str, iB_list, iB_tup, Bool.false_eq_true, reduceCtorEq, Bool.not_true, Bool.not_false, decide_true, decide_false, List.zip_cons_cons, List.zip_nil_left, List.foldl_cons, List.foldl_nil, and_self, and_true, true_and, Bool.and_true, Bool.true_and, Bool.or_true, Bool.true_or, *])
end DL
set_option maxRecDepth 100000
set_option maxHeartbeats 400000
namespace DL
open PySem L2
local macro_rules | `(tactic| walk_at "dl") => `(tactic| simp (config := { dsimp := false }) only [↓fnM_e, ↓sSeq_e, seqK_nx, seqK_rt, seqK_bk, seqK_ct, retK_rt, retK_nx, ↓sFrz_e, frK_some, ↓sAsg, ↓sRet, ↓sRetN, ↓sIf, ↓sExpr, ↓sSkip, ↓sNever, ↓sPar, ↓sFor, ↓sSub, ↓fVar, ↓fC, ↓fNil, ↓fCons, ↓fA, ↓f1, ↓f2, ↓fB, ↓fIf, ↓fNeg, ↓fNot, ↓fAnd, ↓fOr, ↓bNot, ↓bAnd, ↓bOr, ↓bYes, ↓obnd_x, ob_some, ↓sbnd_x, sb_some, ↓ite_x, iteK_t, iteK_f, gN, gT, gC, gE, ↓rng1I, ↓rng2I, ↓seqI, ↓enumA, ↓zipI, ↓strI, ↓fLc, ↓fDc, ↓fM, ↓fSl, ↓oNone, ↓oSome, ↓fRev, wipeE, ↓kwM, permM, permL, List.foldr, List.length_cons, List.length_nil, List.map_cons, List.map_nil, List.cons_append, List.nil_append, List.replicate, List.replicate_succ, List.replicate_zero, List.getElem?_cons_zero, List.getElem?_cons_succ, List.set_cons_zero, List.set_cons_succ, if_true, if_false, reduceIte, Nat.reduceAdd, Nat.reduceSub, Nat.reduceEqDiff, Nat.reduceLT, Nat.reduceLeDiff, Int.reduceLT, Int.reduceLE, Int.reduceNeg, Int.reduceMul, Int.reduceAdd, Int.reduceSub, Int.reduceToNat, Int.reducePow, Int.reduceEq, ok, bok, deref, mkL, lstW, tupW, dats, Option.map_some, appendW, insertW, setL, isL, listW, tupleW, lenW, absW, intC, maxW, minW, idxW, addW, subW_e, modW_e, divW_e, powW_e, mulW, intW, lt_e, gt_e, le_e, ge_e, ltW, allW_e, anyW_e, sumW_e, lW, setW, lstAt, cutW, backW, isW, isiW, iLT_none, iLT_bool, iLT_int, iLT_str, iLT_list, iLT_tup, iL_none, iL_bool, iL_int, iL_str, iL_list, iL_tup, iT_none, iT_bool, iT_int, iT_str, iT_list, iT_tup, iS_none, iS_bool, iS_int, iS_str, iS_list, iS_tup, iI_none, iI_bool, iI_int, iI_str, iI_list, iI_tup, iB_none, iB_bool, iB_int, iB_str, iB_list, iB_tup, Bool.false_eq_true, reduceCtorEq, Bool.not_true, Bool.not_false, decide_true, decide_false, List.zip_cons_cons, List.zip_nil_left, List.foldl_cons, List.foldl_nil, and_self, and_true, true_and, Bool.and_true, Bool.true_and, Bool.or_true, Bool.true_or, *])
end DL
set_option maxRecDepth 100000
set_option maxHeartbeats 400000
namespace DL
open PySem L2
local macro_rules | `(tactic| walk_at "dl") => `(tactic| simp (config := { dsimp := false }) only [↓fnM_e, ↓sSeq_e, seqK_nx, seqK_rt, seqK_bk, seqK_ct, retK_rt, retK_nx, ↓sFrz_e, frK_some, ↓sAsg, ↓sRet, ↓sRetN, ↓sIf, ↓sExpr, ↓sSkip, ↓sNever, ↓sPar, ↓sFor, ↓sSub, ↓fVar, ↓fC, ↓fNil, ↓fCons, ↓fA, ↓f1, ↓f2, ↓fB, ↓fIf, ↓fNeg, ↓fNot, ↓fAnd, ↓fOr, ↓bNot, ↓bAnd, ↓bOr, ↓bYes, ↓obnd_x, ob_some, ↓sbnd_x, sb_some, ↓ite_x, iteK_t, iteK_f, gN, gT, gC, gE, ↓rng1I, ↓rng2I, ↓seqI, ↓enumA, ↓zipI, ↓strI, ↓fLc, ↓fDc, ↓fM, ↓fSl, ↓oNone, ↓oSome, ↓fRev, wipeE, ↓kwM, permM, permL, List.foldr, List.length_cons, List.length_nil, List.map_cons, List.map_nil, List.cons_append, List.nil_append, List.replicate, List.replicate_succ, List.replicate_zero, List.getElem?_cons_zero, List.getElem?_cons_succ, List.set_cons_zero, List.set_cons_succ, if_true, if_false, reduceIte, Nat.reduceAdd, Nat.reduceSub, Nat.reduceEqDiff, Nat.reduceLT, Nat.reduceLeDiff, Int.reduceLT, Int.reduceLE, Int.reduceNeg, Int.reduceMul, Int.reduceAdd, Int.reduceSub, Int.reduceToNat, Int.reducePow, Int.reduceEq, ok, bok, deref, mkL, lstW, tupW, dats, Option.map_some, appendW, insertW, setL, isL, listW, tupleW, lenW, absW, intC, maxW, minW, idxW, addW, subW_e, modW_e, divW_e, powW_e, mulW, intW, lt_e, gt_e, le_e, ge_e, ltW, allW_e, anyW_e, sumW_e, lW, setW, lstAt, cutW, backW, isW, isiW, iLT_none, iLT_bool, iLT_int, iLT_str, iLT_list, iLT_tup, iL_none, iL_bool, iL_int, iL_str, iL_list, iL_tup, iT_none, iT_bool, iT_int, iT_str, iT_list, iT_tup, iS_none, iS_bool, iS_int, iS_str, iS_list, iS_tup, iI_none, iI_bool, iI_int, iI_str, iI_list, iI_tup, iB_none, iB_bool, iB_int, iB_str, iB_list, iB_tup, Bool.false_eq_true, reduceCtorEq, Bool.not_true, Bool.not_false, decide_true, decide_false, List.zip_cons_cons, List.zip_nil_left, List.foldl_cons, List.foldl_nil, and_self, and_true, true_and, Bool.and_true, Bool.true_and, Bool.or_true, Bool.true_or, *])
theorem sIx_m1 (n d : Nat) : HT.sIx n d (some (-1)) = n - 1 := by
  have e : HT.sIx n d (some (-1)) = ((-1 : Int) + (n : Int)).toNat := rfl
  rw [e]
  omega
theorem cut_lastG {α : Type} (xs : List α) : cutG xs (some (-1)) none = xs.drop (xs.length - 1) := by
  unfold cutG
  rw [sIx_m1, HT.sIx_none, ← List.length_drop, List.take_length]
def tl (t : Nat → Bool) (a n : Nat) : List Bool := (List.range n).map fun s => t (a + s)
theorem neg1 {ρ : DL.Env} {h : Hh} : fNeg (fC (.int 1)) ρ h = some (.dat (.int (-1)), h) := rfl
end DL
set_option maxRecDepth 100000
set_option maxHeartbeats 400000
namespace DL
open PySem L2
end DL
set_option maxRecDepth 100000
set_option maxHeartbeats 400000
namespace DL
open PySem L2
local macro_rules | `(tactic| walk_at "dl") => `(tactic| simp (config := { dsimp := false }) only [↓fnM_e, ↓sSeq_e, seqK_nx, seqK_rt, seqK_bk, seqK_ct, retK_rt, retK_nx, ↓sFrz_e, frK_some, ↓sAsg, ↓sRet, ↓sRetN, ↓sIf, ↓sExpr, ↓sSkip, ↓sNever, ↓sPar, ↓sFor, ↓sSub, ↓fVar, ↓fC, ↓fNil, ↓fCons, ↓fA, ↓f1, ↓f2, ↓fB, ↓fIf, ↓fNeg, ↓fNot, ↓fAnd, ↓fOr, ↓bNot, ↓bAnd, ↓bOr, ↓bYes, ↓obnd_x, ob_some, ↓sbnd_x, sb_some, ↓ite_x, iteK_t, iteK_f, gN, gT, gC, gE, ↓rng1I, ↓rng2I, ↓seqI, ↓enumA, ↓zipI, ↓strI, ↓fLc, ↓fDc, ↓fM, ↓fSl, ↓oNone, ↓oSome, ↓fRev, wipeE, ↓kwM, permM, permL, List.foldr, List.length_cons, List.length_nil, List.map_cons, List.map_nil, List.cons_append, List.nil_append, List.replicate, List.replicate_succ, List.replicate_zero, List.getElem?_cons_zero, List.getElem?_cons_succ, List.set_cons_zero, List.set_cons_succ, if_true, if_false, reduceIte, Nat.reduceAdd, Nat.reduceSub, Nat.reduceEqDiff, Nat.reduceLT, Nat.reduceLeDiff, Int.reduceLT, Int.reduceLE, Int.reduceNeg, Int.reduceMul, Int.reduceAdd, Int.reduceSub, Int.reduceToNat, Int.reducePow, Int.reduceEq, ok, bok, deref, mkL, lstW, tupW, dats, Option.map_some, appendW, insertW, setL, isL, listW, tupleW, lenW, absW, intC, maxW, minW, idxW, addW, subW_e, modW_e, divW_e, powW_e, mulW, intW, lt_e, gt_e, le_e, ge_e, ltW, allW_e, anyW_e, sumW_e, lW, setW, lstAt, cutW, backW, isW, isiW, iLT_none, iLT_bool, iLT_int, iLT_str, iLT_list, iLT_tup, iL_none, iL_bool, iL_int, iL_str, iL_list, iL_tup, iT_none, iT_bool, iT_int, iT_str, iT_list, iT_tup, iS_none, iS_bool, iS_int, iS_str, iS_list, iS_tup, iI_none, iI_bool, iI_int, iI_str, iI_list, iI_tup, iB_none, iB_bool, iB_int, iB_str, iB_list, iB_tup, Bool.false_eq_true, reduceCtorEq, Bool.not_true, Bool.not_false, decide_true, decide_false, List.zip_cons_cons, List.zip_nil_left, List.foldl_cons, List.foldl_nil, and_self, and_true, true_and, Bool.and_true, Bool.true_and, Bool.or_true, Bool.true_or, *])
local macro_rules | `(tactic| walk_at "tb") => `(tactic| simp (config := { dsimp := false }) only [↓fFld_e, ↓fMeth_e, ↓fMk_e, fld_n, fld_p, met_leads, met_then, met_times, met_made, met_tells, met_names, ↓fnM_e, ↓sSeq_e, seqK_nx, seqK_rt, seqK_bk, seqK_ct, retK_rt, retK_nx, ↓sFrz_e, frK_some, ↓sAsg, ↓sRet, ↓sRetN, ↓sIf, ↓sExpr, ↓sSkip, ↓sNever, ↓sPar, ↓sFor, ↓sSub, ↓fVar, ↓fC, ↓fNil, ↓fCons, ↓fA, ↓f1, ↓f2, ↓fB, ↓fIf, ↓fNeg, ↓fNot, ↓fAnd, ↓fOr, ↓bNot, ↓bAnd, ↓bOr, ↓bYes, ↓obnd_x, ob_some, ↓sbnd_x, sb_some, ↓ite_x, iteK_t, iteK_f, gN, gT, gC, gE, ↓rng1I, ↓rng2I, ↓seqI, ↓enumA, ↓zipI, ↓strI, ↓fLc, ↓fDc, ↓fM, ↓fSl, ↓oNone, ↓oSome, ↓fRev, wipeE, ↓kwM, permM, permL, List.foldr, List.length_cons, List.length_nil, List.map_cons, List.map_nil, List.cons_append, List.nil_append, List.replicate, List.replicate_succ, List.replicate_zero, List.getElem?_cons_zero, List.getElem?_cons_succ, List.set_cons_zero, List.set_cons_succ, if_true, if_false, reduceIte, Nat.reduceAdd, Nat.reduceSub, Nat.reduceEqDiff, Nat.reduceLT, Nat.reduceLeDiff, Int.reduceLT, Int.reduceLE, Int.reduceNeg, Int.reduceMul, Int.reduceAdd, Int.reduceSub, Int.reduceToNat, Int.reducePow, Int.reduceEq, ok, bok, deref, mkL, lstW, tupW, dats, Option.map_some, appendW, insertW, setL, isL, listW, tupleW, lenW, absW, intC, maxW, minW, idxW, addW, subW_e, modW_e, divW_e, powW_e, mulW, intW, lt_e, gt_e, le_e, ge_e, ltW, allW_e, anyW_e, sumW_e, lW, setW, lstAt, cutW, backW, isW, isiW, iLT_none, iLT_bool, iLT_int, iLT_str, iLT_list, iLT_tup, iL_none, iL_bool, iL_int, iL_str, iL_list, iL_tup, iT_none, iT_bool, iT_int, iT_str, iT_list, iT_tup, iS_none, iS_bool, iS_int, iS_str, iS_list, iS_tup, iI_none, iI_bool, iI_int, iI_str, iI_list, iI_tup, iB_none, iB_bool, iB_int, iB_str, iB_list, iB_tup, Bool.false_eq_true, reduceCtorEq, Bool.not_true, Bool.not_false, decide_true, decide_false, List.zip_cons_cons, List.zip_nil_left, List.foldl_cons, List.foldl_nil, and_self, and_true, true_and, Bool.and_true, Bool.true_and, Bool.or_true, Bool.true_or, *])
end DL
set_option maxRecDepth 100000
set_option maxHeartbeats 400000
namespace DL
open PySem L2
local macro_rules | `(tactic| walk_at "tb") => `(tactic| simp (config := { dsimp := false }) only [↓fFld_e, ↓fMeth_e, ↓fMk_e, fld_n, fld_p, met_leads, met_then, met_times, met_made, met_tells, met_names, ↓fnM_e, ↓sSeq_e, seqK_nx, seqK_rt, seqK_bk, seqK_ct, retK_rt, retK_nx, ↓sFrz_e, frK_some, ↓sAsg, ↓sRet, ↓sRetN, ↓sIf, ↓sExpr, ↓sSkip, ↓sNever, ↓sPar, ↓sFor, ↓sSub, ↓fVar, ↓fC, ↓fNil, ↓fCons, ↓fA, ↓f1, ↓f2, ↓fB, ↓fIf, ↓fNeg, ↓fNot, ↓fAnd, ↓fOr, ↓bNot, ↓bAnd, ↓bOr, ↓bYes, ↓obnd_x, ob_some, ↓sbnd_x, sb_some, ↓ite_x, iteK_t, iteK_f, gN, gT, gC, gE, ↓rng1I, ↓rng2I, ↓seqI, ↓enumA, ↓zipI, ↓strI, ↓fLc, ↓fDc, ↓fM, ↓fSl, ↓oNone, ↓oSome, ↓fRev, wipeE, ↓kwM, permM, permL, List.foldr, List.length_cons, List.length_nil, List.map_cons, List.map_nil, List.cons_append, List.nil_append, List.replicate, List.replicate_succ, List.replicate_zero, List.getElem?_cons_zero, List.getElem?_cons_succ, List.set_cons_zero, List.set_cons_succ, if_true, if_false, reduceIte, Nat.reduceAdd, Nat.reduceSub, Nat.reduceEqDiff, Nat.reduceLT, Nat.reduceLeDiff, Int.reduceLT, Int.reduceLE, Int.reduceNeg, Int.reduceMul, Int.reduceAdd, Int.reduceSub, Int.reduceToNat, Int.reducePow, Int.reduceEq, ok, bok, deref, mkL, lstW, tupW, dats, Option.map_some, appendW, insertW, setL, isL, listW, tupleW, lenW, absW, intC, maxW, minW, idxW, addW, subW_e, modW_e, divW_e, powW_e, mulW, intW, lt_e, gt_e, le_e, ge_e, ltW, allW_e, anyW_e, sumW_e, lW, setW, lstAt, cutW, backW, isW, isiW, iLT_none, iLT_bool, iLT_int, iLT_str, iLT_list, iLT_tup, iL_none, iL_bool, iL_int, iL_str, iL_list, iL_tup, iT_none, iT_bool, iT_int, iT_str, iT_list, iT_tup, iS_none, iS_bool, iS_int, iS_str, iS_list, iS_tup, iI_none, iI_bool, iI_int, iI_str, iI_list, iI_tup, iB_none, iB_bool, iB_int, iB_str, iB_list, iB_tup, Bool.false_eq_true, reduceCtorEq, Bool.not_true, Bool.not_false, decide_true, decide_false, List.zip_cons_cons, List.zip_nil_left, List.foldl_cons, List.foldl_nil, and_self, and_true, true_and, Bool.and_true, Bool.true_and, Bool.or_true, Bool.true_or, *])
end DL
set_option maxRecDepth 100000
set_option maxHeartbeats 400000
namespace DL
open PySem L2
local macro_rules | `(tactic| walk_at "dl") => `(tactic| simp (config := { dsimp := false }) only [↓fnM_e, ↓sSeq_e, seqK_nx, seqK_rt, seqK_bk, seqK_ct, retK_rt, retK_nx, ↓sFrz_e, frK_some, ↓sAsg, ↓sRet, ↓sRetN, ↓sIf, ↓sExpr, ↓sSkip, ↓sNever, ↓sPar, ↓sFor, ↓sSub, ↓fVar, ↓fC, ↓fNil, ↓fCons, ↓fA, ↓f1, ↓f2, ↓fB, ↓fIf, ↓fNeg, ↓fNot, ↓fAnd, ↓fOr, ↓bNot, ↓bAnd, ↓bOr, ↓bYes, ↓obnd_x, ob_some, ↓sbnd_x, sb_some, ↓ite_x, iteK_t, iteK_f, gN, gT, gC, gE, ↓rng1I, ↓rng2I, ↓seqI, ↓enumA, ↓zipI, ↓strI, ↓fLc, ↓fDc, ↓fM, ↓fSl, ↓oNone, ↓oSome, ↓fRev, wipeE, ↓kwM, permM, permL, List.foldr, List.length_cons, List.length_nil, List.map_cons, List.map_nil, List.cons_append, List.nil_append, List.replicate, List.replicate_succ, List.replicate_zero, List.getElem?_cons_zero, List.getElem?_cons_succ, List.set_cons_zero, List.set_cons_succ, if_true, if_false, reduceIte, Nat.reduceAdd, Nat.reduceSub, Nat.reduceEqDiff, Nat.reduceLT, Nat.reduceLeDiff, Int.reduceLT, Int.reduceLE, Int.reduceNeg, Int.reduceMul, Int.reduceAdd, Int.reduceSub, Int.reduceToNat, Int.reducePow, Int.reduceEq, ok, bok, deref, mkL, lstW, tupW, dats, Option.map_some, appendW, insertW, setL, isL, listW, tupleW, lenW, absW, intC, maxW, minW, idxW, addW, subW_e, modW_e, divW_e, powW_e, mulW, intW, lt_e, gt_e, le_e, ge_e, ltW, allW_e, anyW_e, sumW_e, lW, setW, lstAt, cutW, backW, isW, isiW, iLT_none, iLT_bool, iLT_int, iLT_str, iLT_list, iLT_tup, iL_none, iL_bool, iL_int, iL_str, iL_list, iL_tup, iT_none, iT_bool, iT_int, iT_str, iT_list, iT_tup, iS_none, iS_bool, iS_int, iS_str, iS_list, iS_tup, iI_none, iI_bool, iI_int, iI_str, iI_list, iI_tup, iB_none, iB_bool, iB_int, iB_str, iB_list, iB_tup, Bool.false_eq_true, reduceCtorEq, Bool.not_true, Bool.not_false, decide_true, decide_false, List.zip_cons_cons, List.zip_nil_left, List.foldl_cons, List.foldl_nil, and_self, and_true, true_and, Bool.and_true, Bool.true_and, Bool.or_true, Bool.true_or, *])
theorem fnM_rt {rm : Bool} {np nl : Nat} {body : SM} {ws : List W} {h h' : Hh} {w : W} {r : Option (W × Hh)} (hb : body (ws.map some ++ List.replicate (nl - np) none) h = some (.rt w, h')) (e : ws.length = np) (lv : leave rm h w h' = r) : fnM rm np nl body ws h = r := by
  rw [fnM_e _ _ _ _ _ _ e, hb, retK_rt, lv]
section
variable {h : Hh}
theorem add_i {i j : Int} : addW false (.dat (.int i)) (.dat (.int j)) h = some (.dat (.int (i + j)), h) := rfl
theorem xB {E : EM} {ρ : DL.Env} {b : Bool} (e : E ρ h = some (.dat (.bool b), h)) : fB E ρ h = some (b, h) := by
  unfold fB
  simp only [e, obnd]
theorem all_b {bs : List Bool} {b : Bool} (e : bs.all id = b) : allW [.dat (.list (bs.map .bool))] h = some (.dat (.bool b), h) := by
  have ba : bools (bs.map PyData.bool) = some bs := by have := bools_map (fun b : Bool => b) bs; rwa [List.map_id'] at this
  unfold allW lW
  simp only [deref, ba, e]
  rfl
theorem eq_i {i j : Int} {b : Bool} (hb : decide (i = j) = b) : eqW false (.dat (.int i)) (.dat (.int j)) h = some (.dat (.bool b), h) := by
  rw [eqW_ints, if_neg (by simp), hb]; rfl
end
abbrev zz : Str := "zz"
end DL
set_option maxRecDepth 100000
set_option maxHeartbeats 400000
namespace DL
open PySem L2
structure Grow (b : Nat) (h h' : Hh) : Prop where
  le : h.length ≤ h'.length
  off : ∀ i : Nat, i < h.length → i ≠ b → h'[i]? = h[i]?
theorem Grow.only {b : Nat} {h h' : Hh} (o : Only b h h') : Grow b h h' := ⟨by rw [o.len]; exact Nat.le_refl _, fun i _ n => o.off i n⟩
theorem Grow.app {b : Nat} {h l : Hh} : Grow b h (h ++ l) := ⟨by rw [List.length_append]; omega, fun i hi _ => List.getElem?_append_left hi⟩
theorem Grow.trans {b : Nat} {h h1 h2 : Hh} (x : Grow b h h1) (y : Grow b h1 h2) : Grow b h h2 := ⟨Nat.le_trans x.le y.le, fun i hi n => (y.off i (Nat.lt_of_lt_of_le hi x.le) n).trans (x.off i hi n)⟩
theorem Grow.fin {b c c' : Nat} {h h' : Hh} (x : Grow b h h') (hb : BoxAt h b c) (y : BoxAt h' b c') : (∀ d : D, leave false h (.dat d) h' = some (.dat d, h'.take h.length)) ∧ BoxAt (h'.take h.length) b c' ∧ Only b h (h'.take h.length) := by
  have hl : (h'.take h.length).length = h.length := by rw [List.length_take]; have := x.le; omega
  have o : Only b h (h'.take h.length) := ⟨hl, fun i n => by
    by_cases q : i < h.length
    · rw [List.getElem?_take_of_lt q]; exact x.off i q n
    · rw [List.getElem?_eq_none (by omega), List.getElem?_eq_none (by omega)]⟩
  have bx := box_take y hb.lt
  exact ⟨fun d => leave_dat (live_only hb bx o), bx, o⟩
theorem Pre.grow {h0 h h' : Hh} {b : Nat} (p : Pre h0 h) (hb : h0.length ≤ b) (hl : h0.length ≤ h.length) (x : Grow b h h') : Pre h0 h' := fun i hi => (x.off i (by omega) (by omega)).trans (p i hi)
end DL
set_option maxRecDepth 100000
set_option maxHeartbeats 400000
namespace DL
open PySem L2
local macro_rules | `(tactic| walk_at "dl") => `(tactic| simp (config := { dsimp := false }) only [↓fnM_e, ↓sSeq_e, seqK_nx, seqK_rt, seqK_bk, seqK_ct, retK_rt, retK_nx, ↓sFrz_e, frK_some, ↓sAsg, ↓sRet, ↓sRetN, ↓sIf, ↓sExpr, ↓sSkip, ↓sNever, ↓sPar, ↓sFor, ↓sSub, ↓fVar, ↓fC, ↓fNil, ↓fCons, ↓fA, ↓f1, ↓f2, ↓fB, ↓fIf, ↓fNeg, ↓fNot, ↓fAnd, ↓fOr, ↓bNot, ↓bAnd, ↓bOr, ↓bYes, ↓obnd_x, ob_some, ↓sbnd_x, sb_some, ↓ite_x, iteK_t, iteK_f, gN, gT, gC, gE, ↓rng1I, ↓rng2I, ↓seqI, ↓enumA, ↓zipI, ↓strI, ↓fLc, ↓fDc, ↓fM, ↓fSl, ↓oNone, ↓oSome, ↓fRev, wipeE, ↓kwM, permM, permL, List.foldr, List.length_cons, List.length_nil, List.map_cons, List.map_nil, List.cons_append, List.nil_append, List.replicate, List.replicate_succ, List.replicate_zero, List.getElem?_cons_zero, List.getElem?_cons_succ, List.set_cons_zero, List.set_cons_succ, if_true, if_false, reduceIte, Nat.reduceAdd, Nat.reduceSub, Nat.reduceEqDiff, Nat.reduceLT, Nat.reduceLeDiff, Int.reduceLT, Int.reduceLE, Int.reduceNeg, Int.reduceMul, Int.reduceAdd, Int.reduceSub, Int.reduceToNat, Int.reducePow, Int.reduceEq, ok, bok, deref, mkL, lstW, tupW, dats, Option.map_some, appendW, insertW, setL, isL, listW, tupleW, lenW, absW, intC, maxW, minW, idxW, addW, subW_e, modW_e, divW_e, powW_e, mulW, intW, lt_e, gt_e, le_e, ge_e, ltW, allW_e, anyW_e, sumW_e, lW, setW, lstAt, cutW, backW, isW, isiW, iLT_none, iLT_bool, iLT_int, iLT_str, iLT_list, iLT_tup, iL_none, iL_bool, iL_int, iL_str, iL_list, iL_tup, iT_none, iT_bool, iT_int, iT_str, iT_list, iT_tup, iS_none, iS_bool, iS_int, iS_str, iS_list, iS_tup, iI_none, iI_bool, iI_int, iI_str, iI_list, iI_tup, iB_none, iB_bool, iB_int, iB_str, iB_list, iB_tup, Bool.false_eq_true, reduceCtorEq, Bool.not_true, Bool.not_false, decide_true, decide_false, List.zip_cons_cons, List.zip_nil_left, List.foldl_cons, List.foldl_nil, and_self, and_true, true_and, Bool.and_true, Bool.true_and, Bool.or_true, Bool.true_or, *])
local macro_rules | `(tactic| walk_at "tb") => `(tactic| simp (config := { dsimp := false }) only [↓fFld_e, ↓fMeth_e, ↓fMk_e, fld_n, fld_p, met_leads, met_then, met_times, met_made, met_tells, met_names, ↓fnM_e, ↓sSeq_e, seqK_nx, seqK_rt, seqK_bk, seqK_ct, retK_rt, retK_nx, ↓sFrz_e, frK_some, ↓sAsg, ↓sRet, ↓sRetN, ↓sIf, ↓sExpr, ↓sSkip, ↓sNever, ↓sPar, ↓sFor, ↓sSub, ↓fVar, ↓fC, ↓fNil, ↓fCons, ↓fA, ↓f1, ↓f2, ↓fB, ↓fIf, ↓fNeg, ↓fNot, ↓fAnd, ↓fOr, ↓bNot, ↓bAnd, ↓bOr, ↓bYes, ↓obnd_x, ob_some, ↓sbnd_x, sb_some, ↓ite_x, iteK_t, iteK_f, gN, gT, gC, gE, ↓rng1I, ↓rng2I, ↓seqI, ↓enumA, ↓zipI, ↓strI, ↓fLc, ↓fDc, ↓fM, ↓fSl, ↓oNone, ↓oSome, ↓fRev, wipeE, ↓kwM, permM, permL, List.foldr, List.length_cons, List.length_nil, List.map_cons, List.map_nil, List.cons_append, List.nil_append, List.replicate, List.replicate_succ, List.replicate_zero, List.getElem?_cons_zero, List.getElem?_cons_succ, List.set_cons_zero, List.set_cons_succ, if_true, if_false, reduceIte, Nat.reduceAdd, Nat.reduceSub, Nat.reduceEqDiff, Nat.reduceLT, Nat.reduceLeDiff, Int.reduceLT, Int.reduceLE, Int.reduceNeg, Int.reduceMul, Int.reduceAdd, Int.reduceSub, Int.reduceToNat, Int.reducePow, Int.reduceEq, ok, bok, deref, mkL, lstW, tupW, dats, Option.map_some, appendW, insertW, setL, isL, listW, tupleW, lenW, absW, intC, maxW, minW, idxW, addW, subW_e, modW_e, divW_e, powW_e, mulW, intW, lt_e, gt_e, le_e, ge_e, ltW, allW_e, anyW_e, sumW_e, lW, setW, lstAt, cutW, backW, isW, isiW, iLT_none, iLT_bool, iLT_int, iLT_str, iLT_list, iLT_tup, iL_none, iL_bool, iL_int, iL_str, iL_list, iL_tup, iT_none, iT_bool, iT_int, iT_str, iT_list, iT_tup, iS_none, iS_bool, iS_int, iS_str, iS_list, iS_tup, iI_none, iI_bool, iI_int, iI_str, iI_list, iI_tup, iB_none, iB_bool, iB_int, iB_str, iB_list, iB_tup, Bool.false_eq_true, reduceCtorEq, Bool.not_true, Bool.not_false, decide_true, decide_false, List.zip_cons_cons, List.zip_nil_left, List.foldl_cons, List.foldl_nil, and_self, and_true, true_and, Bool.and_true, Bool.true_and, Bool.or_true, Bool.true_or, *])
end DL
set_option maxRecDepth 100000
set_option maxHeartbeats 400000
namespace DL
open PySem L2
section
variable {ρ ρ1 : DL.Env} {h h1 h2 : Hh}
theorem yA {r : FR} {g : AM} {ws : List W} {z : Option (Xc × Hh)} (e : g ρ h = some (ws, h1)) (q : r ws h1 = z) : rA r g ρ h = z := by
  unfold rA; rw [e]; exact q
theorem yX {r : RE} {x : Xc} (e : r ρ h = some (x, h1)) : rX r ρ h = some ((ρ, x), h1) := by
  unfold rX; rw [e]
theorem yIt {t : BM} {r1 r2 : RM} {z : Option ((DL.Env × Xc) × Hh)} (e : t ρ h = some (true, h1)) (q : r1 ρ h1 = z) : rIf t r1 r2 ρ h = z := by
  unfold rIf; rw [e]; exact q
theorem yFn {n N : Nat} {r : RM} {ws : List W} {x : Xc} {h' g : Hh} (e : r (ws.map some ++ List.replicate (N - n) none) h = some ((ρ, x), h')) (hl : ws.length = n) (lv : live (h'.take h.length) = live h) (ht : h'.take h.length = g) : fnR n N r ws h = some (x, g) := by
  unfold fnR; rw [if_pos hl, e]; dsimp only; rw [if_pos lv, ht]
theorem yFs {n N : Nat} {r : RM} {ws : List W} {x : Xc} (e : r (ws.map some ++ List.replicate (N - n) none) h = some ((ρ, x), h)) (hl : ws.length = n) : fnR n N r ws h = some (x, h) :=
  yFn e hl (by rw [List.take_length]) (List.take_length)
end
theorem eqW_lists {neg : Bool} {a b : List Str} {h : Hh} (ha : Txts a) (hb : Txts b) : eqW neg (.dat (.list (a.map .str))) (.dat (.list (b.map .str))) h = some (.dat (.bool (if neg = true then !decide (a = b) else decide (a = b))), h) := by
  have e : PyData.eqv (.list (a.map .str)) (.list (b.map .str)) = decide (a = b) := by
    rw [PyData.eqv, eqv_txts]
  unfold eqW
  simp only [deref, eqS, shp_list ha, shp_list hb, e, Bool.and_self, if_true]
  rfl
end DL
set_option maxRecDepth 100000
set_option maxHeartbeats 400000
namespace DL
open PySem L2
theorem calls_lc {l : List Str} {ρ : DL.Env} {i b c n : Nat} {x : D} {h : Hh} (hx : IsSeq x (l.map .str)) (hρ : ∀ (d : D) (g : Hh), ∃ ρ1, gN i (.dat d) ρ g = some ρ1 ∧ (fCons (fVar 0) (fCons (fVar 1) (fNil))) ρ1 g = some ([.ref b, .dat x], g)) (hn : n ≤ 60) (hb : BoxAt h b c) (hc : c < 100000) (h0 : 0 < l.length) (h1 : l.length ≤ 30) :
    ∃ (ws : List (List (Str × Str))) (h' : Hh), lcL (gN i) bYes (fA (m__law_call) (fCons (fVar 0) (fCons (fVar 1) (fNil)))) ρ (rngD 0 n) h = some (ws.map cT, h') ∧ Words l ws ∧ ws.length = n ∧ BoxAt h' b (c + n * 94) ∧ Only b h h' := by
  obtain ⟨cs, g2, e2, hl, hr, b2, o2⟩ := lcL_inv (k := gN i) (f := fA (m__law_call) (fCons (fVar 0) (fCons (fVar 1) (fNil)))) (ρ := ρ)
    (fun k g => BoxAt g b (c + k * 94) ∧ Only b h g) (fun _ d => ∃ ps, d = cT ps ∧ CallOf l ps) (ds := rngD 0 n) (n := 0) (h := h) ⟨by rw [Nat.zero_mul]; exact hb, Only.refl b h⟩ (by
      intro j d ej g hi
      obtain ⟨bx, on⟩ := hi
      rw [Nat.zero_add] at bx ⊢
      have hj := (rng_get ej).1
      obtain ⟨ps, g', e3, pf, pt, b3, o3⟩ := call2_ok hx bx (by omega) h0 (by omega)
      obtain ⟨ρ1, q1, q2⟩ := hρ d g
      exact ⟨ρ1, cT ps, g', q1, xA q2 e3, ⟨ps, rfl, by rw [pf], pt⟩, b3.mono (by omega), on.trans o3⟩)
  rw [rng_len] at hl
  rw [rng_len, Nat.zero_add] at b2
  obtain ⟨ws, rfl, cw⟩ := words_all (l := l) (cs := cs) fun d hd => by
    obtain ⟨j, hj⟩ := List.getElem?_of_mem hd
    obtain ⟨ps, e, c5⟩ := hr j d hj
    exact ⟨ps, e, c5⟩
  rw [List.length_map] at hl
  exact ⟨ws, g2, e2, cw, hl, b2, o2⟩
section
variable {ρ ρ1 : DL.Env} {h h1 h2 : Hh}
theorem bAndF {a b : BM} (e : a ρ h = some (false, h1)) : bAnd a b ρ h = some (false, h1) := by
  unfold bAnd
  simp only [e, obnd, Bool.false_eq_true, if_false]
theorem bAndT {a b : BM} {r : Option (Bool × Hh)} (e : a ρ h = some (true, h1)) (q : b ρ h1 = r) : bAnd a b ρ h = r := by
  unfold bAnd
  simp only [e, obnd, if_true]
  exact q
theorem zTry {f g : SM} {r : RM} {ok : Nat → Addr → Bool} {i : Nat} {rest : SM} {k : Nat} {C : Addr} {fs : List (Str × D)} {ρ2 : DL.Env} (e : r ρ h = some ((ρ1, k, C, fs), h1)) (o : ok k C = true) (q : g (ρ1.set i (some (.exc k C fs))) h1 = some (.nx ρ2, h2)) :
    sSeq (sTry f r ok i g) rest ρ h = rest (ρ2.set i none) h2 := by
  unfold sSeq sTry
  rw [e]
  dsimp only
  rw [if_pos o, q]
theorem zApp {A E : EM} {rest : SM} {n : Nat} {ds : List D} {d : D} (ha : A ρ h = some (.ref n, h1)) (hn : h1[n]? = some (some (.lst ds))) (he : E ρ h1 = some (.dat d, h2)) (hn2 : h2[n]? = some (some (.lst ds))) (hl : ds.length < sizeLine) :
    sSeq (sExpr (fM isL appendW A (fCons E fNil))) rest ρ h = rest ρ (h2.set n (some (.lst (ds ++ [d])))) := by
  have il : isL (.ref n) h1 = true := by simp only [isL, deref, hn]
  have ap : appendW (.ref n) [.dat d] h2 = some (.dat .none, h2.set n (some (.lst (ds ++ [d])))) := by
    simp only [appendW, lstAt, hn2, setL, hl, if_true]
  unfold sSeq sExpr fM
  simp only [ha, obnd, il, if_true, xC he xN, ap, sbnd]
theorem zAppE {A E : EM} {n : Nat} {ds : List D} {d : D} (ha : A ρ h = some (.ref n, h1)) (hn : h1[n]? = some (some (.lst ds))) (he : E ρ h1 = some (.dat d, h2)) (hn2 : h2[n]? = some (some (.lst ds))) (hl : ds.length < sizeLine) :
    sExpr (fM isL appendW A (fCons E fNil)) ρ h = some (.nx ρ, h2.set n (some (.lst (ds ++ [d])))) := by
  have il : isL (.ref n) h1 = true := by simp only [isL, deref, hn]
  have ap : appendW (.ref n) [.dat d] h2 = some (.dat .none, h2.set n (some (.lst (ds ++ [d])))) := by
    simp only [appendW, lstAt, hn2, setL, hl, if_true]
  unfold sExpr fM
  simp only [ha, obnd, il, if_true, xC he xN, ap, sbnd]
theorem zIt {t : BM} {a b rest : SM} {r : Option (Out × Hh)} (ht : t ρ h = some (true, h1)) (q : sSeq a rest ρ h1 = r) : sSeq (sIf t a b) rest ρ h = r := by
  unfold sSeq sIf at *
  simp only [ht, sbnd, if_true]
  exact q
theorem isE_run {ks : List (Nat × Addr)} {ys : List Nat} {k : Nat} {C : Addr} {fs : List (Str × D)} {b : Bool} {F : EM} (e : F ρ h = some (.exc k C fs, h1)) (m : (k, C) ∈ ks) (hb : decide (k ∈ ys) = b) : f1 (isE ks ys) F ρ h = some (.dat (.bool b), h1) := by
  unfold f1
  simp only [e, obnd, isE, if_pos m, hb]
  rfl
end
def qq : Str := "qqqqqq"
theorem cut_from1 {α : Type} (xs : List α) : cutG xs (some 1) none = xs.drop 1 := cut_drop xs (k := 1)
theorem sl_fromT {A E : EM} {ρ : DL.Env} {h : Hh} {x y : List D} {i : Int} (ha : A ρ h = some (.dat (.tuple x), h)) (he : E ρ h = some (.dat (.int i), h)) (hc : cutG x (some i) none = y) : fSl false A (oSome E) (oNone) ρ h = some (.dat (.tuple y), h) := by
  unfold fSl oNone oSome
  simp only [ha, obnd, he, cutW, deref, hc]
  rfl
theorem xAddT {a b : List D} {h : Hh} (hl : a.length + b.length ≤ sizeLine) : addW false (.dat (.tuple a)) (.dat (.tuple b)) h = some (.dat (.tuple (a ++ b)), h) := by
  unfold addW
  simp only [deref, if_pos hl]
  rfl
end DL
set_option maxHeartbeats 400000
namespace LW
open PySem L2 DL
noncomputable def m_told_in : FM := fnM false 2 5 (sRet (fLc2 false (seqI (fVar 0)) (gN 2) (bYes) 2 (gT 2 (gC (gN 3) (gC (gN 4) (gE)))) (fB (f2 (eqW false) (fVar 3) (fVar 1))) (fVar 4) [2, 3, 4] [3, 4]))
noncomputable def m_part_of : FM := fnM false 2 5 (sRet (fLc false (seqI (fVar 0)) (gN 2) (bYes) (fA tupleW (fCons (fLc false (seqI (fVar 2)) (gT 2 (gC (gN 3) (gC (gN 4) (gE)))) (fB (f2 (inW false) (fVar 3) (fVar 1))) (fA tupW (fCons (fVar 3) (fCons (fVar 4) (fNil)))) [3, 4]) (fNil))) [2]))
noncomputable def m_row_of : FM := fnM false 2 3 (sRet (fA tupleW (fCons (fLc false (seqI (fVar 0)) (gN 2) (fB (f2 (inW false) (fVar 2) (fVar 1))) (fVar 2) [2]) (fNil))))
noncomputable def m__law_closed : FM := fnM false 2 5 (sSeq (sFor (seqI (fVar 0)) (gN 2)
    (sFor (seqI (fVar 2)) (gT 2 (gC (gN 3) (gC (gN 4) (gE))))
    (sIf (bAnd (fB (f2 (inW false) (fVar 3) (fVar 1))) (fB (f2 (inW true) (fVar 4) (fVar 1)))) (sRet (fC (.bool false))) (sSkip))))
    (sRet (fC (.bool true))))
noncomputable def m__law_grown : FM := fnM false 2 6 (sSeq (sPar (fCons (fA (lstW true) (fNil)) (fCons (fA (lstW true) (fCons (fVar 1) (fNil))) (fNil))) [2, 3])
    (sSeq (sWhile 100000 (fB (f2 (eqW true) (fVar 3) (fA (lstW false) (fNil))))
    (sSeq (sAsg (fM isL popW (fVar 3) fNil) (gN 4))
    (sIf (fB (f2 (inW true) (fVar 4) (fVar 2))) (sSeq (sExpr (fM isL appendW (fVar 2) (fCons (fVar 4) (fNil))))
    (sFor (seqI (fVar 0)) (gN 5)
    (sExpr (fM isL appendW (fVar 3) (fCons (f2 idxW (fA (dictA false) (fCons (fVar 5) (fNil))) (fVar 4)) (fNil)))))) (sSkip))))
    (sFrz 2 (sRet (fA tupleW (fCons (fA (sortW false) (fCons (fVar 2) (fNil))) (fNil)))))))
noncomputable def m_is_lot : FM := fnM false 2 9 (sSeq (sIf (bOr (bNot (fB (f1 (isiW ["tuple"]) (fVar 1)))) (bOr (fB (f2 (eqW false) (fA lenW (fCons (fVar 1) (fNil))) (fC (.int 0)))) (bNot (fB (fA allW (fCons (fLc false (seqI (fVar 1)) (gN 6) (bYes) (f1 (isiW ["str"]) (fVar 6)) [6]) (fNil))))))) (sRet (fC (.bool false))) (sSkip))
    (sSeq (sAsg (fDc2 false (seqI (fVar 0)) (gN 3) 3 (gT 2 (gC (gN 4) (gC (gN 5) (gE)))) (fVar 4) (fC (.bool true)) [3, 4, 5] [4, 5]) (gN 2))
    (sSeq (sIf (bOr (bNot (fB (fA allW (fCons (fLc false (seqI (fVar 1)) (gN 6) (bYes) (f2 (inW false) (fVar 6) (fVar 2)) [6]) (fNil))))) (bNot (fB (fA allW (fCons (fLc false (zipI (fCons (fVar 1) (fCons (fSl false (fVar 1) (oSome (fC (.int 1))) (oNone)) (fNil)))) (gT 2 (gC (gN 7) (gC (gN 8) (gE)))) (bYes) (f2 lt_W (fVar 7) (fVar 8)) [7, 8]) (fNil)))))) (sRet (fC (.bool false))) (sSkip))
    (sRet (fA allW (fCons (fLc2E false (seqI (fVar 1)) (gN 6) (bYes) (fA (m_told_in) (fCons (fVar 0) (fCons (fVar 6) (fNil)))) (gN 5) (bYes) (f2 (inW false) (fVar 5) (fVar 1)) [6, 5] [5]) (fNil)))))))
noncomputable def m__law_due : FM := fnM false 3 4 (sSeq (sIf (bOr (bNot (fB (f1 (isiW ["tuple"]) (fVar 2)))) (bOr (fB (f2 (eqW false) (fA lenW (fCons (fVar 2) (fNil))) (fC (.int 0)))) (bNot (fB (fA allW (fCons (fLc false (seqI (fVar 2)) (gN 3) (bYes) (f1 (isiW ["str"]) (fVar 3)) [3]) (fNil))))))) (sRet (fC (.bool false))) (sSkip))
    (sSeq (sIf (bOr (fB (f2 (eqW true) (fA (listW false) (fCons (fVar 2) (fNil))) (fA (sortTW false) (fCons (fVar 2) (fNil))))) (bNot (fB (fA allW (fCons (fLc false (seqI (fVar 2)) (gN 3) (bYes) (f2 (inW false) (fVar 3) (fVar 0)) [3]) (fNil)))))) (sRet (fC (.bool false))) (sSkip))
    (sRet (fA (m__law_closed) (fCons (fVar 1) (fCons (fVar 2) (fNil)))))))
noncomputable def m_least_lot : FM := fnM false 2 5 (sSeq (sIf (fB (f2 (eqW false) (fA lenW (fCons (fA (m_told_in) (fCons (fVar 0) (fCons (fVar 1) (fNil)))) (fNil))) (fC (.int 0)))) (sNever) (sSkip))
    (sSeq (sPar (fCons (fA (lstW true) (fNil)) (fCons (fA (lstW true) (fCons (fVar 1) (fNil))) (fNil))) [2, 3])
    (sSeq (sWhile 100000 (fB (f2 gt_W (fA lenW (fCons (fVar 3) (fNil))) (fC (.int 0))))
    (sSeq (sAsg (fM isL popW (fVar 3) fNil) (gN 4))
    (sIf (fB (f2 (inW true) (fVar 4) (fVar 2))) (sSeq (sExpr (fM isL appendW (fVar 2) (fCons (fVar 4) (fNil))))
    (sExpr (fM isL extendW (fVar 3) (fCons (fA (m_told_in) (fCons (fVar 0) (fCons (fVar 4) (fNil)))) (fNil))))) (sSkip))))
    (sFrz 2 (sRet (fA tupleW (fCons (fA (sortW false) (fCons (fVar 2) (fNil))) (fNil))))))))
noncomputable def r_least_lot (T : Nat → Addr) : FR := fnR 2 5 (rIf (fB (f2 (eqW false) (fA lenW (fCons (fA (m_told_in) (fCons (fVar 0) (fCons (fVar 1) (fNil)))) (fNil))) (fC (.int 0)))) (rNew1 13 (T 13) "name" (fVar 1)) (rNo))
noncomputable def m__law_refused (T : Nat → Addr) : FM := fnM false 2 5 (sSeq (sAsg (fC .none) (gN 2))
    (sSeq (sTry (sExpr (fA (m_least_lot) (fCons (fVar 0) (fCons (fVar 1) (fNil))))) (rX (rA (r_least_lot T) (fCons (fVar 0) (fCons (fVar 1) (fNil))))) (okL [(13, T 13)]) 3 (sAsg (fVar 3) (gN 2)))
    (sSeq (sAsg (fAnd (f1 (isE [(13, T 13)] [13]) (fVar 2)) (f1 (isE [(13, T 13)] [13]) (fVar 2))) (gN 4))
    (sRet (fIf (bAnd (fB (fVar 4)) (bNot (fB (f1 (isE [(13, T 13)] []) (fVar 2))))) (f1 (xfW [(13, T 13)] "name") (fVar 2)) (fC .none))))))
noncomputable def m__law_right (T : Nat → Addr) : FM := fnM false 1 18 (sSeq (sAsg (fA (m__law_names) (fCons (fVar 0) (fCons (fC (.int 9)) (fNil)))) (gN 1))
    (sSeq (sAsg (fLc false (rng1I (fCons (f2 (addW false) (fC (.int 1)) (fA (m__law_take) (fCons (fVar 0) (fCons (fC (.int 5)) (fNil))))) (fNil))) (gN 13) (bYes) (fA (m__law_call) (fCons (fVar 0) (fCons (fVar 1) (fNil)))) [13]) (gN 2))
    (sSeq (sPar (fCons (fA (m__law_row) (fCons (fVar 0) (fCons (fVar 1) (fNil)))) (fCons (fLc false (seqI (fVar 2)) (gN 15) (bYes) (fLc false (seqI (fVar 15)) (gN 17) (bYes) (fA (listW false) (fCons (fVar 17) (fNil))) [17]) [15]) (fNil))) [6, 7])
    (sSeq (sAsg (fA (lstW true) (fCons (fA tupleW (fCons (fVar 1) (fNil))) (fCons (fA tupW (fNil)) (fCons (fC .none) (fCons (fC (.int 0)) (fCons (fC (.str "a")) (fCons (fA (listW false) (fCons (fVar 1) (fNil))) (fCons (fA tupW (fCons (fC .none) (fNil))) (fCons (fA tupW (fCons (fA (lstW false) (fCons (fC (.str "a")) (fNil))) (fNil))) (fCons (fA tupW (fCons (fC (.str "zzzzzz")) (fNil))) (fCons (fC (.bool true)) (fNil)))))))))))) (gN 3))
    (sSeq (sFor (seqI (fVar 1)) (gN 4)
    (sSeq (sAsg (fA (m__law_grown) (fCons (fVar 2) (fCons (fVar 4) (fNil)))) (gN 8))
    (sSeq (sIf (bNot (fB (fA (m__law_same 12) (fCons (fA (lstW false) (fCons (fA (m_least_lot) (fCons (fVar 2) (fCons (fVar 4) (fNil)))) (fCons (fA (kwM 2 [1, 0] (m_least_lot)) (fCons (fVar 4) (fCons (fVar 7) (fNil)))) (fNil)))) (fCons (fA (lstW false) (fCons (fVar 8) (fCons (fVar 8) (fNil)))) (fNil)))))) (sRet (fC (.bool false))) (sSkip))
    (sSeq (sAsg (fLc false (seqI (fVar 6)) (gN 16) (fB (f2 (inW false) (fVar 16) (fVar 8))) (fVar 16) [16]) (gN 9))
    (sSeq (sAsg (fA (lstW false) (fCons (fA (m_row_of) (fCons (fVar 6) (fCons (fVar 8) (fNil)))) (fCons (fA (kwM 2 [1, 0] (m_row_of)) (fCons (fA (listW false) (fCons (fVar 8) (fNil))) (fCons (fA (listW false) (fCons (fVar 6) (fNil))) (fNil)))) (fNil)))) (gN 10))
    (sSeq (sIf (bNot (fB (fA (m__law_same 12) (fCons (fVar 10) (fCons (f2 (mulW false) (fA (lstW false) (fCons (fA tupleW (fCons (fVar 9) (fNil))) (fNil))) (fC (.int 2))) (fNil)))))) (sRet (fC (.bool false))) (sSkip))
    (sSeq (sAsg (fLc false (seqI (fVar 2)) (gN 15) (bYes) (fA tupleW (fCons (fLc false (seqI (fVar 15)) (gN 17) (fB (f2 (inW false) (f2 idxW (fVar 17) (fC (.int 0))) (fVar 8))) (fVar 17) [17]) (fNil))) [15]) (gN 11))
    (sSeq (sIf (bNot (fB (fA (m__law_same 12) (fCons (fA (lstW false) (fCons (fA (m_part_of) (fCons (fVar 2) (fCons (fVar 8) (fNil)))) (fCons (fA (kwM 2 [1, 0] (m_part_of)) (fCons (fVar 8) (fCons (fVar 7) (fNil)))) (fNil)))) (fCons (fA (lstW false) (fCons (fVar 11) (fCons (fVar 11) (fNil)))) (fNil)))))) (sRet (fC (.bool false))) (sSkip))
    (sSeq (sAsg (f2 (addW true) (fVar 3) (fA (lstW false) (fCons (fVar 8) (fCons (fSl false (fVar 8) (oSome (fC (.int 1))) (oNone)) (fCons (fRev false (fVar 8)) (fCons (f2 (addW false) (fVar 8) (fSl false (fVar 8) (oSome (fNeg (fC (.int 1)))) (oNone))) (fCons (fA (listW false) (fCons (fVar 8) (fNil))) (fNil)))))))) (gN 3))
    (sExpr (fM isL appendW (fVar 3) (fCons (fA tupleW (fCons (fA (sortTW false) (fCons (f2 (addW false) (fVar 8) (fA tupW (fCons (f2 idxW (fVar 1) (fC (.int 0))) (fNil)))) (fNil))) (fNil))) (fNil)))))))))))))
    (sFrz 3 (sSeq (sFor (seqI (fVar 3)) (gN 5)
    (sSeq (sAsg (fA tupW (fCons (fA reprA (fCons (fVar 5) (fNil))) (fCons (fA (m__law_due) (fCons (fVar 1) (fCons (fVar 2) (fCons (fVar 5) (fNil))))) (fNil)))) (gT 2 (gC (gN 14) (gC (gN 8) (gE)))))
    (sSeq (sAsg (fA (lstW false) (fCons (fA (m_is_lot) (fCons (fVar 2) (fCons (fVar 5) (fNil)))) (fCons (fA (kwM 2 [1, 0] (m_is_lot)) (fCons (fVar 5) (fCons (fVar 7) (fNil)))) (fNil)))) (gN 12))
    (sIf (bOr (bNot (fB (fA (m__law_same 12) (fCons (fVar 12) (fCons (fA (lstW false) (fCons (fVar 8) (fCons (fVar 8) (fNil)))) (fNil)))))) (fB (f2 (eqW true) (fA reprA (fCons (fVar 5) (fNil))) (fVar 14)))) (sRet (fC (.bool false))) (sSkip)))))
    (sRet (fA (m__law_same 12) (fCons (fLc false (seqI (fA tupW (fCons (fC (.str "")) (fCons (fC (.str "zzzzzz")) (fCons (fC (.str "A")) (fNil)))))) (gN 4) (bYes) (fA (m__law_refused T) (fCons (fVar 2) (fCons (fVar 4) (fNil)))) [4]) (fCons (fA (lstW false) (fCons (fC (.str "")) (fCons (fC (.str "zzzzzz")) (fCons (fC (.str "A")) (fNil))))) (fNil))))))))))))
noncomputable def m_law (T : Nat → Addr) : FM := fnM false 1 5 (sSeq (sAsg (fA (m__law_folded) (fCons (fVar 0) (fCons (fC (.int 3)) (fNil)))) (gN 1))
    (sSeq (sFor (rng1I (fCons (fA lenW (fCons (fVar 1) (fNil))) (fNil))) (gN 2)
    (sSeq (sAsg (fA (m__law_box) (fCons (fVar 1) (fCons (fVar 2) (fNil)))) (gN 3))
    (sIf (bNot (fB (fA allW (fCons (fLc false (rng1I (fCons (fC (.int 2)) (fNil))) (gN 4) (bYes) (fA (m__law_right T) (fCons (fVar 3) (fNil))) [4]) (fNil))))) (sRet (fC (.bool false))) (sSkip))))
    (sRet (fC (.bool true)))))
def partC (lot : List Str) (ps : List (Str × Str)) : List (Str × Str) := ps.filter fun p => decide (p.1 ∈ lot)
def inL (lot r : List Str) : List Str := r.filter fun s => decide (s ∈ lot)
theorem one_told : ∀ {ps : List (Str × Str)} {s : Str}, (ps.map (·.1)).Nodup → s ∈ ps.map (·.1) → (ps.filter fun p => decide (p.1 = s)) = [(s, goal ps s)]
  | [], s, _, h => by cases h
  | (a, b) :: ps, s, nd, h => by
    rw [List.map_cons, List.nodup_cons] at nd
    by_cases z : a = s
    · subst z
      have e : ps.filter (fun p => decide (p.1 = a)) = [] := by
        rw [List.filter_eq_nil_iff]
        intro p hp
        have : p.1 ≠ a := fun z => nd.1 (List.mem_map.mpr ⟨p, hp, z⟩)
        simpa using this
      have g : goal ((a, b) :: ps) a = b := by unfold goal; rw [List.lookup_cons]; simp
      rw [List.filter_cons_of_pos (by simp), e, g]
    · have h' : s ∈ ps.map (·.1) := by
        rw [List.map_cons] at h
        rcases List.mem_cons.mp h with w | w
        · exact absurd w.symm z
        · exact w
      have g : goal ((a, b) :: ps) s = goal ps s := by unfold goal; rw [List.lookup_cons, beq_eq_false_iff_ne.mpr fun w => z w.symm]
      rw [List.filter_cons_of_neg (by simpa using z), one_told nd.2 h', g]
theorem told_inner {lb : Bool} {x Q : D} {s : Str} {h : Hh} : ∀ (ps : List (Str × Str)), lcL (gT 2 (gC (gN 3) (gC (gN 4) (gE)))) (fB (f2 (eqW false) (fVar 3) (fVar 1))) (fVar 4) [some (.dat x), some (.dat (.str s)), some (.dat Q), none, none] (ps.map (prW lb)) h = some ((ps.filter fun p => decide (p.1 = s)).map fun p => PyData.str p.2, h)
  | [] => rfl
  | (a, b) :: ps => by
    have ih := told_inner (lb := lb) (x := x) (s := s) (Q := Q) (h := h) ps
    rw [List.map_cons]
    unfold lcL
    have k : gT 2 (gC (gN 3) (gC (gN 4) (gE))) (.dat (prW lb (a, b))) [some (.dat x), some (.dat (.str s)), some (.dat Q), none, none] h = some [some (.dat x), some (.dat (.str s)), some (.dat Q), some (.dat (.str a)), some (.dat (.str b))] := by cases lb <;> rfl
    have t : fB (f2 (eqW false) (fVar 3) (fVar 1)) [some (.dat x), some (.dat (.str s)), some (.dat Q), some (.dat (.str a)), some (.dat (.str b))] h = some (decide (a = s), h) := xB (x2 (A := fVar 3) (B := fVar 1) rfl rfl eqW_strs)
    have f : fVar 4 [some (.dat x), some (.dat (.str s)), some (.dat Q), some (.dat (.str a)), some (.dat (.str b))] h = some (.dat (.str b), h) := rfl
    simp only [k, obnd, t, f, ih]
    by_cases z : a = s
    · rw [decide_eq_true z, if_pos rfl, List.filter_cons_of_pos (by simpa using z)]; rfl
    · rw [decide_eq_false z, if_neg (by simp), List.filter_cons_of_neg (by simpa using z)]
theorem told_outer {lb : Bool} {x : D} {s : Str} {l : List Str} {h : Hh} (hs : s ∈ l) (nd : l.Nodup) : ∀ {ws : List (List (Str × Str))}, Words l ws → lc2L (gN 2) (bYes) 2 (gT 2 (gC (gN 3) (gC (gN 4) (gE)))) (fB (f2 (eqW false) (fVar 3) (fVar 1))) (fVar 4) [3, 4] [some (.dat x), some (.dat (.str s)), none, none, none] (ws.map (cD lb)) h = some ((ws.map fun ps => goal ps s).map .str, h)
  | [], _ => rfl
  | ps :: ws, c => by
    have ih := told_outer (lb := lb) (x := x) (h := h) hs nd (ws := ws) fun q hq => c q (List.mem_cons_of_mem _ hq)
    have cp := c ps List.mem_cons_self
    have e := told_inner (lb := lb) (x := x) (s := s) (Q := (cD lb) ps) (h := h) ps
    rw [one_told (cp.nodup nd) (cp.perm.mem_iff.mpr hs)] at e
    rw [List.map_cons]
    unfold lc2L
    have es : (gN 2) (.dat (cD lb ps)) [some (.dat x), some (.dat (.str s)), none, none, none] h = some [some (.dat x), some (.dat (.str s)), some (.dat (cD lb ps)), none, none] := rfl
    have dl : datL (some (some (.dat (cD lb ps)))) = some (ps.map (prW lb)) := by cases lb <;> rfl
    have ew : wipeE [some (.dat x), some (.dat (.str s)), some (.dat (cD lb ps)), none, none] [3, 4] = [some (.dat x), some (.dat (.str s)), some (.dat (cD lb ps)), none, none] := rfl
    simp only [es, bYes, obnd, if_true, List.getElem?_cons_zero, List.getElem?_cons_succ, dl, ew, e, ih]
    rfl
theorem told_in_ok {lb : Bool} {x : D} {l : List Str} {ws : List (List (Str × Str))} {s : Str} {h : Hh} (hx : IsSeq x (ws.map (cD lb))) (hs : s ∈ l) (nd : l.Nodup) (c : Words l ws) (hw : ws.length ≤ 1000) :
    m_told_in [.dat x, .dat (.str s)] h = some (.dat (.list ((ws.map fun ps => goal ps s).map .str)), h) := by
  have hz : sizeLine = 16777216 := rfl
  have e := told_outer (lb := lb) (x := x) (h := h) hs nd c
  have fl : fLc2 false (seqI (fVar 0)) (gN 2) (bYes) 2 (gT 2 (gC (gN 3) (gC (gN 4) (gE)))) (fB (f2 (eqW false) (fVar 3) (fVar 1))) (fVar 4) [2, 3, 4] [3, 4] [some (.dat x), some (.dat (.str s)), none, none, none] h = some (.dat (.list ((ws.map fun ps => goal ps s).map .str)), h) := by
    unfold fLc2
    rw [xS (E := fVar 0) (x := x) (h1 := h) rfl hx]
    show obnd (lc2L _ _ _ _ _ _ _ [some (.dat x), some (.dat (.str s)), none, none, none] _ h) _ = _
    rw [e]
    simp only [obnd]
    rw [if_pos (by rw [List.length_map, List.length_map]; omega)]; rfl
  unfold m_told_in
  exact fnM_rt (zR fl) rfl leave_same'
theorem in_strs {s : Str} {r : List Str} : (flatD (.str s) && (r.map PyData.str).all flatD) = true ∧ ((r.map PyData.str).any fun z => PyData.eqv z (.str s)) = decide (s ∈ r) := by
  refine ⟨?_, ?_⟩
  · have : (r.map PyData.str).all flatD = true := by
      rw [List.all_eq_true]
      intro d hd
      obtain ⟨t, _, rfl⟩ := List.mem_map.mp hd
      rfl
    rw [this]; rfl
  · have e := notin_row (s := s) (r := r) (h := [])
    unfold inW at e
    simp only [deref] at e
    have hf : (flatD (.str s) && (r.map PyData.str).all flatD) = true := by
      have : (r.map PyData.str).all flatD = true := by
        rw [List.all_eq_true]
        intro d hd
        obtain ⟨t, _, rfl⟩ := List.mem_map.mp hd
        rfl
      rw [this]; rfl
    rw [if_pos hf] at e
    have := congrArg (fun o : Option (W × Hh) => o.map (·.1)) e
    simp only [bok, Option.map_some, Option.some.injEq] at this
    injection this with this
    injection this with this
    simp only [if_true] at this
    have q : decide (s ∉ r) = !decide (s ∈ r) := by by_cases z : s ∈ r <;> simp [z]
    rw [q] at this
    exact Bool.not_inj this
theorem notin_ref {n : Nat} {s : Str} {r : List Str} {h : Hh} (hn : h[n]? = some (some (.lst (r.map .str)))) : inW true (.dat (.str s)) (.ref n) h = some (.dat (.bool (!decide (s ∈ r))), h) := by
  obtain ⟨a, b⟩ := in_strs (s := s) (r := r)
  unfold inW
  simp only [deref, hn]
  rw [if_pos a, b]; rfl
theorem in_rowT {s : Str} {r : List Str} {h : Hh} : inW false (.dat (.str s)) (.dat (rowT r)) h = some (.dat (.bool (decide (s ∈ r))), h) := by
  obtain ⟨a, b⟩ := in_strs (s := s) (r := r)
  unfold inW
  simp only [deref]
  rw [if_pos a, b]; rfl
noncomputable def lotT : BM := fB (f2 gt_W (fA lenW (fCons (fVar 3) (fNil))) (fC (.int 0)))
noncomputable def lotB : SM := (sSeq (sAsg (fM isL popW (fVar 3) fNil) (gN 4))
    (sIf (fB (f2 (inW true) (fVar 4) (fVar 2))) (sSeq (sExpr (fM isL appendW (fVar 2) (fCons (fVar 4) (fNil))))
    (sExpr (fM isL extendW (fVar 3) (fCons (fA (m_told_in) (fCons (fVar 0) (fCons (fVar 4) (fNil)))) (fNil))))) (sSkip)))
section
variable {x who : D} {n : Nat} {v4 : Option W} {G : Hh}
theorem lot_test {ds : List D} {b : Bool} (hn : G[n + 1]? = some (some (.lst ds))) (hb : decide (0 < ds.length) = b) : lotT [some (.dat x), some (.dat who), some (.ref n), some (.ref (n + 1)), v4] G = some (b, G) := by
  have ln : lenW [.ref (n + 1)] G = some (.dat (.int (ds.length : Int)), G) := by
    unfold lenW
    simp only [deref, hn]; rfl
  unfold lotT
  refine xB (x2 (xA (xC (E := fVar 3) rfl xN) ln) (B := fC (.int 0)) rfl ?_)
  show some (W.dat (.bool (decide ((0 : Int) < (ds.length : Int)))), G) = _
  have q : decide ((0 : Int) < (ds.length : Int)) = decide (0 < ds.length) := by rw [decide_eq_decide]; omega
  rw [q, hb]
theorem lot_pop {rest : SM} {ds : List D} {w : D} (hn : G[n + 1]? = some (some (.lst (ds ++ [w])))) : sSeq (sAsg (fM isL popW (fVar 3) fNil) (gN 4)) rest [some (.dat x), some (.dat who), some (.ref n), some (.ref (n + 1)), v4] G = rest [some (.dat x), some (.dat who), some (.ref n), some (.ref (n + 1)), some (.dat w)] (G.set (n + 1) (some (.lst ds))) := by
  have il : isL (.ref (n + 1)) G = true := by simp only [isL, deref, hn]
  have pp : popW (.ref (n + 1)) [] G = some (.dat w, G.set (n + 1) (some (.lst ds))) := by
    have g1 : (ds ++ [w])[(ds ++ [w]).length - 1]? = some w := by simp
    unfold popW lstAt
    simp only [hn, g1, List.dropLast_concat]
    rfl
  have q : fVar 3 [some (.dat x), some (.dat who), some (.ref n), some (.ref (n + 1)), v4] G = some (.ref (n + 1), G) := rfl
  have e : fM isL popW (fVar 3) fNil [some (.dat x), some (.dat who), some (.ref n), some (.ref (n + 1)), v4] G = some (.dat w, G.set (n + 1) (some (.lst ds))) := by
    unfold fM
    simp only [q, obnd, il, if_true, fNil, pp]
  exact zA e rfl
end
theorem lot_in {x : D} {who w : Str} {F : List Str} {W0 : List D} {v4 : Option W} {h : Hh} (hw : w ∈ F) : lotB [some (.dat x), some (.dat (.str who)), some (.ref h.length), some (.ref (h.length + 1)), v4] (h ++ [some (.lst (F.map .str)), some (.lst (W0 ++ [.str w]))]) = some (.nx [some (.dat x), some (.dat (.str who)), some (.ref h.length), some (.ref (h.length + 1)), some (.dat (.str w))], h ++ [some (.lst (F.map .str)), some (.lst W0)]) := by
  have tg := two_get (g := h) (o := some (MO.lst (F.map .str))) (o' := some (.lst (W0 ++ [.str w]))) rfl
  have ts := two_set (g := h) (o := some (MO.lst (F.map .str))) (o' := some (.lst (W0 ++ [.str w]))) (z := some (.lst W0)) rfl
  have tg2 := two_get (g := h) (o := some (MO.lst (F.map .str))) (o' := some (.lst W0)) rfl
  unfold lotB
  rw [lot_pop tg.2, ts.2]
  have t : fB (f2 (inW true) (fVar 4) (fVar 2)) [some (.dat x), some (.dat (.str who)), some (.ref h.length), some (.ref (h.length + 1)), some (.dat (.str w))] (h ++ [some (.lst (F.map .str)), some (.lst W0)]) = some (false, h ++ [some (.lst (F.map .str)), some (.lst W0)]) := xB (x2 (A := fVar 4) (B := fVar 2) rfl rfl (by rw [notin_ref tg2.1, decide_eq_true hw]; rfl))
  unfold sIf
  simp only [t, sbnd, Bool.false_eq_true, if_false, sSkip]
theorem lot_new {x : D} {who w : Str} {F T0 : List Str} {W0 : List D} {v4 : Option W} {h : Hh} (hw : w ∉ F) (l1 : F.length < sizeLine) (l2 : W0.length + T0.length ≤ sizeLine)
    (e : ∀ g, m_told_in [.dat x, .dat (.str w)] g = some (.dat (.list (T0.map .str)), g)) :
    lotB [some (.dat x), some (.dat (.str who)), some (.ref h.length), some (.ref (h.length + 1)), v4] (h ++ [some (.lst (F.map .str)), some (.lst (W0 ++ [.str w]))]) = some (.nx [some (.dat x), some (.dat (.str who)), some (.ref h.length), some (.ref (h.length + 1)), some (.dat (.str w))], h ++ [some (.lst ((F ++ [w]).map .str)), some (.lst (W0 ++ T0.map .str))]) := by
  have tg := two_get (g := h) (o := some (MO.lst (F.map .str))) (o' := some (.lst (W0 ++ [.str w]))) rfl
  have ts := two_set (g := h) (o := some (MO.lst (F.map .str))) (o' := some (.lst (W0 ++ [.str w]))) (z := some (.lst W0)) rfl
  have tg2 := two_get (g := h) (o := some (MO.lst (F.map .str))) (o' := some (.lst W0)) rfl
  have ts2 := two_set (g := h) (o := some (MO.lst (F.map .str))) (o' := some (.lst W0)) (z := some (.lst (F.map .str ++ [.str w]))) rfl
  have tg3 := two_get (g := h) (o := some (MO.lst (F.map .str ++ [.str w]))) (o' := some (.lst W0)) rfl
  have ts3 := two_set (g := h) (o := some (MO.lst (F.map .str ++ [.str w]))) (o' := some (.lst W0)) (z := some (.lst (W0 ++ T0.map .str))) rfl
  unfold lotB
  rw [lot_pop tg.2, ts.2]
  have t : fB (f2 (inW true) (fVar 4) (fVar 2)) [some (.dat x), some (.dat (.str who)), some (.ref h.length), some (.ref (h.length + 1)), some (.dat (.str w))] (h ++ [some (.lst (F.map .str)), some (.lst W0)]) = some (true, h ++ [some (.lst (F.map .str)), some (.lst W0)]) := xB (x2 (A := fVar 4) (B := fVar 2) rfl rfl (by rw [notin_ref tg2.1, decide_eq_false hw]; rfl))
  unfold sIf
  simp only [t, sbnd, if_true]
  refine (zApp (A := fVar 2) (E := fVar 4) (n := h.length) (ds := F.map .str) (d := .str w) rfl tg2.1 rfl tg2.1 (by rw [List.length_map]; exact l1)).trans ?_
  rw [ts2.1]
  have il : isL (.ref (h.length + 1)) (h ++ [some (.lst (F.map .str ++ [.str w])), some (.lst W0)]) = true := by simp only [isL, deref, tg3.2]
  have ex : extendW (.ref (h.length + 1)) [.dat (.list (T0.map .str))] (h ++ [some (.lst (F.map .str ++ [.str w])), some (.lst W0)]) = some (.dat .none, h ++ [some (.lst (F.map .str ++ [.str w])), some (.lst (W0 ++ T0.map .str))]) := by
    unfold extendW lstAt setL
    simp only [tg3.2]
    rw [if_pos (by rw [List.length_map]; exact l2), ts3.2]
  have q : fVar 3 [some (.dat x), some (.dat (.str who)), some (.ref h.length), some (.ref (h.length + 1)), some (.dat (.str w))] (h ++ [some (.lst (F.map .str ++ [.str w])), some (.lst W0)]) = some (.ref (h.length + 1), h ++ [some (.lst (F.map .str ++ [.str w])), some (.lst W0)]) := rfl
  have ga : (fCons (fA (m_told_in) (fCons (fVar 0) (fCons (fVar 4) (fNil)))) (fNil)) [some (.dat x), some (.dat (.str who)), some (.ref h.length), some (.ref (h.length + 1)), some (.dat (.str w))] (h ++ [some (.lst (F.map .str ++ [.str w])), some (.lst W0)]) = some ([.dat (.list (T0.map .str))], h ++ [some (.lst (F.map .str ++ [.str w])), some (.lst W0)]) := xC (xA (xC (E := fVar 0) rfl (xC (E := fVar 4) rfl xN)) (e _)) xN
  unfold sExpr fM
  simp only [q, obnd, il, if_true, ga, ex, sbnd]
  rw [List.map_append]; rfl
theorem lot_loop {lb : Bool} {x : D} {who : Str} {l : List Str} {ws : List (List (Str × Str))} {h : Hh} {P : Str → Prop} (hP : ∀ ps ∈ ws, ∀ s, P s → P (goal ps s)) (hx : IsSeq x (ws.map (cD lb))) (nd : l.Nodup) (c : Words l ws) (hl : l.length ≤ 100) (hw : ws.length ≤ 100) :
    ∀ (m fuel : Nat) (F W0 : List Str) (v4 : Option W), m < fuel → m ≤ 100000 → W0.length + (l.length - F.length) * (ws.length + 1) ≤ m → F.Nodup → (∀ s ∈ F, s ∈ l) → (∀ s ∈ W0, s ∈ l) → (∀ ps ∈ ws, ∀ s ∈ F, goal ps s ∈ F ∨ goal ps s ∈ W0) → (∀ n, isR n v4 = false) → (∀ s ∈ F, P s) → (∀ s ∈ W0, P s) →
      ∃ (F' : List Str) (v4' : Option W), whileL lotT lotB fuel [some (.dat x), some (.dat (.str who)), some (.ref h.length), some (.ref (h.length + 1)), v4] (h ++ [some (.lst (F.map .str)), some (.lst (W0.map .str))]) = some (.nx [some (.dat x), some (.dat (.str who)), some (.ref h.length), some (.ref (h.length + 1)), v4'], h ++ [some (.lst (F'.map .str)), some (.lst [])]) ∧
        F'.Nodup ∧ (∀ s ∈ F', s ∈ l) ∧ (∀ ps ∈ ws, ∀ s ∈ F', goal ps s ∈ F') ∧ (∀ n, isR n v4' = false) ∧ (∀ s ∈ F', P s) ∧ ∀ s, s ∈ F ∨ s ∈ W0 → s ∈ F' := by
  have hz : sizeLine = 16777216 := rfl
  intro m
  induction m with
  | zero =>
    intro fuel F W0 v4 h1 _ h2 nf fl wl cl nv pF pW
    have w0 : W0 = [] := List.length_eq_zero_iff.mp (by omega)
    subst w0
    have tg := two_get (g := h) (o := some (MO.lst (F.map .str))) (o' := some (.lst [])) rfl
    obtain ⟨f, rfl⟩ : ∃ f, fuel = f + 1 := ⟨fuel - 1, by omega⟩
    refine ⟨F, v4, ?_, nf, fl, fun ps hp s hs => (cl ps hp s hs).elim id (fun z => by cases z), nv, pF, fun s hs => hs.elim id (fun z => by cases z)⟩
    unfold whileL
    simp only [List.map_nil, lot_test (x := x) (who := .str who) (v4 := v4) (b := false) tg.2 rfl, sbnd, Bool.false_eq_true, if_false]
  | succ m ih =>
    intro fuel F W0 v4 h1 h3 h2 nf fl wl cl nv pF pW
    obtain ⟨f, rfl⟩ : ∃ f, fuel = f + 1 := ⟨fuel - 1, by omega⟩
    rcases List.eq_nil_or_concat W0 with w0 | ⟨W1, w, w0⟩
    · subst w0
      have tg := two_get (g := h) (o := some (MO.lst (F.map .str))) (o' := some (.lst [])) rfl
      refine ⟨F, v4, ?_, nf, fl, fun ps hp s hs => (cl ps hp s hs).elim id (fun z => by cases z), nv, pF, fun s hs => hs.elim id (fun z => by cases z)⟩
      unfold whileL
      simp only [List.map_nil, lot_test (x := x) (who := .str who) (v4 := v4) (b := false) tg.2 rfl, sbnd, Bool.false_eq_true, if_false]
    · rw [List.concat_eq_append] at w0
      subst w0
      have wm : w ∈ l := wl w (by simp)
      have wl1 : ∀ s ∈ W1, s ∈ l := fun s hs => wl s (by simp [hs])
      have em : (W1 ++ [w]).map PyData.str = W1.map .str ++ [.str w] := by rw [List.map_append]; rfl
      have tg := two_get (g := h) (o := some (MO.lst (F.map .str))) (o' := some (.lst (W1.map .str ++ [.str w]))) rfl
      have tt := lot_test (x := x) (who := .str who) (v4 := v4) (b := true) tg.2 (by simp)
      rw [List.length_append] at h2
      have l1 : [w].length = 1 := rfl
      rw [l1] at h2
      have fle : F.length ≤ l.length := nd_le nf fl
      by_cases z : w ∈ F
      · obtain ⟨F', v4', e, q⟩ := ih f F W1 (some (.dat (.str w))) (by omega) (by omega) (by omega) nf fl wl1 (fun ps hp s hs => (cl ps hp s hs).elim .inl fun r => by
          rcases List.mem_append.mp r with r | r
          · exact .inr r
          · rw [List.mem_singleton] at r; rw [r]; exact .inl z) (fun _ => rfl) pF fun s hs => pW s (List.mem_append_left _ hs)
        refine ⟨F', v4', ?_, q.1, q.2.1, q.2.2.1, q.2.2.2.1, q.2.2.2.2.1, fun s hs => q.2.2.2.2.2 s (hs.elim .inl fun r => by
          rcases List.mem_append.mp r with r | r
          · exact .inr r
          · rw [List.mem_singleton] at r; rw [r]; exact .inl z)⟩
        unfold whileL
        simp only [em, tt, sbnd, if_true, lot_in (x := x) (who := who) (v4 := v4) (W0 := W1.map .str) (h := h) z]
        exact e
      · have nf2 : (F ++ [w]).Nodup := by
          rw [List.nodup_append]
          exact ⟨nf, by simp, fun a ha b hb e => by rw [List.mem_singleton] at hb; subst hb; subst e; exact z ha⟩
        have fl2 : ∀ s ∈ F ++ [w], s ∈ l := fun s hs => by
          rcases List.mem_append.mp hs with hs | hs
          · exact fl s hs
          · rw [List.mem_singleton] at hs; rw [hs]; exact wm
        have fle2 : (F ++ [w]).length ≤ l.length := nd_le nf2 fl2
        have fl3 : (F ++ [w]).length = F.length + 1 := by rw [List.length_append]; rfl
        rw [fl3] at fle2
        have mu : (l.length - F.length) * (ws.length + 1) = (l.length - (F.length + 1)) * (ws.length + 1) + (ws.length + 1) := by
          rw [show l.length - F.length = (l.length - (F.length + 1)) + 1 by omega, Nat.succ_mul]
        have told := fun g => told_in_ok (x := x) (l := l) (ws := ws) (s := w) (h := g) hx wm nd c (by omega)
        obtain ⟨F', v4', e, q⟩ := ih f (F ++ [w]) (W1 ++ ws.map fun ps => goal ps w) (some (.dat (.str w))) (by omega) (by omega) (by rw [List.length_append, List.length_map, fl3]; omega) nf2 fl2 (fun s hs => by
          rcases List.mem_append.mp hs with hs | hs
          · exact wl1 s hs
          · obtain ⟨ps, hp, rfl⟩ := List.mem_map.mp hs
            exact ((c ps hp).goal_mem wm).2) (fun ps hp s hs => by
          rcases List.mem_append.mp hs with hs | hs
          · rcases cl ps hp s hs with r | r
            · exact .inl (by simp [r])
            · rcases List.mem_append.mp r with r | r
              · exact .inr (by simp [r])
              · rw [List.mem_singleton] at r; rw [r]; exact .inl (by simp)
          · rw [List.mem_singleton] at hs; subst hs
            exact .inr (List.mem_append_right _ (List.mem_map.mpr ⟨ps, hp, rfl⟩))) (fun _ => rfl) (fun s hs => by
          rcases List.mem_append.mp hs with hs | hs
          · exact pF s hs
          · rw [List.mem_singleton] at hs; subst hs; exact pW _ (by simp)) (fun s hs => by
          rcases List.mem_append.mp hs with hs | hs
          · exact pW s (List.mem_append_left _ hs)
          · obtain ⟨ps, hp, rfl⟩ := List.mem_map.mp hs
            exact hP ps hp _ (pW w (by simp)))
        refine ⟨F', v4', ?_, q.1, q.2.1, q.2.2.1, q.2.2.2.1, q.2.2.2.2.1, fun s hs => q.2.2.2.2.2 s (by
          rcases hs with r | r
          · exact .inl (by simp [r])
          · rcases List.mem_append.mp r with r | r
            · exact .inr (by simp [r])
            · rw [List.mem_singleton] at r; subst r; exact .inl (by simp))⟩
        unfold whileL
        simp only [em, tt, sbnd, if_true, lot_new (x := x) (who := who) (v4 := v4) (W0 := W1.map .str) (h := h) z (by omega) (by rw [List.length_map, List.length_map]; omega) told]
        rw [← List.map_append]
        exact e
inductive Rch (ws : List (List (Str × Str))) (a : Str) : Str → Prop
  | one : Rch ws a a
  | step {s : Str} {ps : List (Str × Str)} : Rch ws a s → ps ∈ ws → Rch ws a (goal ps s)
theorem Rch.mem {ws : List (List (Str × Str))} {a s : Str} (r : Rch ws a s) {S : List Str} (ha : a ∈ S) (cl : ∀ ps ∈ ws, ∀ s ∈ S, goal ps s ∈ S) : s ∈ S := by
  induction r with
  | one => exact ha
  | step _ hp ih => exact cl _ hp _ ih
theorem perm_mem {a b : List Str} (na : a.Nodup) (nb : b.Nodup) (h : ∀ s, s ∈ a ↔ s ∈ b) : a.Perm b := (List.perm_ext_iff_of_nodup na nb).mpr h
noncomputable def rchB (ws : List (List (Str × Str))) (a s : Str) : Bool := @decide (Rch ws a s) (Classical.propDecidable _)
theorem rchB_iff {ws : List (List (Str × Str))} {a s : Str} : rchB ws a s = true ↔ Rch ws a s := by
  unfold rchB
  exact @decide_eq_true_iff _ (Classical.propDecidable _)
noncomputable def lotL (l : List Str) (ws : List (List (Str × Str))) (a : Str) : List Str := sortS (l.filter fun s => rchB ws a s)
theorem lotL_mem {l : List Str} {ws : List (List (Str × Str))} {a s : Str} : s ∈ lotL l ws a ↔ s ∈ l ∧ Rch ws a s := by
  unfold lotL
  rw [(sortS_perm _).mem_iff, List.mem_filter, rchB_iff]
theorem lotL_nd {l : List Str} {ws : List (List (Str × Str))} {a : Str} (nd : l.Nodup) : (lotL l ws a).Nodup := (sortS_perm _).nodup_iff.mpr (nd.filter _)
theorem xLstR {ws : List W} {ds : List D} {h : Hh} (e : dats ws = some ds) (hl : ds.length ≤ sizeLine) : lstW true ws h = some (.ref h.length, h ++ [some (.lst ds)]) := by
  unfold lstW
  simp only [e, hl, if_true]
  rfl
theorem least_ok {lb : Bool} {x : D} {who : Str} {l : List Str} {ws : List (List (Str × Str))} {h : Hh} (hx : IsSeq x (ws.map (cD lb))) (nd : l.Nodup) (ht : Txts l) (c : Words l ws) (hl : l.length ≤ 100) (hw : ws.length ≤ 100) (w0 : ws ≠ []) (hm : who ∈ l) :
    m_least_lot [.dat x, .dat (.str who)] h = some (.dat (rowT (lotL l ws who)), h) := by
  have hz : sizeLine = 16777216 := rfl
  have mu : l.length * (ws.length + 1) ≤ 100 * 101 := Nat.mul_le_mul hl (by omega)
  obtain ⟨F, v4, e, nf, fl, cl, nv, rP, sub⟩ := lot_loop (x := x) (who := who) (h := h) (P := Rch ws who) (fun ps hp s r => r.step hp) hx nd c hl hw (1 + l.length * (ws.length + 1)) 100000 [] [who] none (by omega) (by omega) (by simp) List.nodup_nil (fun s hs => by cases hs) (fun s hs => by rw [List.mem_singleton] at hs; rw [hs]; exact hm) (fun ps hp s hs => by cases hs) (fun _ => rfl) (fun s hs => by cases hs) (fun s hs => by rw [List.mem_singleton] at hs; subst hs; exact .one)
  have pS := sortS_perm F
  have eL : lotL l ws who = sortS F := sortS_eq (perm_mem (nd.filter _) nf fun s => by
    rw [List.mem_filter, rchB_iff]
    exact ⟨fun q => q.2.mem (sub who (.inr (by simp))) cl, fun q => ⟨fl s q, rP s q⟩⟩)
  rw [eL]
  have told := told_in_ok (x := x) (l := l) (ws := ws) (s := who) (h := h) hx hm nd c (by omega)
  have ln : lenW [.dat (.list ((ws.map fun ps => goal ps who).map .str))] h = some (.dat (.int (ws.length : Int)), h) := by
    have q : (((ws.map fun ps => goal ps who).map PyData.str).length : Int) = (ws.length : Int) := by rw [List.length_map, List.length_map]
    unfold lenW
    simp only [deref, q]; rfl
  have wp : 0 < ws.length := List.length_pos_iff.mpr w0
  have tg := two_get (g := h) (o := some (MO.lst (F.map .str))) (o' := some (.lst [])) rfl
  have ts := two_set (g := h) (o := some (MO.lst (F.map .str))) (o' := some (.lst [])) (z := none) rfl
  have fz : frz 2 [some (.dat x), some (.dat (.str who)), some (.ref h.length), some (.ref (h.length + 1)), v4] (h ++ [some (.lst (F.map .str)), some (.lst [])]) = some ([some (.dat x), some (.dat (.str who)), some (.dat (.list (F.map .str))), some (.ref (h.length + 1)), v4], h ++ [none, some (.lst [])]) := by
    have ne : (h.length + 1 = h.length) = False := by simp
    unfold frz
    simp only [List.getElem?_cons_zero, List.getElem?_cons_succ, tg.1, List.set_cons_zero, List.set_cons_succ, List.any_cons, List.any_nil, isR_dat, isR_none, isR_ref, ne, nv, decide_false, Bool.or_false, isTab, Bool.false_eq_true, if_false, moD]
    rw [ts.1]
  have so := sortW_strs (x := .list (F.map .str)) (h := h ++ [none, some (.lst [])]) (.inl rfl) fun s hs => ht s (fl s hs)
  have lv : leave false h (.dat (rowT (sortS F))) (h ++ [none, some (.lst [])]) = some (.dat (rowT (sortS F)), h) := by
    have tk : (h ++ [none, some (MO.lst [])]).take h.length = h := List.take_left
    have := leave_dat (h := h) (h' := h ++ [none, some (.lst [])]) (d := rowT (sortS F)) (by rw [tk])
    rw [tk] at this
    exact this
  have eqm : m_least_lot = fnM false 2 5 (sSeq (sIf (fB (f2 (eqW false) (fA lenW (fCons (fA (m_told_in) (fCons (fVar 0) (fCons (fVar 1) (fNil)))) (fNil))) (fC (.int 0)))) (sNever) (sSkip))
    (sSeq (sPar (fCons (fA (lstW true) (fNil)) (fCons (fA (lstW true) (fCons (fVar 1) (fNil))) (fNil))) [2, 3])
    (sSeq (sWhile 100000 lotT lotB) (sFrz 2 (sRet (fA tupleW (fCons (fA (sortW false) (fCons (fVar 2) (fNil))) (fNil)))))))) := rfl
  rw [eqm]
  refine fnM_rt (h' := h ++ [none, some (.lst [])]) (w := .dat (rowT (sortS F))) ?_ rfl lv
  show sSeq _ _ [some (.dat x), some (.dat (.str who)), none, none, none] h = _
  refine (zI (xB (x2 (xA (xC (xA (xC (E := fVar 0) rfl (xC (E := fVar 1) rfl xN)) told) xN) ln) (B := fC (.int 0)) rfl (eq_i (decide_eq_false (by omega)))))).trans ?_
  have e0 : (fCons (fA (lstW true) (fNil)) (fCons (fA (lstW true) (fCons (fVar 1) (fNil))) (fNil))) [some (.dat x), some (.dat (.str who)), none, none, none] h = some ([.ref h.length, .ref (h.length + 1)], h ++ [some (.lst []), some (.lst [.str who])]) := by
    refine xC (xA xN (xLstR (ds := []) rfl (Nat.zero_le _))) (xC (h1 := h ++ [some (.lst []), some (.lst [.str who])]) ?_ xN)
    have := xA (m := lstW true) (xC (E := fVar 1) (ρ := [some (.dat x), some (.dat (.str who)), none, none, none]) (h := h ++ [some (.lst [])]) rfl xN) (xLstR (ds := [.str who]) rfl (by show 1 ≤ sizeLine; decide))
    rw [this]
    simp
  refine (zP (is := [2, 3]) (ρ1 := [some (.dat x), some (.dat (.str who)), some (.ref h.length), some (.ref (h.length + 1)), none]) e0 rfl rfl).trans ?_
  unfold sSeq sWhile
  rw [show (h ++ [some (MO.lst []), some (.lst [.str who])]) = h ++ [some (.lst (([] : List Str).map .str)), some (.lst ([who].map .str))] from rfl, e]
  show sFrz 2 _ _ _ = _
  refine (zZ fz).trans ?_
  exact zR (xA (xC (xA (xC (E := fVar 2) rfl xN) so) xN) (xTup (.inl rfl)))
theorem part_inner {lb : Bool} {x : D} {lot : List Str} {h : Hh} : ∀ (ps : List (Str × Str)) (Q : D), lcL (gT 2 (gC (gN 3) (gC (gN 4) (gE)))) (fB (f2 (inW false) (fVar 3) (fVar 1))) (fA tupW (fCons (fVar 3) (fCons (fVar 4) (fNil)))) [some (.dat x), some (.dat (rowT lot)), some (.dat Q), none, none] (ps.map (prW lb)) h = some ((partC lot ps).map prT, h)
  | [], _ => rfl
  | (a, b) :: ps, Q => by
    have ih := part_inner (lb := lb) (x := x) (lot := lot) (h := h) ps Q
    rw [List.map_cons]
    unfold lcL
    have k : gT 2 (gC (gN 3) (gC (gN 4) (gE))) (.dat (prW lb (a, b))) [some (.dat x), some (.dat (rowT lot)), some (.dat Q), none, none] h = some [some (.dat x), some (.dat (rowT lot)), some (.dat Q), some (.dat (.str a)), some (.dat (.str b))] := by cases lb <;> rfl
    have t : fB (f2 (inW false) (fVar 3) (fVar 1)) [some (.dat x), some (.dat (rowT lot)), some (.dat Q), some (.dat (.str a)), some (.dat (.str b))] h = some (decide (a ∈ lot), h) := xB (x2 (A := fVar 3) (B := fVar 1) rfl rfl in_rowT)
    have f : fA tupW (fCons (fVar 3) (fCons (fVar 4) (fNil))) [some (.dat x), some (.dat (rowT lot)), some (.dat Q), some (.dat (.str a)), some (.dat (.str b))] h = some (.dat (prT (a, b)), h) := xA (xC (E := fVar 3) rfl (xC (E := fVar 4) rfl xN)) (xTp (ds := [.str a, .str b]) rfl (by show 2 ≤ sizeLine; decide))
    simp only [k, obnd, t, f, ih]
    unfold partC
    by_cases z : a ∈ lot
    · rw [decide_eq_true z, if_pos rfl, List.filter_cons_of_pos (by simpa using z)]; rfl
    · rw [decide_eq_false z, if_neg (by simp), List.filter_cons_of_neg (by simpa using z)]
theorem part_ok {lb : Bool} {x : D} {lot : List Str} {ws : List (List (Str × Str))} {h : Hh} (hx : IsSeq x (ws.map (cD lb))) (hw : ws.length ≤ 1000) (hp : ∀ ps ∈ ws, ps.length ≤ 1000) :
    m_part_of [.dat x, .dat (rowT lot)] h = some (.dat (.list ((ws.map (partC lot)).map cT)), h) := by
  have hz : sizeLine = 16777216 := rfl
  have e : lcL (gN 2) (bYes) (fA tupleW (fCons (fLc false (seqI (fVar 2)) (gT 2 (gC (gN 3) (gC (gN 4) (gE)))) (fB (f2 (inW false) (fVar 3) (fVar 1))) (fA tupW (fCons (fVar 3) (fCons (fVar 4) (fNil)))) [3, 4]) (fNil))) [some (.dat x), some (.dat (rowT lot)), none, none, none] (ws.map (cD lb)) h = some ((ws.map (partC lot)).map cT, h) := by
    rw [List.map_map]
    refine lcL_list (cD lb) _ fun ps hq => ⟨[some (.dat x), some (.dat (rowT lot)), some (.dat (cD lb ps)), none, none], rfl, ?_⟩
    have fl : fLc false (seqI (fVar 2)) (gT 2 (gC (gN 3) (gC (gN 4) (gE)))) (fB (f2 (inW false) (fVar 3) (fVar 1))) (fA tupW (fCons (fVar 3) (fCons (fVar 4) (fNil)))) [3, 4] [some (.dat x), some (.dat (rowT lot)), some (.dat (cD lb ps)), none, none] h = some (.dat (.list ((partC lot ps).map prT)), h) := by
      unfold fLc
      rw [xS (E := fVar 2) (x := cD lb ps) (ds := ps.map (prW lb)) (h1 := h) rfl (cD_seq lb ps)]
      show obnd (lcL _ _ _ [some (.dat x), some (.dat (rowT lot)), some (.dat (cD lb ps)), none, none] _ h) _ = _
      rw [part_inner]
      simp only [obnd]
      have l1 : (partC lot ps).length ≤ ps.length := List.length_filter_le _ _
      have l2 := hp ps hq
      rw [if_pos (by rw [List.length_map]; omega)]; rfl
    exact xA (xC fl xN) (xTup (.inl rfl))
  unfold m_part_of
  refine fnM_rt (h' := h) (w := .dat (.list ((ws.map (partC lot)).map cT))) ?_ rfl leave_same'
  exact zR (xL (vs := [2]) (xS (E := fVar 0) rfl hx) e (by rw [List.length_map, List.length_map]; omega))
theorem in_seq {s : Str} {r : List Str} {y : D} {h : Hh} (hy : IsSeq y (r.map .str)) : inW false (.dat (.str s)) (.dat y) h = some (.dat (.bool (decide (s ∈ r))), h) := by
  obtain ⟨a, b⟩ := in_strs (s := s) (r := r)
  rcases hy with rfl | rfl
  all_goals
    unfold inW
    simp only [deref]
    rw [if_pos a, b]; rfl
theorem row_in {x y : D} {lot : List Str} {h : Hh} (hy : IsSeq y (lot.map .str)) : ∀ (r : List Str), lcL (gN 2) (fB (f2 (inW false) (fVar 2) (fVar 1))) (fVar 2) [some (.dat x), some (.dat y), none] (r.map .str) h = some ((inL lot r).map .str, h)
  | [] => rfl
  | a :: r => by
    have ih := row_in (x := x) (h := h) hy r
    rw [List.map_cons]
    unfold lcL
    have k : gN 2 (.dat (.str a)) [some (.dat x), some (.dat y), none] h = some [some (.dat x), some (.dat y), some (.dat (.str a))] := rfl
    have t : fB (f2 (inW false) (fVar 2) (fVar 1)) [some (.dat x), some (.dat y), some (.dat (.str a))] h = some (decide (a ∈ lot), h) := xB (x2 (A := fVar 2) (B := fVar 1) rfl rfl (in_seq hy))
    have f : fVar 2 [some (.dat x), some (.dat y), some (.dat (.str a))] h = some (.dat (.str a), h) := rfl
    simp only [k, obnd, t, f, ih]
    unfold inL
    by_cases z : a ∈ lot
    · rw [decide_eq_true z, if_pos rfl, List.filter_cons_of_pos (by simpa using z)]; rfl
    · rw [decide_eq_false z, if_neg (by simp), List.filter_cons_of_neg (by simpa using z)]
theorem rowof_ok {x y : D} {lot r : List Str} {h : Hh} (hx : IsSeq x (r.map .str)) (hy : IsSeq y (lot.map .str)) (hr : r.length ≤ 1000) : m_row_of [.dat x, .dat y] h = some (.dat (rowT (inL lot r)), h) := by
  have hz : sizeLine = 16777216 := rfl
  have l1 : (inL lot r).length ≤ r.length := List.length_filter_le _ _
  have fl : fLc false (seqI (fVar 0)) (gN 2) (fB (f2 (inW false) (fVar 2) (fVar 1))) (fVar 2) [2] [some (.dat x), some (.dat y), none] h = some (.dat (.list ((inL lot r).map .str)), h) := by
    unfold fLc
    rw [xS (E := fVar 0) (x := x) (ds := r.map .str) (h1 := h) rfl hx]
    show obnd (lcL _ _ _ [some (.dat x), some (.dat y), none] _ h) _ = _
    rw [row_in hy]
    simp only [obnd]
    rw [if_pos (by rw [List.length_map]; omega)]; rfl
  unfold m_row_of
  exact fnM_rt (zR (xA (xC fl xN) (xTup (.inl rfl)))) rfl leave_same'
section
variable {ρ ρ1 : DL.Env} {h h1 : Hh}
theorem xOT {A B : BM} (ha : A ρ h = some (true, h1)) : bOr A B ρ h = some (true, h1) := by
  unfold bOr
  simp only [ha, obnd, if_true]
theorem xTn {E : EM} {b : Bool} (he : E ρ h = some (.dat (.bool b), h1)) : bNot (fB E) ρ h = some (!b, h1) := by
  unfold bNot fB
  simp only [he, obnd]
theorem xAllB {α : Type} {IT : IM} {k : TM} {f : EM} {vs : List Nat} (g : α → D) (p : α → Bool) {xs : List α} (hi : IT ρ h = some (xs.map g, h)) (hk : ∀ x ∈ xs, ∃ ρ1, k (.dat (g x)) (wipeE ρ vs) h = some ρ1 ∧ f ρ1 h = some (.dat (.bool (p x)), h)) (hl : xs.length ≤ 10000) :
    fA allW (fCons (fLc false IT k bYes f vs) fNil) ρ h = some (.dat (.bool (xs.all p)), h) := by
  have hz : sizeLine = 16777216 := rfl
  have e := lcL_list (k := k) (f := f) (ρ := wipeE ρ vs) (h := h) g (fun x => PyData.bool (p x)) hk
  have q := xL (vs := vs) hi e (by rw [List.length_map]; omega)
  have r : (xs.map fun x => PyData.bool (p x)) = (xs.map p).map .bool := by rw [List.map_map]; rfl
  rw [r] at q
  exact xA (xC q xN) (all_b (by rw [List.all_map]; rfl))
end
theorem zipOk_S : ∀ (l : List Str) (ys : List D), zipOk (l.map .str) ys = true
  | [], ys => rfl
  | a :: l, [] => rfl
  | a :: l, y :: ys => by
    have ih := zipOk_S l ys
    unfold zipOk at ih ⊢
    rw [List.map_cons, zipD, List.all_cons, ih]
    rfl
abbrev knw (K : List Str) : List (D × D) := sdic (K.map fun s => (s, PyData.bool true))
theorem knw_look : ∀ (K : List Str) (s : Str), (K.map fun s => (s, PyData.bool true)).lookup s = if s ∈ K then some (.bool true) else none
  | [], s => by simp
  | a :: K, s => by
    rw [List.map_cons, List.lookup_cons, knw_look K s]
    by_cases z : s = a
    · subst z; simp
    · rw [beq_eq_false_iff_ne.mpr z]
      simp [z]
theorem knw_put {K : List Str} (s : Str) : ∃ K', putK' (knw K) (.inr s) (.bool true) = knw K' ∧ (K.Nodup → K'.Nodup) ∧ ∀ t, t ∈ K' ↔ t ∈ K ∨ t = s := by
  by_cases z : s ∈ K
  · refine ⟨K, ?_, id, fun t => ⟨.inl, fun q => q.elim id fun w => by rw [w]; exact z⟩⟩
    unfold putK'
    rw [getK_sdic, knw_look, if_pos z]
    simp only [Option.isSome_some, if_true]
    unfold knw sdic
    simp only [List.map_map]
    apply List.map_congr_left
    intro t _
    show (if dKey (.str t) = some (.inr s) then (PyData.str t, PyData.bool true) else (.str t, .bool true)) = _
    split <;> rfl
  · refine ⟨K ++ [s], ?_, fun nd => ?_, fun t => by simp⟩
    · have := putK_sdic (l := K.map fun s => (s, PyData.bool true)) (s := s) (.bool true) (by rw [knw_look, if_neg z])
      rw [this]
      show _ = sdic ((K ++ [s]).map _)
      rw [List.map_append]; rfl
    · rw [List.nodup_append]
      exact ⟨nd, by simp, fun a ha b hb e => by rw [List.mem_singleton] at hb; subst hb; subst e; exact z ha⟩
abbrev eL (x : D) (lot : List Str) (v2 v3 v4 v5 v6 v7 v8 : Option W) : DL.Env := [some (.dat x), some (.dat (rowT lot)), v2, v3, v4, v5, v6, v7, v8]
theorem kn_inner {lb : Bool} {x Q : D} {lot l : List Str} {h : Hh} (hl : l.length ≤ 1000) : ∀ (ps : List (Str × Str)) (K : List Str), (∀ p ∈ ps, p.1 ∈ l) → (∀ s ∈ K, s ∈ l) → K.Nodup → ∃ K', dcL (gT 2 (gC (gN 4) (gC (gN 5) (gE)))) bYes (fVar 4) (fC (.bool true)) (eL x lot none (some (.dat Q)) none none none none none) (ps.map (prW lb)) (knw K) h = some (knw K', h) ∧ K'.Nodup ∧ ∀ t, t ∈ K' ↔ t ∈ K ∨ t ∈ ps.map (·.1)
  | [], K, _, _, nd => ⟨K, rfl, nd, fun t => by simp⟩
  | (a, b) :: ps, K, hp, hK, nd => by
    have hz : sizeLine = 16777216 := rfl
    obtain ⟨K1, e1, n1, m1⟩ := knw_put (K := K) a
    obtain ⟨K2, e2, n2, m2⟩ := kn_inner (lb := lb) (x := x) (Q := Q) (lot := lot) (h := h) hl ps K1 (fun p q => hp p (List.mem_cons_of_mem _ q)) (fun s hs => ((m1 s).mp hs).elim (hK s) fun w => by rw [w]; exact hp (a, b) List.mem_cons_self) (n1 nd)
    refine ⟨K2, ?_, n2, fun t => by rw [m2, m1, List.map_cons, List.mem_cons]; exact ⟨fun q => q.elim (fun q => q.elim .inl fun w => .inr (.inl w)) fun w => .inr (.inr w), fun q => q.elim (fun q => .inl (.inl q)) fun w => w.elim (fun w => .inl (.inr w)) .inr⟩⟩
    have k : gT 2 (gC (gN 4) (gC (gN 5) (gE))) (.dat (prW lb (a, b))) (eL x lot none (some (.dat Q)) none none none none none) h = some (eL x lot none (some (.dat Q)) (some (.dat (.str a))) (some (.dat (.str b))) none none none) := by cases lb <;> rfl
    have f1 : fVar 4 (eL x lot none (some (.dat Q)) (some (.dat (.str a))) (some (.dat (.str b))) none none none) h = some (.dat (.str a), h) := rfl
    have f2' : fC (.bool true) (eL x lot none (some (.dat Q)) (some (.dat (.str a))) (some (.dat (.str b))) none none none) h = some (.dat (.bool true), h) := rfl
    have kl : (knw K).length < sizeLine := by
      have := nd_le nd hK
      unfold knw sdic
      rw [List.length_map, List.length_map]; omega
    rw [List.map_cons]
    unfold dcL
    simp only [k, bYes, obnd, if_true, f1, f2', dKey_str, kl, e1]
    exact e2
theorem kn_outer {lb : Bool} {x : D} {lot l : List Str} {h : Hh} (hl : l.length ≤ 1000) : ∀ {ws : List (List (Str × Str))} {K : List Str}, Words l ws → (∀ s ∈ K, s ∈ l) → K.Nodup → ∃ K', dc2L (gN 3) 3 (gT 2 (gC (gN 4) (gC (gN 5) (gE)))) (fVar 4) (fC (.bool true)) [4, 5] (eL x lot none none none none none none none) (ws.map (cD lb)) (knw K) h = some (knw K', h) ∧ (ws ≠ [] ∨ (∀ s ∈ l, s ∈ K) → ∀ s ∈ l, s ∈ K') ∧ ∀ s ∈ K', s ∈ l
  | [], K, _, hK, _ => ⟨K, rfl, fun q => q.elim (fun w => absurd rfl w) id, hK⟩
  | ps :: ws, K, c, hK, nd => by
    have cp := c ps List.mem_cons_self
    have kp : ∀ p ∈ ps, p.1 ∈ l := fun p hp => cp.perm.mem_iff.mp (List.mem_map.mpr ⟨p, hp, rfl⟩)
    obtain ⟨K1, e1, n1, m1⟩ := kn_inner (lb := lb) (x := x) (Q := cD lb ps) (lot := lot) (h := h) hl ps K kp hK nd
    obtain ⟨K2, e2, m2, s2⟩ := kn_outer (lb := lb) (x := x) (lot := lot) (h := h) hl (ws := ws) (K := K1) (fun q hq => c q (List.mem_cons_of_mem _ hq)) (fun s hs => ((m1 s).mp hs).elim (hK s) fun w => cp.perm.mem_iff.mp w) n1
    refine ⟨K2, ?_, fun _ => m2 (.inr fun s hs => (m1 s).mpr (.inr (cp.perm.mem_iff.mpr hs))), s2⟩
    have es : (gN 3) (.dat (cD lb ps)) (eL x lot none none none none none none none) h = some (eL x lot none (some (.dat (cD lb ps))) none none none none none) := rfl
    have dl : datL (eL x lot none (some (.dat (cD lb ps))) none none none none none)[3]? = some (ps.map (prW lb)) := by cases lb <;> rfl
    have ew : wipeE (eL x lot none (some (.dat (cD lb ps))) none none none none none) [4, 5] = eL x lot none (some (.dat (cD lb ps))) none none none none none := rfl
    rw [List.map_cons]
    unfold dc2L
    simp only [es, dl, ew, obnd, e1]
    exact e2
theorem told_each {lb : Bool} {x : D} {lot l : List Str} {ws : List (List (Str × Str))} {v2 : Option W} {h : Hh} (hx : IsSeq x (ws.map (cD lb))) (nd : l.Nodup) (c : Words l ws) (hw : ws.length ≤ 1000) :
    ∀ M : List Str, (∀ s ∈ M, s ∈ l) → lc2EL (gN 6) (bYes) (fA (m_told_in) (fCons (fVar 0) (fCons (fVar 6) (fNil)))) (gN 5) (bYes) (f2 (inW false) (fVar 5) (fVar 1)) [5] (eL x lot v2 none none none none none none) (M.map .str) h = some ((M.flatMap fun s => ws.map fun ps => decide (goal ps s ∈ lot)).map .bool, h)
  | [], _ => rfl
  | s :: M, hM => by
    have ih := told_each (lot := lot) (v2 := v2) (h := h) hx nd c hw M fun t ht => hM t (List.mem_cons_of_mem _ ht)
    have hs := hM s List.mem_cons_self
    have es : (gN 6) (.dat (.str s)) (eL x lot v2 none none none none none none) h = some (eL x lot v2 none none none (some (.dat (.str s))) none none) := rfl
    have ew : wipeE (eL x lot v2 none none none (some (.dat (.str s))) none none) [5] = eL x lot v2 none none none (some (.dat (.str s))) none none := rfl
    have et : fA (m_told_in) (fCons (fVar 0) (fCons (fVar 6) (fNil))) (eL x lot v2 none none none (some (.dat (.str s))) none none) h = some (.dat (.list ((ws.map fun ps => goal ps s).map .str)), h) := xA (xC (E := fVar 0) rfl (xC (E := fVar 6) rfl xN)) (told_in_ok hx hs nd c hw)
    have el : lcL (gN 5) bYes (f2 (inW false) (fVar 5) (fVar 1)) (eL x lot v2 none none none (some (.dat (.str s))) none none) ((ws.map fun ps => goal ps s).map .str) h = some ((ws.map fun ps => goal ps s).map fun t => PyData.bool (decide (t ∈ lot)), h) := lcL_list PyData.str (fun t => PyData.bool (decide (t ∈ lot))) fun t ht =>
      ⟨eL x lot v2 none none (some (.dat (.str t))) (some (.dat (.str s))) none none, rfl, x2 (A := fVar 5) (B := fVar 1) rfl rfl in_rowT⟩
    have er : ((ws.map fun ps => goal ps s).map fun t => PyData.bool (decide (t ∈ lot))) = (ws.map fun ps => decide (goal ps s ∈ lot)).map .bool := by
      rw [List.map_map, List.map_map]; rfl
    rw [er] at el
    rw [List.map_cons]
    unfold lc2EL
    simp only [es, bYes, obnd, if_true, et, datE, ew, el, ih]
    rw [List.flatMap_cons, List.map_append]
theorem len0 (T : List Str) : decide ((T.length : Int) = 0) = decide (T = []) := by
  rw [decide_eq_decide]
  constructor
  · intro q
    exact List.length_eq_zero_iff.mp (by omega)
  · intro q
    rw [q]
    rfl
def riseB (T : List Str) : Bool := (T.zip (T.drop 1)).all fun p => decide (p.1.cps.toList < p.2.cps.toList)
def clB (ws : List (List (Str × Str))) (T : List Str) : Bool := T.all fun s => ws.all fun ps => decide (goal ps s ∈ T)
def isLotB (l : List Str) (ws : List (List (Str × Str))) (T : List Str) : Bool := !decide (T = []) && (T.all (fun s => decide (s ∈ l)) && (riseB T && clB ws T))
theorem is_lot_row {lb : Bool} {x : D} {T l : List Str} {ws : List (List (Str × Str))} {h : Hh} (hx : IsSeq x (ws.map (cD lb))) (nd : l.Nodup) (c : Words l ws) (hl : l.length ≤ 100) (hw : ws.length ≤ 100) (w0 : ws ≠ []) (hT : T.length ≤ 100) :
    m_is_lot [.dat x, .dat (rowT T)] h = some (.dat (.bool (isLotB l ws T)), h) := by
  have hz : sizeLine = 16777216 := rfl
  have ln : lenW [.dat (rowT T)] h = some (.dat (.int (T.length : Int)), h) := by
    have q : ((T.map PyData.str).length : Int) = (T.length : Int) := by rw [List.length_map]
    unfold lenW
    simp only [deref, q]; rfl
  have c0 : fB (f2 (eqW false) (fA lenW (fCons (fVar 1) (fNil))) (fC (.int 0))) (eL x T none none none none none none none) h = some (decide (T = []), h) := xB (x2 (xA (xC (E := fVar 1) rfl xN) ln) (B := fC (.int 0)) rfl (eq_i (len0 T)))
  unfold m_is_lot
  refine fnM_rt (h' := h) (w := .dat (.bool (isLotB l ws T))) ?_ rfl leave_same'
  show sSeq _ _ (eL x T none none none none none none none) h = _
  by_cases t0 : T = []
  · have e : isLotB l ws T = false := by unfold isLotB; rw [decide_eq_true t0]; rfl
    rw [decide_eq_true t0] at c0
    rw [e]
    exact zIt (xO (xT (E := f1 (isiW ["tuple"]) (fVar 1)) rfl) (xOT c0)) rfl
  rw [decide_eq_false t0] at c0
  obtain ⟨K, ek, mk, sk⟩ := kn_outer (lb := lb) (x := x) (lot := T) (h := h) (l := l) (by omega) (ws := ws) (K := []) c (fun s hs => by cases hs) List.nodup_nil
  have mk := mk (.inl w0)
  have ed : fDc2 false (seqI (fVar 0)) (gN 3) 3 (gT 2 (gC (gN 4) (gC (gN 5) (gE)))) (fVar 4) (fC (.bool true)) [3, 4, 5] [4, 5] (eL x T none none none none none none none) h = some (.dat (.dict (knw K)), h) := by
    unfold fDc2
    rw [xS (E := fVar 0) (x := x) (h1 := h) rfl hx]
    show obnd (dc2L _ _ _ _ _ _ (eL x T none none none none none none none) _ (knw []) h) _ = _
    rw [ek]; rfl
  refine (zI (xO (xT (E := f1 (isiW ["tuple"]) (fVar 1)) rfl) (xO c0 (xT (by
    have q := xAllB PyData.str (fun _ => true) (xs := T) (ρ := eL x T none none none none none none none) (h := h) (IT := seqI (fVar 1)) (k := gN 6) (f := f1 (isiW ["str"]) (fVar 6)) (vs := [6]) (xS (E := fVar 1) (x := rowT T) rfl (.inr rfl)) (fun s hs => ⟨eL x T none none none none (some (.dat (.str s))) none none, rfl, rfl⟩) (by omega)
    have : (T.all fun _ => true) = true := by simp
    rwa [this] at q))))).trans ?_
  refine (zA (ρ1 := eL x T (some (.dat (.dict (knw K)))) none none none none none none) ed rfl).trans ?_
  have i2 : ∀ s, inW false (.dat (.str s)) (.dat (.dict (knw K))) h = some (.dat (.bool (decide (s ∈ l))), h) := fun s => by
    have g := getD_sdic (K.map fun s => (s, PyData.bool true)) s
    rw [knw_look] at g
    have ei : (s ∈ K) = (s ∈ l) := propext ⟨sk s, mk s⟩
    by_cases z : s ∈ l
    · rw [if_pos (ei ▸ z)] at g
      rw [decide_eq_true z]
      unfold inW
      simp only [deref, g]
      rfl
    · rw [if_neg (ei ▸ z)] at g
      rw [decide_eq_false z]
      unfold inW
      simp only [deref, g]
      rfl
  have aM := xAllB PyData.str (fun s => decide (s ∈ l)) (xs := T) (ρ := eL x T (some (.dat (.dict (knw K)))) none none none none none none) (h := h) (IT := seqI (fVar 1)) (k := gN 6) (f := f2 (inW false) (fVar 6) (fVar 2)) (vs := [6]) (xS (E := fVar 1) (x := rowT T) rfl (.inr rfl)) (fun s hs => ⟨eL x T (some (.dat (.dict (knw K)))) none none none (some (.dat (.str s))) none none, rfl, x2 (A := fVar 6) (B := fVar 2) rfl rfl (i2 s)⟩) (by omega)
  by_cases tm : (T.all fun s => decide (s ∈ l)) = true
  case neg =>
    have e : isLotB l ws T = false := by unfold isLotB; rw [Bool.not_eq_true _ |>.mp tm]; simp
    rw [Bool.not_eq_true _ |>.mp tm] at aM
    rw [e]
    exact zIt (xOT (xTn aM)) rfl
  rw [tm] at aM
  have zi : zipI (fCons (fVar 1) (fCons (fSl false (fVar 1) (oSome (fC (.int 1))) (oNone)) (fNil))) (eL x T (some (.dat (.dict (knw K)))) none none none none none none) h = some ((T.zip (T.drop 1)).map prT, h) := by
    have z1 : zipD (T.map .str) ((T.map .str).drop 1) = (T.zip (T.drop 1)).map fun p => prT p := by
      rw [← List.map_drop, zipD_map]
      first | rfl | done
    have ok : zipOk (T.map .str) ((T.map .str).drop 1) = true := zipOk_S T _
    have s : fSl false (fVar 1) (oSome (fC (.int 1))) (oNone) (eL x T (some (.dat (.dict (knw K)))) none none none none none none) h = some (.dat (.tuple ((T.map .str).drop 1)), h) := sl_fromT (A := fVar 1) (E := fC (.int 1)) rfl rfl (cut_from1 _)
    unfold zipI
    rw [xC (E := fVar 1) rfl (xC s xN)]
    simp only [obnd_some, ok, if_true, z1]
    try rfl
  have zl : (T.zip (T.drop 1)).length ≤ T.length := by rw [List.length_zip]; omega
  have aR := xAllB prT (fun p => decide (p.1.cps.toList < p.2.cps.toList)) (xs := T.zip (T.drop 1)) (k := gT 2 (gC (gN 7) (gC (gN 8) (gE)))) (f := f2 lt_W (fVar 7) (fVar 8)) (vs := [7, 8]) zi (fun p hp => ⟨eL x T (some (.dat (.dict (knw K)))) none none none none (some (.dat (.str p.1))) (some (.dat (.str p.2))), rfl, x2 (A := fVar 7) (B := fVar 8) rfl rfl (by unfold lt_W ltW; simp only [deref]; rfl)⟩) (by omega)
  change fA allW _ _ _ = some (.dat (.bool (riseB T)), h) at aR
  by_cases tr : riseB T = true
  case neg =>
    have e : isLotB l ws T = false := by unfold isLotB; rw [Bool.not_eq_true _ |>.mp tr]; simp
    rw [Bool.not_eq_true _ |>.mp tr] at aR
    rw [e]
    exact zIt (xO (xT aM) (xTn aR)) rfl
  rw [tr] at aR
  have sub : ∀ s ∈ T, s ∈ l := fun s hs => by simpa using List.all_eq_true.mp tm s hs
  have e : isLotB l ws T = clB ws T := by unfold isLotB; rw [decide_eq_false t0, tm, tr]; rfl
  rw [e]
  refine (zI (xO (xT aM) (xT aR))).trans ?_
  have te := told_each (lot := T) (v2 := some (.dat (.dict (knw K)))) (h := h) hx nd c (by omega) T sub
  have fl : ∀ M : List Str, (M.flatMap fun s => ws.map fun ps => decide (goal ps s ∈ T)).length = M.length * ws.length := fun M => by
    induction M with
    | nil => simp
    | cons a M ih => rw [List.flatMap_cons, List.length_append, ih, List.length_map, List.length_cons, Nat.succ_mul, Nat.add_comm]
  have mu : T.length * ws.length ≤ 100 * 100 := Nat.mul_le_mul hT hw
  have e4 : fLc2E false (seqI (fVar 1)) (gN 6) (bYes) (fA (m_told_in) (fCons (fVar 0) (fCons (fVar 6) (fNil)))) (gN 5) (bYes) (f2 (inW false) (fVar 5) (fVar 1)) [6, 5] [5] (eL x T (some (.dat (.dict (knw K)))) none none none none none none) h = some (.dat (.list ((T.flatMap fun s => ws.map fun ps => decide (goal ps s ∈ T)).map .bool)), h) := by
    unfold fLc2E
    rw [xS (E := fVar 1) (x := rowT T) (ds := T.map .str) (h1 := h) rfl (.inr rfl)]
    show obnd (lc2EL _ _ _ _ _ _ _ (eL x T (some (.dat (.dict (knw K)))) none none none none none none) _ h) _ = _
    rw [te]
    simp only [obnd, List.length_map, fl]
    rw [if_pos (by omega)]; rfl
  refine zR (xA (xC e4 xN) (all_b ?_))
  have fb : ∀ M : List Str, (M.flatMap fun s => ws.map fun ps => decide (goal ps s ∈ T)).all id = M.all fun s => ws.all fun ps => decide (goal ps s ∈ T) := fun M => by
    induction M with
    | nil => rfl
    | cons a M ih => rw [List.flatMap_cons, List.all_append, ih, List.all_cons, List.all_map]; rfl
  exact fb T
theorem is_lot_non {x d : D} {h : Hh} (hd : isT1 "tuple" d = false) (hn : ∀ es, d ≠ .dict es) : m_is_lot [.dat x, .dat d] h = some (.dat (.bool false), h) := by
  unfold m_is_lot
  refine fnM_rt (h' := h) (w := .dat (.bool false)) ?_ rfl leave_same'
  have q : f1 (isiW ["tuple"]) (fVar 1) [some (.dat x), some (.dat d), none, none, none, none, none, none, none] h = some (.dat (.bool false), h) := by
    cases d with
    | dict es => exact absurd rfl (hn es)
    | tuple ds => exact absurd hd (by show ¬ (true = false); decide)
    | _ => rfl
  exact zIt (xOT (xTn q)) rfl
theorem is_lot_n1 {x : D} {h : Hh} : m_is_lot [.dat x, .dat (.tuple [.none])] h = some (.dat (.bool false), h) := by
  unfold m_is_lot
  refine fnM_rt (h' := h) (w := .dat (.bool false)) ?_ rfl leave_same'
  refine zIt (xO (xT (E := f1 (isiW ["tuple"]) (fVar 1)) rfl) (xO (h1 := h) ?_ (xTn (b := false) (h1 := h) ?_))) rfl
  · rfl
  · rfl
theorem is_lot_n2 {x : D} {h : Hh} : m_is_lot [.dat x, .dat (.tuple [.list [.str "a"]])] h = some (.dat (.bool false), h) := by
  unfold m_is_lot
  refine fnM_rt (h' := h) (w := .dat (.bool false)) ?_ rfl leave_same'
  refine zIt (xO (xT (E := f1 (isiW ["tuple"]) (fVar 1)) rfl) (xO (h1 := h) ?_ (xTn (b := false) (h1 := h) ?_))) rfl
  · rfl
  · rfl
theorem rise_pw : ∀ {T : List Str}, riseB T = true → T.Pairwise (fun a b => leS a b = true ∧ a ≠ b)
  | [], _ => .nil
  | [a], _ => List.pairwise_singleton _ _
  | a :: b :: T, h => by
    have h' : decide (a.cps.toList < b.cps.toList) = true ∧ riseB (b :: T) = true := by
      unfold riseB at h ⊢
      rw [show (a :: b :: T).drop 1 = b :: T from rfl, List.zip_cons_cons, List.all_cons, Bool.and_eq_true] at h
      exact h
    have ih := rise_pw h'.2
    have ab := of_decide_eq_true h'.1
    have lab : leS a b = true := by
      unfold leS
      rw [decide_eq_true_eq]
      exact List.le_of_lt ab
    have nab : a ≠ b := fun z => by subst z; exact List.lt_irrefl _ ab
    refine List.pairwise_cons.mpr ⟨fun x hx => ?_, ih⟩
    rcases List.mem_cons.mp hx with rfl | hx
    · exact ⟨lab, nab⟩
    · have bx := (List.pairwise_cons.mp ih).1 x hx
      refine ⟨leS_trans _ _ _ lab bx.1, fun z => ?_⟩
      subst z
      exact nab (leS_antisymm lab bx.1)
theorem pw_rise {T : List Str} (nl : T.Nodup) (pw : T.Pairwise fun a b => leS a b = true) : riseB T = true := by
  unfold riseB
  rw [List.all_eq_true]
  intro p hp
  obtain ⟨i, hi, e⟩ := List.getElem_of_mem hp
  rw [List.getElem_zip] at e
  rw [List.length_zip] at hi
  have h1 : i < T.length := by omega
  have h2 : i + 1 < T.length := by rw [List.length_drop] at hi; omega
  have e1 : T[i] = p.1 := congrArg Prod.fst e
  have e2 : T[i + 1] = p.2 := by
    have := congrArg Prod.snd e
    rw [← this]
    simp only [List.getElem_drop]
    congr 1
    omega
  have le := List.pairwise_iff_getElem.mp pw i (i + 1) h1 h2 (by omega)
  have ne := List.pairwise_iff_getElem.mp nl i (i + 1) h1 h2 (by omega)
  rw [e1, e2] at le ne
  rw [decide_eq_true_eq]
  apply Classical.byContradiction
  intro q
  exact ne (leS_antisymm le (by unfold leS; rw [decide_eq_true_eq]; exact List.not_lt.mp q))
abbrev setS (T : List Str) : List Str := sortS (uq T)
theorem setS_mem {T : List Str} {s : Str} : s ∈ setS T ↔ s ∈ T := by
  unfold setS
  rw [(sortS_perm _).mem_iff, uq_mem]
theorem rise_iff {T : List Str} : riseB T = true ↔ T = setS T := by
  constructor
  · intro h
    have pw := rise_pw h
    have nd : T.Nodup := pw.imp fun q => q.2
    have ps : T.Pairwise fun a b => leS a b = true := pw.imp fun q => q.1
    have p : T.Perm (uq T) := perm_mem nd (uq_nodup _) fun s => uq_mem.symm
    have e := sortS_eq p
    rw [sortS_self ps] at e
    exact e
  · intro h
    have nd : T.Nodup := by rw [h]; exact (sortS_perm _).nodup_iff.mpr (uq_nodup _)
    have ps : T.Pairwise fun a b => leS a b = true := by rw [h]; exact sortS_pw _
    exact pw_rise nd ps
theorem rise_dec {T : List Str} : decide (T = setS T) = riseB T := by
  by_cases z : riseB T = true
  · rw [z, decide_eq_true (rise_iff.mp z)]
  · rw [Bool.not_eq_true _ |>.mp z]
    exact decide_eq_false fun q => z (rise_iff.mpr q)
theorem sortT_set {T : List Str} {h : Hh} (hT : T.length ≤ 100) : sortTW false [.dat (rowT T)] h = some (.dat (.list ((setS T).map .str)), h) := by
  have e := rowS_strs T
  unfold sortTW
  simp only [deref, e]
  rw [if_pos (by omega)]
  rfl
noncomputable def clI : SM := (sIf (bAnd (fB (f2 (inW false) (fVar 3) (fVar 1))) (fB (f2 (inW true) (fVar 4) (fVar 1)))) (sRet (fC (.bool false))) (sSkip))
theorem notin_rowT {s : Str} {r : List Str} {h : Hh} : inW true (.dat (.str s)) (.dat (rowT r)) h = some (.dat (.bool (!decide (s ∈ r))), h) := by
  obtain ⟨a, b⟩ := in_strs (s := s) (r := r)
  unfold inW
  simp only [deref]
  rw [if_pos a, b]; rfl
theorem cl_inner {x Q : D} {T : List Str} {h : Hh} : ∀ (ps : List (Str × Str)) (v3 v4 : Option W), ∃ w3 w4 : Option W,
    forL (gT 2 (gC (gN 3) (gC (gN 4) (gE)))) clI (ps.map prT) [some (.dat x), some (.dat (rowT T)), some (.dat Q), v3, v4] h = some (if (ps.all fun p => !decide (p.1 ∈ T) || decide (p.2 ∈ T)) = true then .nx [some (.dat x), some (.dat (rowT T)), some (.dat Q), w3, w4] else .rt (.dat (.bool false)), h)
  | [], v3, v4 => ⟨v3, v4, rfl⟩
  | (a, b) :: ps, v3, v4 => by
    obtain ⟨w3, w4, e⟩ := cl_inner (x := x) (Q := Q) (T := T) (h := h) ps (some (.dat (.str a))) (some (.dat (.str b)))
    have k : gT 2 (gC (gN 3) (gC (gN 4) (gE))) (.dat (prT (a, b))) [some (.dat x), some (.dat (rowT T)), some (.dat Q), v3, v4] h = some [some (.dat x), some (.dat (rowT T)), some (.dat Q), some (.dat (.str a)), some (.dat (.str b))] := rfl
    have t1 : fB (f2 (inW false) (fVar 3) (fVar 1)) [some (.dat x), some (.dat (rowT T)), some (.dat Q), some (.dat (.str a)), some (.dat (.str b))] h = some (decide (a ∈ T), h) := xB (x2 (A := fVar 3) (B := fVar 1) rfl rfl in_rowT)
    have t2 : fB (f2 (inW true) (fVar 4) (fVar 1)) [some (.dat x), some (.dat (rowT T)), some (.dat Q), some (.dat (.str a)), some (.dat (.str b))] h = some (!decide (b ∈ T), h) := xB (x2 (A := fVar 4) (B := fVar 1) rfl rfl notin_rowT)
    refine ⟨w3, w4, ?_⟩
    rw [List.map_cons, List.all_cons]
    unfold forL
    simp only [k]
    by_cases ha : a ∈ T
    · by_cases hb : b ∈ T
      · have tt : bAnd (fB (f2 (inW false) (fVar 3) (fVar 1))) (fB (f2 (inW true) (fVar 4) (fVar 1))) [some (.dat x), some (.dat (rowT T)), some (.dat Q), some (.dat (.str a)), some (.dat (.str b))] h = some (false, h) := bAndT (by rw [t1, decide_eq_true ha]) (by rw [t2, decide_eq_true hb]; rfl)
        have ei : clI [some (.dat x), some (.dat (rowT T)), some (.dat Q), some (.dat (.str a)), some (.dat (.str b))] h = some (.nx [some (.dat x), some (.dat (rowT T)), some (.dat Q), some (.dat (.str a)), some (.dat (.str b))], h) := by
          unfold clI sIf
          simp only [tt, sbnd, Bool.false_eq_true, if_false, sSkip]
        simp only [ei]
        rw [e, decide_eq_true hb, Bool.or_true, Bool.true_and]
      · have tt : bAnd (fB (f2 (inW false) (fVar 3) (fVar 1))) (fB (f2 (inW true) (fVar 4) (fVar 1))) [some (.dat x), some (.dat (rowT T)), some (.dat Q), some (.dat (.str a)), some (.dat (.str b))] h = some (true, h) := bAndT (by rw [t1, decide_eq_true ha]) (by rw [t2, decide_eq_false hb]; rfl)
        have ei : clI [some (.dat x), some (.dat (rowT T)), some (.dat Q), some (.dat (.str a)), some (.dat (.str b))] h = some (.rt (.dat (.bool false)), h) := by
          unfold clI sIf
          simp only [tt, sbnd, if_true]
          rfl
        simp only [ei]
        rw [decide_eq_true ha, decide_eq_false hb]
        rfl
    · have tt : bAnd (fB (f2 (inW false) (fVar 3) (fVar 1))) (fB (f2 (inW true) (fVar 4) (fVar 1))) [some (.dat x), some (.dat (rowT T)), some (.dat Q), some (.dat (.str a)), some (.dat (.str b))] h = some (false, h) := bAndF (by rw [t1, decide_eq_false ha])
      have ei : clI [some (.dat x), some (.dat (rowT T)), some (.dat Q), some (.dat (.str a)), some (.dat (.str b))] h = some (.nx [some (.dat x), some (.dat (rowT T)), some (.dat Q), some (.dat (.str a)), some (.dat (.str b))], h) := by
        unfold clI sIf
        simp only [tt, sbnd, Bool.false_eq_true, if_false, sSkip]
      simp only [ei]
      rw [e, decide_eq_false ha, Bool.not_false, Bool.true_or, Bool.true_and]
theorem cl_outer {x : D} {T : List Str} {h : Hh} : ∀ (ws : List (List (Str × Str))) (v2 v3 v4 : Option W), ∃ w2 w3 w4 : Option W,
    forL (gN 2) (sFor (seqI (fVar 2)) (gT 2 (gC (gN 3) (gC (gN 4) (gE)))) clI) (ws.map cT) [some (.dat x), some (.dat (rowT T)), v2, v3, v4] h = some (if (ws.all fun ps => ps.all fun p => !decide (p.1 ∈ T) || decide (p.2 ∈ T)) = true then .nx [some (.dat x), some (.dat (rowT T)), w2, w3, w4] else .rt (.dat (.bool false)), h)
  | [], v2, v3, v4 => ⟨v2, v3, v4, rfl⟩
  | ps :: ws, v2, v3, v4 => by
    obtain ⟨u3, u4, e1⟩ := cl_inner (x := x) (Q := cT ps) (T := T) (h := h) ps v3 v4
    obtain ⟨w2, w3, w4, e2⟩ := cl_outer (x := x) (T := T) (h := h) ws (some (.dat (cT ps))) u3 u4
    refine ⟨w2, w3, w4, ?_⟩
    have k : gN 2 (.dat (cT ps)) [some (.dat x), some (.dat (rowT T)), v2, v3, v4] h = some [some (.dat x), some (.dat (rowT T)), some (.dat (cT ps)), v3, v4] := rfl
    have si : seqI (fVar 2) [some (.dat x), some (.dat (rowT T)), some (.dat (cT ps)), v3, v4] h = some (ps.map prT, h) := xS (E := fVar 2) (x := cT ps) rfl (.inr rfl)
    have ei : sFor (seqI (fVar 2)) (gT 2 (gC (gN 3) (gC (gN 4) (gE)))) clI [some (.dat x), some (.dat (rowT T)), some (.dat (cT ps)), v3, v4] h = some (if (ps.all fun p => !decide (p.1 ∈ T) || decide (p.2 ∈ T)) = true then .nx [some (.dat x), some (.dat (rowT T)), some (.dat (cT ps)), u3, u4] else .rt (.dat (.bool false)), h) := by
      unfold sFor
      simp only [si, sbnd, e1]
    rw [List.map_cons, List.all_cons]
    unfold forL
    simp only [k, ei]
    by_cases z : (ps.all fun p => !decide (p.1 ∈ T) || decide (p.2 ∈ T)) = true
    · simp only [z, if_true, Bool.true_and]
      exact e2
    · simp only [Bool.not_eq_true _ |>.mp z, Bool.false_eq_true, if_false, Bool.false_and]
theorem cl_iff {l T : List Str} {ws : List (List (Str × Str))} (nd : l.Nodup) (c : Words l ws) (sub : ∀ s ∈ T, s ∈ l) : (ws.all fun ps => ps.all fun p => !decide (p.1 ∈ T) || decide (p.2 ∈ T)) = clB ws T := by
  rw [Bool.eq_iff_iff]
  unfold clB
  simp only [List.all_eq_true, Bool.or_eq_true, Bool.not_eq_true', decide_eq_false_iff_not, decide_eq_true_eq]
  constructor
  · intro q s hs ps hp
    have cp := c ps hp
    have hm : s ∈ ps.map (·.1) := cp.perm.mem_iff.mpr (sub s hs)
    obtain ⟨p, hpp, rfl⟩ := List.mem_map.mp hm
    have g := goal_of (cp.nodup nd) p hpp
    rw [g]
    exact (q ps hp p hpp).resolve_left fun z => z hs
  · intro q ps hp p hpp
    have cp := c ps hp
    by_cases z : p.1 ∈ T
    · right
      have := q p.1 z ps hp
      rwa [goal_of (cp.nodup nd) p hpp] at this
    · exact .inl z
theorem closed_ok {l T : List Str} {ws : List (List (Str × Str))} {h : Hh} (nd : l.Nodup) (c : Words l ws) (sub : ∀ s ∈ T, s ∈ l) : m__law_closed [.dat (.list (ws.map cT)), .dat (rowT T)] h = some (.dat (.bool (clB ws T)), h) := by
  obtain ⟨w2, w3, w4, e⟩ := cl_outer (x := .list (ws.map cT)) (T := T) (h := h) ws none none none
  rw [cl_iff nd c sub] at e
  have eq : m__law_closed = fnM false 2 5 (sSeq (sFor (seqI (fVar 0)) (gN 2) (sFor (seqI (fVar 2)) (gT 2 (gC (gN 3) (gC (gN 4) (gE)))) clI)) (sRet (fC (.bool true)))) := rfl
  rw [eq]
  have si : seqI (fVar 0) [some (.dat (.list (ws.map cT))), some (.dat (rowT T)), none, none, none] h = some (ws.map cT, h) := xS (E := fVar 0) rfl (.inl rfl)
  refine fnM_rt (h' := h) (w := .dat (.bool (clB ws T))) ?_ rfl leave_same'
  show sSeq _ _ [some (.dat (.list (ws.map cT))), some (.dat (rowT T)), none, none, none] h = _
  have sf : sFor (seqI (fVar 0)) (gN 2) (sFor (seqI (fVar 2)) (gT 2 (gC (gN 3) (gC (gN 4) (gE)))) clI) [some (.dat (.list (ws.map cT))), some (.dat (rowT T)), none, none, none] h = some (if clB ws T = true then .nx [some (.dat (.list (ws.map cT))), some (.dat (rowT T)), w2, w3, w4] else .rt (.dat (.bool false)), h) := by
    show sbnd (seqI (fVar 0) _ h) _ = _
    rw [si]
    exact e
  unfold sSeq
  rw [sf]
  cases clB ws T with
  | true => rfl
  | false => rfl
theorem due_row {T l : List Str} {ws : List (List (Str × Str))} {h : Hh} (nd : l.Nodup) (c : Words l ws) (hl : l.length ≤ 100) (hT : T.length ≤ 100) (tT : Txts T) :
    m__law_due [.dat (.list (l.map .str)), .dat (.list (ws.map cT)), .dat (rowT T)] h = some (.dat (.bool (isLotB l ws T)), h) := by
  have hz : sizeLine = 16777216 := rfl
  have ln : lenW [.dat (rowT T)] h = some (.dat (.int (T.length : Int)), h) := by
    have q : ((T.map PyData.str).length : Int) = (T.length : Int) := by rw [List.length_map]
    unfold lenW
    simp only [deref, q]; rfl
  have c0 : fB (f2 (eqW false) (fA lenW (fCons (fVar 2) (fNil))) (fC (.int 0))) [some (.dat (.list (l.map .str))), some (.dat (.list (ws.map cT))), some (.dat (rowT T)), none] h = some (decide (T = []), h) := xB (x2 (xA (xC (E := fVar 2) rfl xN) ln) (B := fC (.int 0)) rfl (eq_i (len0 T)))
  unfold m__law_due
  refine fnM_rt (h' := h) (w := .dat (.bool (isLotB l ws T))) ?_ rfl leave_same'
  show sSeq _ _ [some (.dat (.list (l.map .str))), some (.dat (.list (ws.map cT))), some (.dat (rowT T)), none] h = _
  by_cases t0 : T = []
  · have e : isLotB l ws T = false := by unfold isLotB; rw [decide_eq_true t0]; rfl
    rw [decide_eq_true t0] at c0
    rw [e]
    exact zIt (xO (xT (E := f1 (isiW ["tuple"]) (fVar 2)) rfl) (xOT c0)) rfl
  rw [decide_eq_false t0] at c0
  refine (zI (xO (xT (E := f1 (isiW ["tuple"]) (fVar 2)) rfl) (xO c0 (xT (by
    have q := xAllB PyData.str (fun _ => true) (xs := T) (ρ := [some (.dat (.list (l.map .str))), some (.dat (.list (ws.map cT))), some (.dat (rowT T)), none]) (h := h) (IT := seqI (fVar 2)) (k := gN 3) (f := f1 (isiW ["str"]) (fVar 3)) (vs := [3]) (xS (E := fVar 2) (x := rowT T) rfl (.inr rfl)) (fun s hs => ⟨[some (.dat (.list (l.map .str))), some (.dat (.list (ws.map cT))), some (.dat (rowT T)), some (.dat (.str s))], rfl, rfl⟩) (by omega)
    have : (T.all fun _ => true) = true := by simp
    rwa [this] at q))))).trans ?_
  have tS : Txts (setS T) := fun s hs => tT s (setS_mem.mp hs)
  have eL := eqW_lists (neg := true) (h := h) tT tS
  rw [if_pos rfl, rise_dec] at eL
  have aL : fB (f2 (eqW true) (fA (listW false) (fCons (fVar 2) (fNil))) (fA (sortTW false) (fCons (fVar 2) (fNil)))) [some (.dat (.list (l.map .str))), some (.dat (.list (ws.map cT))), some (.dat (rowT T)), none] h = some (!riseB T, h) := xB (x2 (f := eqW true) (xA (xC (E := fVar 2) rfl xN) (xList (.inr rfl))) (xA (xC (E := fVar 2) rfl xN) (sortT_set hT)) eL)
  have aM := xAllB PyData.str (fun s => decide (s ∈ l)) (xs := T) (ρ := [some (.dat (.list (l.map .str))), some (.dat (.list (ws.map cT))), some (.dat (rowT T)), none]) (h := h) (IT := seqI (fVar 2)) (k := gN 3) (f := f2 (inW false) (fVar 3) (fVar 0)) (vs := [3]) (xS (E := fVar 2) (x := rowT T) rfl (.inr rfl)) (fun s hs => ⟨[some (.dat (.list (l.map .str))), some (.dat (.list (ws.map cT))), some (.dat (rowT T)), some (.dat (.str s))], rfl, x2 (A := fVar 3) (B := fVar 0) rfl rfl (in_seq (.inl rfl))⟩) (by omega)
  by_cases tr : riseB T = true
  case neg =>
    have e : isLotB l ws T = false := by unfold isLotB; rw [Bool.not_eq_true _ |>.mp tr]; simp
    rw [Bool.not_eq_true _ |>.mp tr] at aL
    rw [e]
    exact zIt (xOT aL) rfl
  rw [tr] at aL
  by_cases tm : (T.all fun s => decide (s ∈ l)) = true
  case neg =>
    have e : isLotB l ws T = false := by unfold isLotB; rw [Bool.not_eq_true _ |>.mp tm]; simp
    rw [Bool.not_eq_true _ |>.mp tm] at aM
    rw [e]
    exact zIt (xO aL (xTn aM)) rfl
  rw [tm] at aM
  have sub : ∀ s ∈ T, s ∈ l := fun s hs => by simpa using List.all_eq_true.mp tm s hs
  have e : isLotB l ws T = clB ws T := by unfold isLotB; rw [decide_eq_false t0, tm, tr]; rfl
  rw [e]
  refine (zI (xO aL (xT aM))).trans ?_
  exact zR (xA (xC (E := fVar 1) rfl (xC (E := fVar 2) rfl xN)) (closed_ok nd c sub))
theorem due_non {x y d : D} {h : Hh} (hd : isT1 "tuple" d = false) (hn : ∀ es, d ≠ .dict es) : m__law_due [.dat x, .dat y, .dat d] h = some (.dat (.bool false), h) := by
  unfold m__law_due
  refine fnM_rt (h' := h) (w := .dat (.bool false)) ?_ rfl leave_same'
  have q : f1 (isiW ["tuple"]) (fVar 2) [some (.dat x), some (.dat y), some (.dat d), none] h = some (.dat (.bool false), h) := by
    cases d with
    | dict es => exact absurd rfl (hn es)
    | tuple ds => exact absurd hd (by show ¬ (true = false); decide)
    | _ => rfl
  exact zIt (xOT (xTn q)) rfl
theorem due_n1 {x y : D} {h : Hh} : m__law_due [.dat x, .dat y, .dat (.tuple [.none])] h = some (.dat (.bool false), h) := by
  unfold m__law_due
  refine fnM_rt (h' := h) (w := .dat (.bool false)) ?_ rfl leave_same'
  refine zIt (xO (xT (E := f1 (isiW ["tuple"]) (fVar 2)) rfl) (xO (h1 := h) ?_ (xTn (b := false) (h1 := h) ?_))) rfl
  · rfl
  · rfl
theorem due_n2 {x y : D} {h : Hh} : m__law_due [.dat x, .dat y, .dat (.tuple [.list [.str "a"]])] h = some (.dat (.bool false), h) := by
  unfold m__law_due
  refine fnM_rt (h' := h) (w := .dat (.bool false)) ?_ rfl leave_same'
  refine zIt (xO (xT (E := f1 (isiW ["tuple"]) (fVar 2)) rfl) (xO (h1 := h) ?_ (xTn (b := false) (h1 := h) ?_))) rfl
  · rfl
  · rfl
def strB : D → Bool
  | .str s => txD (.str s)
  | _ => false
def leafB : D → Bool
  | .none => true
  | .bool _ => true
  | .int i => decide (i = 0)
  | .str s => txD (.str s)
  | .list ds => decide (ds.length ≤ 1) && ds.all strB
  | .tuple ds => decide (ds.length ≤ 1) && ds.all strB
  | _ => false
def thB : D → Bool
  | .list ds => decide (ds.length ≤ 60) && ds.all leafB
  | .tuple ds => decide (ds.length ≤ 60) && ds.all leafB
  | d => leafB d
theorem strB_tx : ∀ {ds : List D}, ds.all strB = true → txDs ds = true ∧ costDs ds ≤ 1004 * ds.length ∧ PyData.depthAll ds = 0
  | [], _ => ⟨rfl, Nat.zero_le _, rfl⟩
  | d :: ds, h => by
    rw [List.all_cons, Bool.and_eq_true] at h
    obtain ⟨a, b, c⟩ := strB_tx h.2
    cases d with
    | str s =>
      have t := str_tx h.1
      have t1 := t.1
      refine ⟨by rw [txDs, a, show txD (.str s) = true from h.1]; rfl, ?_, by rw [PyData.depthAll, c]; rfl⟩
      rw [costDs, costD, List.length_cons]
      omega
    | _ => simp [strB] at h
structure Lay (d : D) (n k : Nat) : Prop where
  lay : d.canLay0 = true
  show_ : d.showable = true
  len : d.shown.length ≤ n
  dep : d.depth ≤ k
theorem lay_tx {d : D} {n k : Nat} (h : txD d = true) (hc : costD d ≤ n) (hd : d.depth ≤ k) : Lay d n k := by
  obtain ⟨a, b, c⟩ := tx_lay h
  exact ⟨a, b, Nat.le_trans c hc, hd⟩
theorem Lay.up {d : D} (x : Lay d 2000 1) : Lay d 200000 2 := ⟨x.lay, x.show_, Nat.le_trans x.len (by omega), Nat.le_trans x.dep (by omega)⟩
theorem leaf_lay : ∀ {d : D}, leafB d = true → Lay d 2000 1
  | .none, _ => lay_tx rfl (by decide) (by decide)
  | .bool b, _ => lay_tx rfl (by cases b <;> decide) (by cases b <;> decide)
  | .int i, h => by
    have : i = 0 := by simpa [leafB] using h
    subst this
    exact ⟨by simp [PyData.canLay0], by simp [PyData.showable], by decide +kernel, by decide⟩
  | .str s, h => by
    have t := str_tx h
    have := t.1
    exact lay_tx h (by rw [costD]; omega) (by rw [show (PyData.str s).depth = 0 from rfl]; omega)
  | .list ds, h => by
    rw [leafB, Bool.and_eq_true, decide_eq_true_eq] at h
    obtain ⟨a, b, c⟩ := strB_tx h.2
    exact lay_tx (by rw [txD]; exact a) (by rw [costD]; omega) (by rw [PyData.depth, c]; omega)
  | .tuple ds, h => by
    rw [leafB, Bool.and_eq_true, decide_eq_true_eq] at h
    obtain ⟨a, b, c⟩ := strB_tx h.2
    exact lay_tx (by rw [txD]; exact a) (by rw [costD]; omega) (by rw [PyData.depth, c]; omega)
  | .dict _, h => by simp [leafB] at h
theorem leaf_lays : ∀ {ds : List D}, ds.all leafB = true → PyData.canLayAll0 ds = true ∧ PyData.showableAll ds = true ∧ ((PyData.shownAll ds).map (·.length)).sum + 2 * (PyData.shownAll ds).length ≤ 2002 * ds.length ∧ PyData.depthAll ds ≤ 1
  | [], _ => ⟨rfl, rfl, Nat.le_refl _, Nat.zero_le _⟩
  | d :: ds, h => by
    rw [List.all_cons, Bool.and_eq_true] at h
    obtain ⟨a1, a2, a3, a4⟩ := leaf_lay h.1
    obtain ⟨b1, b2, b3, b4⟩ := leaf_lays h.2
    refine ⟨by rw [PyData.canLayAll0, a1, b1]; rfl, by rw [PyData.showableAll, a2, b2]; rfl, ?_, by rw [PyData.depthAll]; exact Nat.max_le.mpr ⟨a4, b4⟩⟩
    rw [PyData.shownAll, List.map_cons, List.sum_cons, List.length_cons, List.length_cons]
    omega
theorem th_lay : ∀ {d : D}, thB d = true → Lay d 200000 2 := fun {d} h => by
  cases d with
  | list ds =>
    rw [thB, Bool.and_eq_true, decide_eq_true_eq] at h
    obtain ⟨b1, b2, b3, b4⟩ := leaf_lays h.2
    refine ⟨by rw [PyData.canLay0]; exact b1, by rw [PyData.showable]; exact b2, ?_, by rw [PyData.depth]; omega⟩
    rw [PyData.shown]
    exact Nat.le_trans (listText_len_le _) (by omega)
  | tuple ds =>
    rw [thB, Bool.and_eq_true, decide_eq_true_eq] at h
    obtain ⟨b1, b2, b3, b4⟩ := leaf_lays h.2
    refine ⟨by rw [PyData.canLay0]; exact b1, by rw [PyData.showable]; exact b2, ?_, by rw [PyData.depth]; omega⟩
    rw [PyData.shown]
    exact Nat.le_trans (tupleText_len_le _) (by omega)
  | dict es => simp [thB, leafB] at h
  | none => exact (leaf_lay (d := .none) rfl).up
  | bool b => exact (leaf_lay (d := .bool b) rfl).up
  | int i => exact (leaf_lay (d := .int i) h).up
  | str s => exact (leaf_lay (d := .str s) h).up
theorem repr_th {d : D} {h : Hh} (hd : thB d = true) : reprA [.dat d] h = some (.dat (.str d.shown), h) := by
  obtain ⟨a, b, c, e⟩ := th_lay hd
  have h4 : d.shown.length ≤ sizeLine := Nat.le_trans c (by decide)
  have h5 : shp d = true := by unfold shp; rw [a, Bool.true_and, decide_eq_true_eq]; omega
  have h6 : okI d = true := by
    cases d with
    | int i =>
      have : i = 0 := by simpa [thB, leafB] using hd
      subst this
      decide +kernel
    | dict es => simp [thB, leafB] at hd
    | _ => rfl
  unfold reprA
  simp only [deref, h6, h5, b, h4, Bool.and_self, decide_true, if_true]
  rfl
theorem lcL_filt {α : Type} {k : TM} {t : BM} {f : EM} {ρ : DL.Env} {h : Hh} (em g : α → D) (p : α → Bool) : ∀ {xs : List α}, (∀ x ∈ xs, ∃ ρ1, k (.dat (em x)) ρ h = some ρ1 ∧ t ρ1 h = some (p x, h) ∧ f ρ1 h = some (.dat (g x), h)) → lcL k t f ρ (xs.map em) h = some ((xs.filter p).map g, h)
  | [], _ => rfl
  | x :: xs, H => by
    obtain ⟨ρ1, e1, e2, e3⟩ := H x List.mem_cons_self
    have ih := lcL_filt em g p (xs := xs) fun y hy => H y (List.mem_cons_of_mem _ hy)
    rw [List.map_cons, lcL]
    simp only [e1, e2, obnd]
    cases hp : p x with
    | true =>
      rw [List.filter_cons_of_pos hp, List.map_cons]
      simp only [if_true, e3, ih]
    | false =>
      rw [List.filter_cons_of_neg (by simp [hp])]
      simp only [Bool.false_eq_true, if_false, ih]
theorem idxW_tup {x : List D} {i : Int} {d : D} {h : Hh} (a : L2.atI x i = some d) : idxW (.dat (.tuple x)) (.dat (.int i)) h = some (.dat d, h) := by
  unfold idxW
  simp only [deref, a]
  rfl
theorem sIfF {t : BM} {a : SM} {ρ : DL.Env} {h h1 : Hh} (e : t ρ h = some (false, h1)) : sIf t a sSkip ρ h = some (.nx ρ, h1) := by
  unfold sIf
  simp only [e, sbnd, Bool.false_eq_true, if_false, sSkip]
theorem xLt {IT : IM} {k : TM} {t : BM} {f : EM} {vs : List Nat} {ds rs : List D} {ρ : DL.Env} {h h1 h2 : Hh} (hi : IT ρ h = some (ds, h1)) (e : lcL k t f (wipeE ρ vs) ds h1 = some (rs, h2)) (hl : rs.length ≤ sizeLine) : fLc false IT k t f vs ρ h = some (.dat (.list rs), h2) := by
  unfold fLc
  simp only [hi, obnd, e]
  rw [if_pos hl]
  rfl
inductive Th : D → Prop
  | row (T : List Str) (hT : T.length ≤ 50) (tT : Txts T) : Th (rowT T)
  | non (d : D) (hd : isT1 "tuple" d = false) (ht : thB d = true) : Th d
  | n1 : Th (.tuple [.none])
  | n2 : Th (.tuple [.list [.str "a"]])
theorem leaf_strs : ∀ {T : List Str}, Txts T → (T.map PyData.str).all leafB = true
  | [], _ => rfl
  | s :: T, h => by
    rw [List.map_cons, List.all_cons, leaf_strs fun t ht => h t (List.mem_cons_of_mem _ ht), Bool.and_true]
    exact tx_str (h s List.mem_cons_self)
theorem th_row {T : List Str} (hT : T.length ≤ 50) (tT : Txts T) : thB (rowT T) = true := by
  show (decide ((T.map PyData.str).length ≤ 60) && (T.map PyData.str).all leafB) = true
  rw [leaf_strs tT, Bool.and_true, decide_eq_true_eq, List.length_map]
  omega
theorem th_list {T : List Str} (hT : T.length ≤ 50) (tT : Txts T) : thB (.list (T.map .str)) = true := by
  show (decide ((T.map PyData.str).length ≤ 60) && (T.map PyData.str).all leafB) = true
  rw [leaf_strs tT, Bool.and_true, decide_eq_true_eq, List.length_map]
  omega
theorem th_ok {l : List Str} {ws : List (List (Str × Str))} (nd : l.Nodup) (c : Words l ws) (hl : l.length ≤ 100) (hw : ws.length ≤ 100) (w0 : ws ≠ []) {d : D} (t : Th d) :
    thB d = true ∧ ∃ b : Bool, ∀ h : Hh, m__law_due [.dat (.list (l.map .str)), .dat (.list (ws.map cT)), .dat d] h = some (.dat (.bool b), h) ∧ ∀ lb : Bool, m_is_lot [.dat (.list (ws.map (cD lb))), .dat d] h = some (.dat (.bool b), h) := by
  cases t with
  | row T hT tT => exact ⟨th_row hT tT, _, fun h => ⟨due_row nd c hl (by omega) tT, fun lb => is_lot_row (.inl rfl) nd c hl hw w0 (by omega)⟩⟩
  | non d hd ht => exact ⟨ht, false, fun h => ⟨due_non hd (fun es z => by subst z; simp [thB, leafB] at ht), fun lb => is_lot_non hd (fun es z => by subst z; simp [thB, leafB] at ht)⟩⟩
  | n1 => exact ⟨rfl, false, fun h => ⟨due_n1, fun lb => is_lot_n1⟩⟩
  | n2 => exact ⟨by decide +kernel, false, fun h => ⟨due_n2, fun lb => is_lot_n2⟩⟩
abbrev e65 (b : Nat) (l : List Str) (ws : List (List (Str × Str))) (r : List Str) (v3 v4 v5 v8 v9 v10 v11 v12 v14 : Option W) : DL.Env := [some (.ref b), some (.dat (.list (l.map .str))), some (.dat (.list (ws.map cT))), v3, v4, v5, some (.dat (rowT r)), some (.dat (.list (ws.map (cD true)))), v8, v9, v10, v11, v12, none, v14, none, none, none]
noncomputable def askB : SM := (sSeq (sAsg (fA tupW (fCons (fA reprA (fCons (fVar 5) (fNil))) (fCons (fA (m__law_due) (fCons (fVar 1) (fCons (fVar 2) (fCons (fVar 5) (fNil))))) (fNil)))) (gT 2 (gC (gN 14) (gC (gN 8) (gE)))))
    (sSeq (sAsg (fA (lstW false) (fCons (fA (m_is_lot) (fCons (fVar 2) (fCons (fVar 5) (fNil)))) (fCons (fA (kwM 2 [1, 0] (m_is_lot)) (fCons (fVar 5) (fCons (fVar 7) (fNil)))) (fNil)))) (gN 12))
    (sIf (bOr (bNot (fB (fA (m__law_same 12) (fCons (fVar 12) (fCons (fA (lstW false) (fCons (fVar 8) (fCons (fVar 8) (fNil)))) (fNil)))))) (fB (f2 (eqW true) (fA reprA (fCons (fVar 5) (fNil))) (fVar 14)))) (sRet (fC (.bool false))) (sSkip))))
theorem ask_ok {b : Nat} {l r : List Str} {ws : List (List (Str × Str))} {v3 v4 v8 v9 v10 v11 v12 v14 : Option W} {h : Hh} (nd : l.Nodup) (c : Words l ws) (hl : l.length ≤ 100) (hw : ws.length ≤ 100) (w0 : ws ≠ []) {d : D} (t : Th d) :
    ∃ w8 w12 w14 : Option W, askB (e65 b l ws r v3 v4 (some (.dat d)) v8 v9 v10 v11 v12 v14) h = some (.nx (e65 b l ws r v3 v4 (some (.dat d)) w8 v9 v10 v11 w12 w14), h) := by
  have c2 : 2 ≤ sizeLine := by decide
  obtain ⟨td, q, hq⟩ := th_ok nd c hl hw w0 t
  obtain ⟨e1, e2⟩ := hq h
  have rp := repr_th (h := h) td
  have e3 := e2 false
  rw [cD_false] at e3
  refine ⟨some (.dat (.bool q)), some (.dat (.list [.bool q, .bool q])), some (.dat (.str d.shown)), ?_⟩
  unfold askB
  refine (zA (ρ1 := e65 b l ws r v3 v4 (some (.dat d)) (some (.dat (.bool q))) v9 v10 v11 v12 (some (.dat (.str d.shown)))) (xA (xC (xA (xC (E := fVar 5) rfl xN) rp) (xC (xA (xC (E := fVar 1) rfl (xC (E := fVar 2) rfl (xC (E := fVar 5) rfl xN))) e1) xN)) (xTp (ds := [.str d.shown, .bool q]) rfl c2)) rfl).trans ?_
  refine (zA (ρ1 := e65 b l ws r v3 v4 (some (.dat d)) (some (.dat (.bool q))) v9 v10 v11 (some (.dat (.list [.bool q, .bool q]))) (some (.dat (.str d.shown)))) (xA (xC (xA (xC (E := fVar 2) rfl (xC (E := fVar 5) rfl xN)) e3) (xC (xA (xC (E := fVar 5) rfl (xC (E := fVar 7) rfl xN)) (xK rfl rfl (e2 true))) xN)) (xLst (ds := [.bool q, .bool q]) rfl c2)) rfl).trans ?_
  have sm : m__law_same 12 [.dat (.list [.bool q, .bool q]), .dat (.list [.bool q, .bool q])] h = some (.dat (.bool true), h) := same_refl 12 _ h (by cases q <;> rfl) (by cases q <;> decide)
  have es : eqW true (.dat (.str d.shown)) (.dat (.str d.shown)) h = some (.dat (.bool false), h) := by
    rw [eqW_strs, if_pos rfl, decide_eq_true rfl]; rfl
  exact sIfF (xO (xT (xA (xC (E := fVar 12) rfl (xC (xA (xC (E := fVar 8) rfl (xC (E := fVar 8) rfl xN)) (xLst (ds := [.bool q, .bool q]) rfl c2)) xN)) sm)) (xB (x2 (f := eqW true) (xA (xC (E := fVar 5) rfl xN) rp) (B := fVar 14) rfl es)))
theorem asks_ok {b : Nat} {l r : List Str} {ws : List (List (Str × Str))} {h : Hh} (nd : l.Nodup) (c : Words l ws) (hl : l.length ≤ 100) (hw : ws.length ≤ 100) (w0 : ws ≠ []) :
    ∀ (ds : List D) (v3 v4 v5 v8 v9 v10 v11 v12 v14 : Option W), (∀ d ∈ ds, Th d) → ∃ w5 w8 w12 w14 : Option W, forL (gN 5) askB ds (e65 b l ws r v3 v4 v5 v8 v9 v10 v11 v12 v14) h = some (.nx (e65 b l ws r v3 v4 w5 w8 v9 v10 v11 w12 w14), h)
  | [], v3, v4, v5, v8, v9, v10, v11, v12, v14, _ => ⟨v5, v8, v12, v14, rfl⟩
  | d :: ds, v3, v4, v5, v8, v9, v10, v11, v12, v14, ht => by
    obtain ⟨u8, u12, u14, e1⟩ := ask_ok (b := b) (r := r) (v3 := v3) (v4 := v4) (v8 := v8) (v9 := v9) (v10 := v10) (v11 := v11) (v12 := v12) (v14 := v14) (h := h) nd c hl hw w0 (ht d List.mem_cons_self)
    obtain ⟨w5, w8, w12, w14, e2⟩ := asks_ok nd c hl hw w0 ds v3 v4 (some (.dat d)) u8 v9 v10 v11 u12 u14 fun x hx => ht x (List.mem_cons_of_mem _ hx)
    refine ⟨w5, w8, w12, w14, ?_⟩
    have k : gN 5 (.dat d) (e65 b l ws r v3 v4 v5 v8 v9 v10 v11 v12 v14) h = some (e65 b l ws r v3 v4 (some (.dat d)) v8 v9 v10 v11 v12 v14) := rfl
    unfold forL
    simp only [k, e1]
    exact e2
abbrev e6 (x : D) (who : D) (n : Nat) (v4 v5 : Option W) : DL.Env := [some (.dat x), some (.dat who), some (.ref n), some (.ref (n + 1)), v4, v5]
noncomputable def grT : BM := fB (f2 (eqW true) (fVar 3) (fA (lstW false) (fNil)))
noncomputable def grA : SM := sExpr (fM isL appendW (fVar 3) (fCons (f2 idxW (fA (dictA false) (fCons (fVar 5) (fNil))) (fVar 4)) (fNil)))
noncomputable def grB : SM := (sSeq (sAsg (fM isL popW (fVar 3) fNil) (gN 4))
    (sIf (fB (f2 (inW true) (fVar 4) (fVar 2))) (sSeq (sExpr (fM isL appendW (fVar 2) (fCons (fVar 4) (fNil))))
    (sFor (seqI (fVar 0)) (gN 5) grA)) (sSkip)))
section
variable {x who : D} {n : Nat} {v4 v5 : Option W} {G : Hh}
theorem gr_test {W0 : List Str} (hn : G[n + 1]? = some (some (.lst (W0.map .str)))) (tW : Txts W0) : grT (e6 x who n v4 v5) G = some (!decide (W0 = []), G) := by
  have e := eqW_lists (neg := true) (a := W0) (b := []) (h := G) tW (fun s hs => by cases hs)
  rw [if_pos rfl] at e
  have e2 : eqW true (.ref (n + 1)) (.dat (.list [])) G = some (.dat (.bool (!decide (W0 = []))), G) := by
    rw [← e]
    unfold eqW
    simp only [deref, hn]
    rfl
  unfold grT
  exact xB (x2 (A := fVar 3) rfl (xA xN (xLst (ds := []) rfl (Nat.zero_le _))) e2)
theorem gr_pop {rest : SM} {ds : List D} {w : D} (hn : G[n + 1]? = some (some (.lst (ds ++ [w])))) : sSeq (sAsg (fM isL popW (fVar 3) fNil) (gN 4)) rest (e6 x who n v4 v5) G = rest (e6 x who n (some (.dat w)) v5) (G.set (n + 1) (some (.lst ds))) := by
  have il : isL (.ref (n + 1)) G = true := by simp only [isL, deref, hn]
  have pp : popW (.ref (n + 1)) [] G = some (.dat w, G.set (n + 1) (some (.lst ds))) := by
    have g1 : (ds ++ [w])[(ds ++ [w]).length - 1]? = some w := by simp
    unfold popW lstAt
    simp only [hn, g1, List.dropLast_concat]
    rfl
  have q : fVar 3 (e6 x who n v4 v5) G = some (.ref (n + 1), G) := rfl
  have e : fM isL popW (fVar 3) fNil (e6 x who n v4 v5) G = some (.dat w, G.set (n + 1) (some (.lst ds))) := by
    unfold fM
    simp only [q, obnd, il, if_true, fNil, pp]
  exact zA e rfl
end
theorem gr_in {x : D} {who w : Str} {F : List Str} {W0 : List D} {v4 v5 : Option W} {h : Hh} (hw : w ∈ F) : grB (e6 x (.str who) h.length v4 v5) (h ++ [some (.lst (F.map .str)), some (.lst (W0 ++ [.str w]))]) = some (.nx (e6 x (.str who) h.length (some (.dat (.str w))) v5), h ++ [some (.lst (F.map .str)), some (.lst W0)]) := by
  have tg := two_get (g := h) (o := some (MO.lst (F.map .str))) (o' := some (.lst (W0 ++ [.str w]))) rfl
  have ts := two_set (g := h) (o := some (MO.lst (F.map .str))) (o' := some (.lst (W0 ++ [.str w]))) (z := some (.lst W0)) rfl
  have tg2 := two_get (g := h) (o := some (MO.lst (F.map .str))) (o' := some (.lst W0)) rfl
  unfold grB
  rw [gr_pop tg.2, ts.2]
  have t : fB (f2 (inW true) (fVar 4) (fVar 2)) (e6 x (.str who) h.length (some (.dat (.str w))) v5) (h ++ [some (.lst (F.map .str)), some (.lst W0)]) = some (false, h ++ [some (.lst (F.map .str)), some (.lst W0)]) := xB (x2 (A := fVar 4) (B := fVar 2) rfl rfl (by rw [notin_ref tg2.1, decide_eq_true hw]; rfl))
  unfold sIf
  simp only [t, sbnd, Bool.false_eq_true, if_false, sSkip]
theorem gr_for {x who : D} {w : Str} {l : List Str} {F : List D} {h : Hh} (hw : w ∈ l) (nd : l.Nodup) : ∀ (us : List (List (Str × Str))) (W0 : List Str) (v5 : Option W), Words l us → W0.length + us.length < 16777216 → (∀ n, isR n v5 = false) →
    ∃ w5, (∀ n, isR n w5 = false) ∧ forL (gN 5) grA (us.map cT) (e6 x who h.length (some (.dat (.str w))) v5) (h ++ [some (.lst F), some (.lst (W0.map .str))]) = some (.nx (e6 x who h.length (some (.dat (.str w))) w5), h ++ [some (.lst F), some (.lst ((W0 ++ us.map fun ps => goal ps w).map .str))])
  | [], W0, v5, _, _, nv => ⟨v5, nv, by rw [List.map_nil, List.map_nil, List.append_nil]; rfl⟩
  | ps :: us, W0, v5, c, hl, _ => by
    have hz : sizeLine = 16777216 := rfl
    rw [List.length_cons] at hl
    have cp := c ps List.mem_cons_self
    obtain ⟨k1, _⟩ := cp.goal_mem hw
    have lp : 0 < ps.length := by
      have := cp.perm.length_eq
      rw [List.length_map] at this
      have := List.length_pos_of_mem hw
      omega
    obtain ⟨w5, n5, e⟩ := gr_for (x := x) (who := who) (F := F) (h := h) hw nd us (W0 ++ [goal ps w]) (some (.dat (cT ps))) (fun q hq => c q (List.mem_cons_of_mem _ hq)) (by rw [List.length_append]; show W0.length + 1 + us.length < _; omega) (fun _ => rfl)
    refine ⟨w5, n5, ?_⟩
    have k : gN 5 (.dat (cT ps)) (e6 x who h.length (some (.dat (.str w))) v5) (h ++ [some (.lst F), some (.lst (W0.map .str))]) = some (e6 x who h.length (some (.dat (.str w))) (some (.dat (cT ps)))) := rfl
    have tg := two_get (g := h) (o := some (MO.lst F)) (o' := some (.lst (W0.map .str))) rfl
    have ts := two_set (g := h) (o := some (MO.lst F)) (o' := some (.lst (W0.map .str))) (z := some (.lst (W0.map .str ++ [.str (goal ps w)]))) rfl
    have ix : ∀ g, idxW (.dat (.dict (sdic (tld ps)))) (.dat (.str w)) g = some (.dat (.str (goal ps w)), g) := fun g => by
      have q := getD_sdic (tld ps) w
      rw [look_tld, k1] at q
      unfold idxW
      simp only [deref, q]; rfl
    have ea : grA (e6 x who h.length (some (.dat (.str w))) (some (.dat (cT ps)))) (h ++ [some (.lst F), some (.lst (W0.map .str))]) = some (.nx (e6 x who h.length (some (.dat (.str w))) (some (.dat (cT ps)))), h ++ [some (.lst F), some (.lst ((W0 ++ [goal ps w]).map .str))]) := by
      have q := zAppE (A := fVar 3) (E := f2 idxW (fA (dictA false) (fCons (fVar 5) (fNil))) (fVar 4)) (n := h.length + 1) (ds := W0.map .str) (d := .str (goal ps w)) (ρ := e6 x who h.length (some (.dat (.str w))) (some (.dat (cT ps)))) (h := h ++ [some (.lst F), some (.lst (W0.map .str))]) rfl tg.2 (x2 (xA (xC (E := fVar 5) rfl xN) (dict_call lp (cp.nodup nd))) (B := fVar 4) rfl (ix _)) tg.2 (by rw [List.length_map]; omega)
      rw [ts.2] at q
      rw [List.map_append]
      exact q
    rw [List.map_cons]
    unfold forL
    simp only [k, ea]
    rw [e, List.append_assoc, List.map_cons]
    rfl
theorem gr_new {x : D} {who w : Str} {l F W0 : List Str} {ws : List (List (Str × Str))} {v4 v5 : Option W} {h : Hh} (hx : IsSeq x (ws.map cT)) (hm : w ∈ l) (nd : l.Nodup) (c : Words l ws) (hw : w ∉ F) (l1 : F.length < 1000) (l2 : W0.length + ws.length < 16777216) (nv5 : ∀ n, isR n v5 = false) :
    ∃ w5, (∀ n, isR n w5 = false) ∧ grB (e6 x (.str who) h.length v4 v5) (h ++ [some (.lst (F.map .str)), some (.lst (W0.map .str ++ [.str w]))]) = some (.nx (e6 x (.str who) h.length (some (.dat (.str w))) w5), h ++ [some (.lst ((F ++ [w]).map .str)), some (.lst ((W0 ++ ws.map fun ps => goal ps w).map .str))]) := by
  have hz : sizeLine = 16777216 := rfl
  have tg := two_get (g := h) (o := some (MO.lst (F.map .str))) (o' := some (.lst (W0.map .str ++ [.str w]))) rfl
  have ts := two_set (g := h) (o := some (MO.lst (F.map .str))) (o' := some (.lst (W0.map .str ++ [.str w]))) (z := some (.lst (W0.map .str))) rfl
  have tg2 := two_get (g := h) (o := some (MO.lst (F.map .str))) (o' := some (.lst (W0.map .str))) rfl
  have ts2 := two_set (g := h) (o := some (MO.lst (F.map .str))) (o' := some (.lst (W0.map .str))) (z := some (.lst (F.map .str ++ [.str w]))) rfl
  obtain ⟨w5, n5, e⟩ := gr_for (x := x) (who := .str who) (F := (F ++ [w]).map .str) (h := h) hm nd ws W0 v5 c l2 nv5
  refine ⟨w5, n5, ?_⟩
  unfold grB
  rw [gr_pop tg.2, ts.2]
  have t : fB (f2 (inW true) (fVar 4) (fVar 2)) (e6 x (.str who) h.length (some (.dat (.str w))) v5) (h ++ [some (.lst (F.map .str)), some (.lst (W0.map .str))]) = some (true, h ++ [some (.lst (F.map .str)), some (.lst (W0.map .str))]) := xB (x2 (A := fVar 4) (B := fVar 2) rfl rfl (by rw [notin_ref tg2.1, decide_eq_false hw]; rfl))
  unfold sIf
  simp only [t, sbnd, if_true]
  refine (zApp (A := fVar 2) (E := fVar 4) (n := h.length) (ds := F.map .str) (d := .str w) rfl tg2.1 rfl tg2.1 (by rw [List.length_map]; omega)).trans ?_
  rw [ts2.1]
  rw [show F.map PyData.str ++ [.str w] = (F ++ [w]).map .str by rw [List.map_append]; rfl]
  unfold sFor
  simp only [xS (E := fVar 0) (x := x) (ρ := e6 x (.str who) h.length (some (.dat (.str w))) v5) (h1 := h ++ [some (.lst ((F ++ [w]).map .str)), some (.lst (W0.map .str))]) rfl hx, sbnd]
  exact e
theorem gr_loop {x : D} {who : Str} {l : List Str} {ws : List (List (Str × Str))} {h : Hh} {P : Str → Prop} (hP : ∀ ps ∈ ws, ∀ s, P s → P (goal ps s)) (hx : IsSeq x (ws.map cT)) (nd : l.Nodup) (ht : Txts l) (c : Words l ws) (hl : l.length ≤ 100) (hw : ws.length ≤ 100) :
    ∀ (m fuel : Nat) (F W0 : List Str) (v4 v5 : Option W), m < fuel → m ≤ 100000 → W0.length + (l.length - F.length) * (ws.length + 1) ≤ m → F.Nodup → (∀ s ∈ F, s ∈ l) → (∀ s ∈ W0, s ∈ l) → (∀ ps ∈ ws, ∀ s ∈ F, goal ps s ∈ F ∨ goal ps s ∈ W0) → (∀ n, isR n v4 = false) → (∀ n, isR n v5 = false) → (∀ s ∈ F, P s) → (∀ s ∈ W0, P s) →
      ∃ (F' : List Str) (v4' v5' : Option W), whileL grT grB fuel (e6 x (.str who) h.length v4 v5) (h ++ [some (.lst (F.map .str)), some (.lst (W0.map .str))]) = some (.nx (e6 x (.str who) h.length v4' v5'), h ++ [some (.lst (F'.map .str)), some (.lst [])]) ∧
        F'.Nodup ∧ (∀ s ∈ F', s ∈ l) ∧ (∀ ps ∈ ws, ∀ s ∈ F', goal ps s ∈ F') ∧ (∀ n, isR n v4' = false) ∧ (∀ n, isR n v5' = false) ∧ (∀ s ∈ F', P s) ∧ ∀ s, s ∈ F ∨ s ∈ W0 → s ∈ F' := by
  have hz : sizeLine = 16777216 := rfl
  have base : ∀ (fuel : Nat) (F : List Str) (v4 v5 : Option W), 0 < fuel → F.Nodup → (∀ s ∈ F, s ∈ l) → (∀ ps ∈ ws, ∀ s ∈ F, goal ps s ∈ F ∨ goal ps s ∈ ([] : List Str)) → (∀ n, isR n v4 = false) → (∀ n, isR n v5 = false) → (∀ s ∈ F, P s) →
      ∃ (F' : List Str) (v4' v5' : Option W), whileL grT grB fuel (e6 x (.str who) h.length v4 v5) (h ++ [some (.lst (F.map .str)), some (.lst (([] : List Str).map .str))]) = some (.nx (e6 x (.str who) h.length v4' v5'), h ++ [some (.lst (F'.map .str)), some (.lst [])]) ∧
        F'.Nodup ∧ (∀ s ∈ F', s ∈ l) ∧ (∀ ps ∈ ws, ∀ s ∈ F', goal ps s ∈ F') ∧ (∀ n, isR n v4' = false) ∧ (∀ n, isR n v5' = false) ∧ (∀ s ∈ F', P s) ∧ ∀ s, s ∈ F ∨ s ∈ ([] : List Str) → s ∈ F' := fun fuel F v4 v5 h1 nf fl cl nv nv5 pF => by
    have tg := two_get (g := h) (o := some (MO.lst (F.map .str))) (o' := some (.lst (([] : List Str).map .str))) rfl
    obtain ⟨f, rfl⟩ : ∃ f, fuel = f + 1 := ⟨fuel - 1, by omega⟩
    refine ⟨F, v4, v5, ?_, nf, fl, fun ps hp s hs => (cl ps hp s hs).elim id (fun z => by cases z), nv, nv5, pF, fun s hs => hs.elim id (fun z => by cases z)⟩
    have tt := gr_test (x := x) (who := .str who) (v4 := v4) (v5 := v5) (W0 := []) tg.2 (fun s hs => by cases hs)
    have tt : grT (e6 x (.str who) h.length v4 v5) (h ++ [some (.lst (F.map .str)), some (.lst (([] : List Str).map .str))]) = some (false, h ++ [some (.lst (F.map .str)), some (.lst (([] : List Str).map .str))]) := by simpa using tt
    unfold whileL
    simp only [tt, sbnd, Bool.false_eq_true, if_false]
    rfl
  intro m
  induction m with
  | zero =>
    intro fuel F W0 v4 v5 h1 _ h2 nf fl wl cl nv nv5 pF pW
    have w0 : W0 = [] := List.length_eq_zero_iff.mp (by omega)
    subst w0
    exact base fuel F v4 v5 h1 nf fl cl nv nv5 pF
  | succ m ih =>
    intro fuel F W0 v4 v5 h1 h3 h2 nf fl wl cl nv nv5 pF pW
    rcases List.eq_nil_or_concat W0 with w0 | ⟨W1, w, w0⟩
    · subst w0
      exact base fuel F v4 v5 (by omega) nf fl cl nv nv5 pF
    · obtain ⟨f, rfl⟩ : ∃ f, fuel = f + 1 := ⟨fuel - 1, by omega⟩
      rw [List.concat_eq_append] at w0
      subst w0
      have wm : w ∈ l := wl w (by simp)
      have wl1 : ∀ s ∈ W1, s ∈ l := fun s hs => wl s (by simp [hs])
      have em : (W1 ++ [w]).map PyData.str = W1.map .str ++ [.str w] := by rw [List.map_append]; rfl
      have tg := two_get (g := h) (o := some (MO.lst (F.map .str))) (o' := some (.lst ((W1 ++ [w]).map .str))) rfl
      have tt := gr_test (x := x) (who := .str who) (v4 := v4) (v5 := v5) (W0 := W1 ++ [w]) tg.2 (fun s hs => ht s (wl s hs))
      have nn : (!decide (W1 ++ [w] = [])) = true := by simp
      rw [nn] at tt
      rw [List.length_append] at h2
      have l1 : [w].length = 1 := rfl
      rw [l1] at h2
      have fle : F.length ≤ l.length := nd_le nf fl
      by_cases z : w ∈ F
      · obtain ⟨F', v4', v5', e, q⟩ := ih f F W1 (some (.dat (.str w))) v5 (by omega) (by omega) (by omega) nf fl wl1 (fun ps hp s hs => (cl ps hp s hs).elim .inl fun r => by
          rcases List.mem_append.mp r with r | r
          · exact .inr r
          · rw [List.mem_singleton] at r; rw [r]; exact .inl z) (fun _ => rfl) nv5 pF fun s hs => pW s (List.mem_append_left _ hs)
        refine ⟨F', v4', v5', ?_, q.1, q.2.1, q.2.2.1, q.2.2.2.1, q.2.2.2.2.1, q.2.2.2.2.2.1, fun s hs => q.2.2.2.2.2.2 s (hs.elim .inl fun r => by
          rcases List.mem_append.mp r with r | r
          · exact .inr r
          · rw [List.mem_singleton] at r; rw [r]; exact .inl z)⟩
        unfold whileL
        simp only [tt, sbnd, if_true]
        simp only [em, gr_in (x := x) (who := who) (v4 := v4) (v5 := v5) (W0 := W1.map .str) (h := h) z]
        exact e
      · have nf2 : (F ++ [w]).Nodup := by
          rw [List.nodup_append]
          exact ⟨nf, by simp, fun a ha b hb e => by rw [List.mem_singleton] at hb; subst hb; subst e; exact z ha⟩
        have fl2 : ∀ s ∈ F ++ [w], s ∈ l := fun s hs => by
          rcases List.mem_append.mp hs with hs | hs
          · exact fl s hs
          · rw [List.mem_singleton] at hs; rw [hs]; exact wm
        have fle2 : (F ++ [w]).length ≤ l.length := nd_le nf2 fl2
        have fl3 : (F ++ [w]).length = F.length + 1 := by rw [List.length_append]; rfl
        rw [fl3] at fle2
        have mu : (l.length - F.length) * (ws.length + 1) = (l.length - (F.length + 1)) * (ws.length + 1) + (ws.length + 1) := by
          rw [show l.length - F.length = (l.length - (F.length + 1)) + 1 by omega, Nat.succ_mul]
        obtain ⟨u5, nu5, eb⟩ := gr_new (x := x) (who := who) (v4 := v4) (v5 := v5) (W0 := W1) (h := h) hx wm nd c z (by omega) (by omega) nv5
        obtain ⟨F', v4', v5', e, q⟩ := ih f (F ++ [w]) (W1 ++ ws.map fun ps => goal ps w) (some (.dat (.str w))) u5 (by omega) (by omega) (by rw [List.length_append, List.length_map, fl3]; omega) nf2 fl2 (fun s hs => by
          rcases List.mem_append.mp hs with hs | hs
          · exact wl1 s hs
          · obtain ⟨ps, hp, rfl⟩ := List.mem_map.mp hs
            exact ((c ps hp).goal_mem wm).2) (fun ps hp s hs => by
          rcases List.mem_append.mp hs with hs | hs
          · rcases cl ps hp s hs with r | r
            · exact .inl (by simp [r])
            · rcases List.mem_append.mp r with r | r
              · exact .inr (by simp [r])
              · rw [List.mem_singleton] at r; rw [r]; exact .inl (by simp)
          · rw [List.mem_singleton] at hs; subst hs
            exact .inr (List.mem_append_right _ (List.mem_map.mpr ⟨ps, hp, rfl⟩))) (fun _ => rfl) nu5 (fun s hs => by
          rcases List.mem_append.mp hs with hs | hs
          · exact pF s hs
          · rw [List.mem_singleton] at hs; subst hs; exact pW _ (by simp)) (fun s hs => by
          rcases List.mem_append.mp hs with hs | hs
          · exact pW s (List.mem_append_left _ hs)
          · obtain ⟨ps, hp, rfl⟩ := List.mem_map.mp hs
            exact hP ps hp _ (pW w (by simp)))
        refine ⟨F', v4', v5', ?_, q.1, q.2.1, q.2.2.1, q.2.2.2.1, q.2.2.2.2.1, q.2.2.2.2.2.1, fun s hs => q.2.2.2.2.2.2 s (by
          rcases hs with r | r
          · exact .inl (by simp [r])
          · rcases List.mem_append.mp r with r | r
            · exact .inr (by simp [r])
            · rw [List.mem_singleton] at r; subst r; exact .inl (by simp))⟩
        unfold whileL
        simp only [tt, sbnd, if_true]
        simp only [em, eb]
        exact e
theorem grown_ok {x : D} {who : Str} {l : List Str} {ws : List (List (Str × Str))} {h : Hh} (hx : IsSeq x (ws.map cT)) (nd : l.Nodup) (ht : Txts l) (c : Words l ws) (hl : l.length ≤ 100) (hw : ws.length ≤ 100) (hm : who ∈ l) :
    m__law_grown [.dat x, .dat (.str who)] h = some (.dat (rowT (lotL l ws who)), h) := by
  have hz : sizeLine = 16777216 := rfl
  have mu : l.length * (ws.length + 1) ≤ 100 * 101 := Nat.mul_le_mul hl (by omega)
  obtain ⟨F, v4, v5, e, nf, fl, cl, nv, nv5, rP, sub⟩ := gr_loop (x := x) (who := who) (h := h) (P := Rch ws who) (fun ps hp s r => r.step hp) hx nd ht c hl hw (1 + l.length * (ws.length + 1)) 100000 [] [who] none none (by omega) (by omega) (by simp) List.nodup_nil (fun s hs => by cases hs) (fun s hs => by rw [List.mem_singleton] at hs; rw [hs]; exact hm) (fun ps hp s hs => by cases hs) (fun _ => rfl) (fun _ => rfl) (fun s hs => by cases hs) (fun s hs => by rw [List.mem_singleton] at hs; subst hs; exact .one)
  have pS := sortS_perm F
  have eL : lotL l ws who = sortS F := sortS_eq (perm_mem (nd.filter _) nf fun s => by
    rw [List.mem_filter, rchB_iff]
    exact ⟨fun q => q.2.mem (sub who (.inr (by simp))) cl, fun q => ⟨fl s q, rP s q⟩⟩)
  rw [eL]
  have tg := two_get (g := h) (o := some (MO.lst (F.map .str))) (o' := some (.lst [])) rfl
  have ts := two_set (g := h) (o := some (MO.lst (F.map .str))) (o' := some (.lst [])) (z := none) rfl
  have fz : frz 2 (e6 x (.str who) h.length v4 v5) (h ++ [some (.lst (F.map .str)), some (.lst [])]) = some ([some (.dat x), some (.dat (.str who)), some (.dat (.list (F.map .str))), some (.ref (h.length + 1)), v4, v5], h ++ [none, some (.lst [])]) := by
    have ne : (h.length + 1 = h.length) = False := by simp
    unfold frz
    simp only [List.getElem?_cons_zero, List.getElem?_cons_succ, tg.1, List.set_cons_zero, List.set_cons_succ, List.any_cons, List.any_nil, isR_dat, isR_none, isR_ref, ne, nv, nv5, decide_false, Bool.or_false, isTab, Bool.false_eq_true, if_false, moD]
    rw [ts.1]
  have so := sortW_strs (x := .list (F.map .str)) (h := h ++ [none, some (.lst [])]) (.inl rfl) fun s hs => ht s (fl s hs)
  have lv : leave false h (.dat (rowT (sortS F))) (h ++ [none, some (.lst [])]) = some (.dat (rowT (sortS F)), h) := by
    have tk : (h ++ [none, some (MO.lst [])]).take h.length = h := List.take_left
    have := leave_dat (h := h) (h' := h ++ [none, some (.lst [])]) (d := rowT (sortS F)) (by rw [tk])
    rw [tk] at this
    exact this
  have eqm : m__law_grown = fnM false 2 6 (sSeq (sPar (fCons (fA (lstW true) (fNil)) (fCons (fA (lstW true) (fCons (fVar 1) (fNil))) (fNil))) [2, 3])
    (sSeq (sWhile 100000 grT grB) (sFrz 2 (sRet (fA tupleW (fCons (fA (sortW false) (fCons (fVar 2) (fNil))) (fNil))))))) := rfl
  rw [eqm]
  refine fnM_rt (h' := h ++ [none, some (.lst [])]) (w := .dat (rowT (sortS F))) ?_ rfl lv
  show sSeq _ _ [some (.dat x), some (.dat (.str who)), none, none, none, none] h = _
  have e0 : (fCons (fA (lstW true) (fNil)) (fCons (fA (lstW true) (fCons (fVar 1) (fNil))) (fNil))) [some (.dat x), some (.dat (.str who)), none, none, none, none] h = some ([.ref h.length, .ref (h.length + 1)], h ++ [some (.lst []), some (.lst [.str who])]) := by
    refine xC (xA xN (xLstR (ds := []) rfl (Nat.zero_le _))) (xC (h1 := h ++ [some (.lst []), some (.lst [.str who])]) ?_ xN)
    have := xA (m := lstW true) (xC (E := fVar 1) (ρ := [some (.dat x), some (.dat (.str who)), none, none, none, none]) (h := h ++ [some (.lst [])]) rfl xN) (xLstR (ds := [.str who]) rfl (by show 1 ≤ sizeLine; decide))
    rw [this]
    simp
  refine (zP (is := [2, 3]) (ρ1 := e6 x (.str who) h.length none none) e0 rfl rfl).trans ?_
  unfold sSeq sWhile
  rw [show (h ++ [some (MO.lst []), some (.lst [.str who])]) = h ++ [some (.lst (([] : List Str).map .str)), some (.lst ([who].map .str))] from rfl, e]
  show sFrz 2 _ _ _ = _
  refine (zZ fz).trans ?_
  exact zR (xA (xC (xA (xC (E := fVar 2) rfl xN) so) xN) (xTup (.inl rfl)))
noncomputable def titB : SM := (sSeq (sAsg (fA (m__law_grown) (fCons (fVar 2) (fCons (fVar 4) (fNil)))) (gN 8))
    (sSeq (sIf (bNot (fB (fA (m__law_same 12) (fCons (fA (lstW false) (fCons (fA (m_least_lot) (fCons (fVar 2) (fCons (fVar 4) (fNil)))) (fCons (fA (kwM 2 [1, 0] (m_least_lot)) (fCons (fVar 4) (fCons (fVar 7) (fNil)))) (fNil)))) (fCons (fA (lstW false) (fCons (fVar 8) (fCons (fVar 8) (fNil)))) (fNil)))))) (sRet (fC (.bool false))) (sSkip))
    (sSeq (sAsg (fLc false (seqI (fVar 6)) (gN 16) (fB (f2 (inW false) (fVar 16) (fVar 8))) (fVar 16) [16]) (gN 9))
    (sSeq (sAsg (fA (lstW false) (fCons (fA (m_row_of) (fCons (fVar 6) (fCons (fVar 8) (fNil)))) (fCons (fA (kwM 2 [1, 0] (m_row_of)) (fCons (fA (listW false) (fCons (fVar 8) (fNil))) (fCons (fA (listW false) (fCons (fVar 6) (fNil))) (fNil)))) (fNil)))) (gN 10))
    (sSeq (sIf (bNot (fB (fA (m__law_same 12) (fCons (fVar 10) (fCons (f2 (mulW false) (fA (lstW false) (fCons (fA tupleW (fCons (fVar 9) (fNil))) (fNil))) (fC (.int 2))) (fNil)))))) (sRet (fC (.bool false))) (sSkip))
    (sSeq (sAsg (fLc false (seqI (fVar 2)) (gN 15) (bYes) (fA tupleW (fCons (fLc false (seqI (fVar 15)) (gN 17) (fB (f2 (inW false) (f2 idxW (fVar 17) (fC (.int 0))) (fVar 8))) (fVar 17) [17]) (fNil))) [15]) (gN 11))
    (sSeq (sIf (bNot (fB (fA (m__law_same 12) (fCons (fA (lstW false) (fCons (fA (m_part_of) (fCons (fVar 2) (fCons (fVar 8) (fNil)))) (fCons (fA (kwM 2 [1, 0] (m_part_of)) (fCons (fVar 8) (fCons (fVar 7) (fNil)))) (fNil)))) (fCons (fA (lstW false) (fCons (fVar 11) (fCons (fVar 11) (fNil)))) (fNil)))))) (sRet (fC (.bool false))) (sSkip))
    (sSeq (sAsg (f2 (addW true) (fVar 3) (fA (lstW false) (fCons (fVar 8) (fCons (fSl false (fVar 8) (oSome (fC (.int 1))) (oNone)) (fCons (fRev false (fVar 8)) (fCons (f2 (addW false) (fVar 8) (fSl false (fVar 8) (oSome (fNeg (fC (.int 1)))) (oNone))) (fCons (fA (listW false) (fCons (fVar 8) (fNil))) (fNil)))))))) (gN 3))
    (sExpr (fM isL appendW (fVar 3) (fCons (fA tupleW (fCons (fA (sortTW false) (fCons (f2 (addW false) (fVar 8) (fA tupW (fCons (f2 idxW (fVar 1) (fC (.int 0))) (fNil)))) (fNil))) (fNil))) (fNil))))))))))))
theorem idxW_lst {x : List D} {i : Int} {d : D} {h : Hh} (a : L2.atI x i = some d) : idxW (.dat (.list x)) (.dat (.int i)) h = some (.dat d, h) := by
  unfold idxW
  simp only [deref, a]
  rfl
theorem same_rowsX {r : List Str} {h : Hh} (hr : r.length ≤ 1000) : m__law_same 12 [.dat (.list [rowT r, rowT r]), .dat (.list [rowT r, rowT r])] h = some (.dat (.bool true), h) := by
  refine same_refl 12 _ h ?_ ?_
  · rw [plainD, plainDs, plainDs, plainDs, plain_row hr]; rfl
  · have := depth_row r
    rw [PyData.depth, PyData.depthAll, PyData.depthAll, PyData.depthAll]
    have : (rowT r).depth = 1 := depth_row r
    omega
theorem same_wordsX {ws : List (List (Str × Str))} {h : Hh} (hp : ∀ ps ∈ ws, ps.length ≤ 1000) (hw : ws.length ≤ 1000) : m__law_same 12 [.dat (.list [.list (ws.map cT), .list (ws.map cT)]), .dat (.list [.list (ws.map cT), .list (ws.map cT)])] h = some (.dat (.bool true), h) := by
  refine same_refl 12 _ h ?_ ?_
  · rw [plainD, plainDs, plainDs, plainDs, plain_words hp hw]; rfl
  · have := depth_words ws
    have d : (PyData.list (ws.map cT)).depth = 1 + PyData.depthAll (ws.map cT) := by rw [PyData.depth]; omega
    rw [PyData.depth, PyData.depthAll, PyData.depthAll, PyData.depthAll]
    omega
theorem tit_ok {b : Nat} {l r : List Str} {ws : List (List (Str × Str))} {v5 v8 v9 v10 v11 v12 v14 : Option W} {Q : Hh} {ds : List D} {a : Str} (nd : l.Nodup) (ht : Txts l) (c : Words l ws) (hl : l.length ≤ 20) (pr : r.Perm l) (hw : ws.length ≤ 100) (w0 : ws ≠ []) (ha : a ∈ l) (hd : ds.length ≤ 1000) (td : ∀ d ∈ ds, Th d) :
    ∃ (v8' v9' v10' v11' : Option W) (ds' : List D), titB (e65 b l ws r (some (.ref Q.length)) (some (.dat (.str a))) v5 v8 v9 v10 v11 v12 v14) (Q ++ [some (.lst ds)]) = some (.nx (e65 b l ws r (some (.ref (Q ++ [some (MO.lst ds)]).length)) (some (.dat (.str a))) v5 v8' v9' v10' v11' v12 v14), (Q ++ [some (.lst ds)]) ++ [some (.lst ds')]) ∧ ds'.length = ds.length + 6 ∧ (∀ d ∈ ds', Th d) ∧
      (∀ n, isR n v8' = false) ∧ (∀ n, isR n v9' = false) ∧ (∀ n, isR n v10' = false) ∧ (∀ n, isR n v11' = false) := by
  have hz : sizeLine = 16777216 := rfl
  have c1 : 1 ≤ sizeLine := by decide
  have c2 : 2 ≤ sizeLine := by decide
  have LL : (lotL l ws a).Nodup := lotL_nd nd
  have Ls : ∀ s ∈ lotL l ws a, s ∈ l := fun s hs => (lotL_mem.mp hs).1
  have Ll := nd_le LL Ls
  have rl := pr.length_eq
  have pl : ∀ ps ∈ ws, ps.length ≤ 1000 := fun ps hps => by
    have := (c ps hps).perm.length_eq
    rw [List.length_map] at this
    omega
  have x0 : IsSeq (PyData.list (ws.map cT)) (ws.map (cD false)) := .inl (by rw [cD_false])
  have x1 : IsSeq (PyData.list (ws.map (cD true))) (ws.map (cD true)) := .inl rfl
  have e1 := grown_ok (x := .list (ws.map cT)) (who := a) (h := Q ++ [some (.lst ds)]) (.inl rfl) nd ht c (by omega) hw ha
  have e2 := least_ok (who := a) (h := Q ++ [some (.lst ds)]) x0 nd ht c (by omega) hw w0 ha
  have e3 := least_ok (who := a) (h := Q ++ [some (.lst ds)]) x1 nd ht c (by omega) hw w0 ha
  have tL : Txts (lotL l ws a) := fun s hs => ht s (Ls s hs)
  generalize hL : lotL l ws a = L at *
  generalize hG : Q ++ [some (MO.lst ds)] = G at *
  have gn : G[Q.length]? = some (some (.lst ds)) := by rw [← hG]; exact app_get rfl
  have e4 := rowof_ok (x := rowT r) (y := rowT L) (lot := L) (r := r) (h := G) (.inr rfl) (.inr rfl) (by omega)
  have e5 := rowof_ok (x := .list (r.map .str)) (y := .list (L.map .str)) (lot := L) (r := r) (h := G) (.inl rfl) (.inl rfl) (by omega)
  have e6 := part_ok (lot := L) (h := G) x0 (by omega) pl
  have e7 := part_ok (lot := L) (h := G) x1 (by omega) pl
  have il : (inL L r).length ≤ r.length := List.length_filter_le _ _
  have inb : inL L r = r.filter fun s => decide (s ∈ L) := rfl
  let V8 : Option W := some (.dat (rowT L))
  let V9 : Option W := some (.dat (.list ((inL L r).map .str)))
  let V10 : Option W := some (.dat (.list [rowT (inL L r), rowT (inL L r)]))
  let V11 : Option W := some (.dat (.list ((ws.map (partC L)).map cT)))
  let es : List D := [rowT L, .tuple ((L.map .str).drop 1), .tuple (L.map PyData.str).reverse, .tuple (L.map .str ++ (L.map .str).drop ((L.map PyData.str).length - 1)), .list (L.map .str)]
  obtain ⟨z0, zt, el⟩ : ∃ z0 zt, l = z0 :: zt := by
    cases l with
    | nil => cases ha
    | cons z0 zt => exact ⟨z0, zt, rfl⟩
  let x6 : D := rowT (setS (L ++ [z0]))
  have add : addW true (.ref Q.length) (.dat (.list es)) G = some (.ref G.length, G ++ [some (.lst (ds ++ es))]) := by
    have : ds.length + es.length ≤ sizeLine := by show ds.length + 5 ≤ _; omega
    unfold addW
    simp only [deref, gn, if_pos this, mkL_true]
  refine ⟨V8, V9, V10, V11, (ds ++ es) ++ [x6], ?_, ?_, ?_, fun _ => rfl, fun _ => rfl, fun _ => rfl, fun _ => rfl⟩
  · unfold titB
    refine (zA (ρ1 := e65 b l ws r (some (.ref Q.length)) (some (.dat (.str a))) v5 V8 v9 v10 v11 v12 v14) (xA (xC (E := fVar 2) rfl (xC (E := fVar 4) rfl xN)) e1) rfl).trans ?_
    refine (zI (xT (xA (xC (xA (xC (xA (xC (E := fVar 2) rfl (xC (E := fVar 4) rfl xN)) e2) (xC (xA (xC (E := fVar 4) rfl (xC (E := fVar 7) rfl xN)) (xK rfl rfl e3)) xN)) (xLst (ds := [rowT L, rowT L]) rfl c2)) (xC (xA (xC (E := fVar 8) rfl (xC (E := fVar 8) rfl xN)) (xLst (ds := [rowT L, rowT L]) rfl c2)) xN)) (same_rowsX (by omega))))).trans ?_
    have f9 : fLc false (seqI (fVar 6)) (gN 16) (fB (f2 (inW false) (fVar 16) (fVar 8))) (fVar 16) [16] (e65 b l ws r (some (.ref Q.length)) (some (.dat (.str a))) v5 V8 v9 v10 v11 v12 v14) G = some (.dat (.list ((inL L r).map .str)), G) := by
      refine xLt (ds := r.map .str) (xS (E := fVar 6) (x := rowT r) rfl (.inr rfl)) ?_ (by rw [List.length_map]; omega)
      rw [inb]
      exact lcL_filt PyData.str PyData.str (fun s => decide (s ∈ L)) fun s hs => ⟨[some (.ref b), some (.dat (.list (l.map .str))), some (.dat (.list (ws.map cT))), some (.ref Q.length), some (.dat (.str a)), v5, some (.dat (rowT r)), some (.dat (.list (ws.map (cD true)))), V8, v9, v10, v11, v12, none, v14, none, some (.dat (.str s)), none], rfl, xB (x2 (A := fVar 16) (B := fVar 8) rfl rfl in_rowT), rfl⟩
    refine (zA (ρ1 := e65 b l ws r (some (.ref Q.length)) (some (.dat (.str a))) v5 V8 V9 v10 v11 v12 v14) f9 rfl).trans ?_
    refine (zA (ρ1 := e65 b l ws r (some (.ref Q.length)) (some (.dat (.str a))) v5 V8 V9 V10 v11 v12 v14) (xA (xC (xA (xC (E := fVar 6) rfl (xC (E := fVar 8) rfl xN)) e4) (xC (xA (xC (xA (xC (E := fVar 8) rfl xN) (xList (.inr rfl))) (xC (xA (xC (E := fVar 6) rfl xN) (xList (.inr rfl))) xN)) (xK rfl rfl e5)) xN)) (xLst (ds := [rowT (inL L r), rowT (inL L r)]) rfl c2)) rfl).trans ?_
    have mu : mulW false (.dat (.list [rowT (inL L r)])) (.dat (.int 2)) G = some (.dat (.list [rowT (inL L r), rowT (inL L r)]), G) := rfl
    refine (zI (xT (xA (xC (E := fVar 10) rfl (xC (x2 (f := mulW false) (xA (xC (xA (xC (E := fVar 9) rfl xN) (xTup (.inl rfl))) xN) (xLst (ds := [rowT (inL L r)]) rfl c1)) (B := fC (.int 2)) rfl mu) xN)) (same_rowsX (by omega))))).trans ?_
    have f11 : fLc false (seqI (fVar 2)) (gN 15) (bYes) (fA tupleW (fCons (fLc false (seqI (fVar 15)) (gN 17) (fB (f2 (inW false) (f2 idxW (fVar 17) (fC (.int 0))) (fVar 8))) (fVar 17) [17]) (fNil))) [15] (e65 b l ws r (some (.ref Q.length)) (some (.dat (.str a))) v5 V8 V9 V10 v11 v12 v14) G = some (.dat (.list ((ws.map (partC L)).map cT)), G) := by
      have lc := lcL_list (k := gN 15) (f := fA tupleW (fCons (fLc false (seqI (fVar 15)) (gN 17) (fB (f2 (inW false) (f2 idxW (fVar 17) (fC (.int 0))) (fVar 8))) (fVar 17) [17]) (fNil))) (ρ := e65 b l ws r (some (.ref Q.length)) (some (.dat (.str a))) v5 V8 V9 V10 v11 v12 v14) (h := G) cT (fun ps => cT (partC L ps)) (xs := ws) fun ps hps => by
        refine ⟨[some (.ref b), some (.dat (.list (l.map .str))), some (.dat (.list (ws.map cT))), some (.ref Q.length), some (.dat (.str a)), v5, some (.dat (rowT r)), some (.dat (.list (ws.map (cD true)))), V8, V9, V10, v11, v12, none, v14, some (.dat (cT ps)), none, none], rfl, ?_⟩
        have pb : partC L ps = ps.filter fun p => decide (p.1 ∈ L) := rfl
        have l1 : (partC L ps).length ≤ ps.length := List.length_filter_le _ _
        have l2 := pl ps hps
        refine xA (xC (xLt (rs := (partC L ps).map prT) (ds := ps.map prT) (xS (E := fVar 15) (x := cT ps) rfl (.inr rfl)) ?_ (by rw [List.length_map]; omega)) xN) (xTup (.inl rfl))
        rw [pb]
        exact lcL_filt prT prT (fun p => decide (p.1 ∈ L)) fun p hp => ⟨[some (.ref b), some (.dat (.list (l.map .str))), some (.dat (.list (ws.map cT))), some (.ref Q.length), some (.dat (.str a)), v5, some (.dat (rowT r)), some (.dat (.list (ws.map (cD true)))), V8, V9, V10, v11, v12, none, v14, some (.dat (cT ps)), none, some (.dat (prT p))], rfl, xB (x2 (f := inW false) (x2 (f := idxW) (A := fVar 17) (B := fC (.int 0)) rfl rfl (idxW_tup (x := [.str p.1, .str p.2]) (i := 0) (atI_nat (xs := [PyData.str p.1, .str p.2]) (j := 0) rfl))) (B := fVar 8) rfl in_rowT), rfl⟩
      have mm : (ws.map fun ps => cT (partC L ps)) = (ws.map (partC L)).map cT := by rw [List.map_map]; rfl
      rw [mm] at lc
      exact xL (vs := [15]) (xS (E := fVar 2) rfl (.inl rfl)) lc (by rw [List.length_map, List.length_map]; omega)
    refine (zA (ρ1 := e65 b l ws r (some (.ref Q.length)) (some (.dat (.str a))) v5 V8 V9 V10 V11 v12 v14) f11 rfl).trans ?_
    refine (zI (xT (xA (xC (xA (xC (xA (xC (E := fVar 2) rfl (xC (E := fVar 8) rfl xN)) e6) (xC (xA (xC (E := fVar 8) rfl (xC (E := fVar 7) rfl xN)) (xK rfl rfl e7)) xN)) (xLst (ds := [.list ((ws.map (partC L)).map cT), .list ((ws.map (partC L)).map cT)]) rfl c2)) (xC (xA (xC (E := fVar 11) rfl (xC (E := fVar 11) rfl xN)) (xLst (ds := [.list ((ws.map (partC L)).map cT), .list ((ws.map (partC L)).map cT)]) rfl c2)) xN)) (same_wordsX (fun qs hqs => by
      obtain ⟨ps, hps, rfl⟩ := List.mem_map.mp hqs
      have l1 : (partC L ps).length ≤ ps.length := List.length_filter_le _ _
      have l2 := pl ps hps
      omega) (by rw [List.length_map]; omega))))).trans ?_
    have s1 : fSl false (fVar 8) (oSome (fC (.int 1))) (oNone) (e65 b l ws r (some (.ref Q.length)) (some (.dat (.str a))) v5 V8 V9 V10 V11 v12 v14) G = some (.dat (.tuple ((L.map .str).drop 1)), G) := sl_fromT (A := fVar 8) (E := fC (.int 1)) rfl rfl (cut_from1 _)
    have s2 : fSl false (fVar 8) (oSome (fNeg (fC (.int 1)))) (oNone) (e65 b l ws r (some (.ref Q.length)) (some (.dat (.str a))) v5 V8 V9 V10 V11 v12 v14) G = some (.dat (.tuple ((L.map .str).drop ((L.map PyData.str).length - 1))), G) := sl_fromT (A := fVar 8) (E := fNeg (fC (.int 1))) rfl neg1 (cut_lastG _)
    have s3 : fRev false (fVar 8) (e65 b l ws r (some (.ref Q.length)) (some (.dat (.str a))) v5 V8 V9 V10 V11 v12 v14) G = some (.dat (.tuple (L.map PyData.str).reverse), G) := rfl
    have s4 : addW false (.dat (rowT L)) (.dat (.tuple ((L.map .str).drop ((L.map PyData.str).length - 1)))) G = some (.dat (.tuple (L.map .str ++ (L.map .str).drop ((L.map PyData.str).length - 1))), G) := xAddT (by rw [List.length_drop, List.length_map]; omega)
    refine (zA (ρ1 := e65 b l ws r (some (.ref G.length)) (some (.dat (.str a))) v5 V8 V9 V10 V11 v12 v14) (x2 (A := fVar 3) rfl (xA (xC (E := fVar 8) rfl (xC s1 (xC s3 (xC (x2 (A := fVar 8) rfl s2 s4) (xC (xA (xC (E := fVar 8) rfl xN) (xList (.inr rfl))) xN))))) (xLst (ds := es) rfl (by show 5 ≤ sizeLine; decide))) add) rfl).trans ?_
    have gg : (G ++ [some (MO.lst (ds ++ es))])[G.length]? = some (some (.lst (ds ++ es))) := app_get rfl
    have i0 : f2 idxW (fVar 1) (fC (.int 0)) (e65 b l ws r (some (.ref G.length)) (some (.dat (.str a))) v5 V8 V9 V10 V11 v12 v14) (G ++ [some (.lst (ds ++ es))]) = some (.dat (.str z0), G ++ [some (.lst (ds ++ es))]) := by
      refine x2 (A := fVar 1) (B := fC (.int 0)) rfl rfl ?_
      subst el
      exact idxW_lst (atI_nat (xs := (z0 :: zt).map PyData.str) (j := 0) rfl)
    have s5 : addW false (.dat (rowT L)) (.dat (.tuple [.str z0])) (G ++ [some (.lst (ds ++ es))]) = some (.dat (rowT (L ++ [z0])), G ++ [some (.lst (ds ++ es))]) := by
      have := xAddT (a := L.map .str) (b := [.str z0]) (h := G ++ [some (.lst (ds ++ es))]) (by rw [List.length_map]; show L.length + 1 ≤ _; omega)
      rw [this, show L.map PyData.str ++ [.str z0] = (L ++ [z0]).map .str by rw [List.map_append]; rfl]
    have q := zAppE (A := fVar 3) (E := fA tupleW (fCons (fA (sortTW false) (fCons (f2 (addW false) (fVar 8) (fA tupW (fCons (f2 idxW (fVar 1) (fC (.int 0))) (fNil)))) (fNil))) (fNil))) (n := G.length) (ds := ds ++ es) (d := x6) (ρ := e65 b l ws r (some (.ref G.length)) (some (.dat (.str a))) v5 V8 V9 V10 V11 v12 v14) (h := G ++ [some (.lst (ds ++ es))]) rfl gg
      (xA (xC (xA (xC (x2 (f := addW false) (A := fVar 8) rfl (xA (xC i0 xN) (xTp (ds := [.str z0]) rfl c1)) s5) xN) (sortT_set (by rw [List.length_append]; show L.length + 1 ≤ 100; omega))) xN) (xTup (.inl rfl))) gg (by rw [List.length_append]; show ds.length + 5 < _; omega)
    have st : (G ++ [some (MO.lst (ds ++ es))]).set G.length (some (.lst (ds ++ es ++ [x6]))) = G ++ [some (.lst (ds ++ es ++ [x6]))] := by
      rw [List.set_append_right _ _ (Nat.le_refl _), Nat.sub_self]; rfl
    rw [st] at q
    exact q
  · rw [List.length_append, List.length_append]; rfl
  · intro d hdm
    have ll : L.length ≤ 20 := by omega
    rcases List.mem_append.mp hdm with hdm | hdm
    · rcases List.mem_append.mp hdm with hdm | hdm
      · exact td d hdm
      · have hdm : d = rowT L ∨ d = .tuple ((L.map .str).drop 1) ∨ d = .tuple (L.map PyData.str).reverse ∨ d = .tuple (L.map .str ++ (L.map .str).drop ((L.map PyData.str).length - 1)) ∨ d = .list (L.map .str) := by simpa [es] using hdm
        rcases hdm with rfl | rfl | rfl | rfl | rfl
        · exact .row L (by omega) tL
        · rw [← List.map_drop]
          exact .row (L.drop 1) (by rw [List.length_drop]; omega) fun s hs => tL s (List.mem_of_mem_drop hs)
        · rw [← List.map_reverse]
          exact .row L.reverse (by rw [List.length_reverse]; omega) fun s hs => tL s (List.mem_reverse.mp hs)
        · rw [← List.map_drop, ← List.map_append]
          exact .row _ (by rw [List.length_append, List.length_drop]; omega) fun s hs => by
            rcases List.mem_append.mp hs with hs | hs
            · exact tL s hs
            · exact tL s (List.mem_of_mem_drop hs)
        · exact .non _ rfl (th_list (by omega) tL)
    · rw [List.mem_singleton] at hdm
      subst hdm
      have ul : (uq (L ++ [z0])).length ≤ (L ++ [z0]).length := nd_le (uq_nodup _) fun s hs => uq_mem.mp hs
      rw [List.length_append] at ul
      have u1 : [z0].length = 1 := rfl
      refine .row _ (by rw [(sortS_perm _).length_eq]; omega) fun s hs => ?_
      rcases List.mem_append.mp (setS_mem.mp hs) with hs | hs
      · exact tL s hs
      · rw [List.mem_singleton] at hs
        rw [hs]
        exact ht z0 (by rw [el]; exact List.mem_cons_self)
theorem tits_ok {b : Nat} {l r : List Str} {ws : List (List (Str × Str))} {v5 v12 v14 : Option W} (nd : l.Nodup) (ht : Txts l) (c : Words l ws) (hl : l.length ≤ 20) (pr : r.Perm l) (hw : ws.length ≤ 100) (w0 : ws ≠ []) :
    ∀ (M : List Str) (Q : Hh) (ds : List D) (v4 v8 v9 v10 v11 : Option W), (∀ s ∈ M, s ∈ l) → ds.length + 6 * M.length ≤ 1000 → (∀ d ∈ ds, Th d) → (∀ n, isR n v4 = false) → (∀ n, isR n v8 = false) → (∀ n, isR n v9 = false) → (∀ n, isR n v10 = false) → (∀ n, isR n v11 = false) →
      ∃ (Z : Hh) (ds' : List D) (w4 w8 w9 w10 w11 : Option W), forL (gN 4) titB (M.map PyData.str) (e65 b l ws r (some (.ref Q.length)) v4 v5 v8 v9 v10 v11 v12 v14) (Q ++ [some (.lst ds)]) = some (.nx (e65 b l ws r (some (.ref (Q ++ Z).length)) w4 v5 w8 w9 w10 w11 v12 v14), (Q ++ Z) ++ [some (.lst ds')]) ∧ (∀ d ∈ ds', Th d) ∧ (∀ n, isR n w4 = false) ∧ (∀ n, isR n w8 = false) ∧ (∀ n, isR n w9 = false) ∧ (∀ n, isR n w10 = false) ∧ (∀ n, isR n w11 = false)
  | [], Q, ds, v4, v8, v9, v10, v11, _, _, td, n4, n8, n9, n10, n11 => ⟨[], ds, v4, v8, v9, v10, v11, by rw [List.append_nil]; rfl, td, n4, n8, n9, n10, n11⟩
  | a :: M, Q, ds, v4, v8, v9, v10, v11, hM, hd, td, n4, n8, n9, n10, n11 => by
    rw [List.length_cons] at hd
    obtain ⟨u8, u9, u10, u11, ds1, e1, l1, t1, m8, m9, m10, m11⟩ := tit_ok (b := b) (r := r) (v5 := v5) (v8 := v8) (v9 := v9) (v10 := v10) (v11 := v11) (v12 := v12) (v14 := v14) (Q := Q) nd ht c hl pr hw w0 (hM a List.mem_cons_self) (by omega) td
    obtain ⟨Z, ds', w4, w8, w9, w10, w11, e2, t2, rest⟩ := tits_ok (v5 := v5) (v12 := v12) (v14 := v14) nd ht c hl pr hw w0 M (Q ++ [some (.lst ds)]) ds1 (some (.dat (.str a))) u8 u9 u10 u11 (fun s hs => hM s (List.mem_cons_of_mem _ hs)) (by omega) t1 (fun _ => rfl) m8 m9 m10 m11
    refine ⟨[some (.lst ds)] ++ Z, ds', w4, w8, w9, w10, w11, ?_, t2, rest⟩
    have k : gN 4 (.dat (.str a)) (e65 b l ws r (some (.ref Q.length)) v4 v5 v8 v9 v10 v11 v12 v14) (Q ++ [some (.lst ds)]) = some (e65 b l ws r (some (.ref Q.length)) (some (.dat (.str a))) v5 v8 v9 v10 v11 v12 v14) := rfl
    rw [List.map_cons]
    unfold forL
    simp only [k, e1]
    rw [e2, List.append_assoc Q]
theorem told_none {lb : Bool} {x : D} {s : Str} {h : Hh} : ∀ {ws : List (List (Str × Str))}, (∀ ps ∈ ws, s ∉ ps.map (·.1)) → lc2L (gN 2) (bYes) 2 (gT 2 (gC (gN 3) (gC (gN 4) (gE)))) (fB (f2 (eqW false) (fVar 3) (fVar 1))) (fVar 4) [3, 4] [some (.dat x), some (.dat (.str s)), none, none, none] (ws.map (cD lb)) h = some ([], h)
  | [], _ => rfl
  | ps :: ws, c => by
    have ih := told_none (lb := lb) (x := x) (h := h) (ws := ws) fun q hq => c q (List.mem_cons_of_mem _ hq)
    have e := told_inner (lb := lb) (x := x) (s := s) (Q := cD lb ps) (h := h) ps
    have z : ps.filter (fun p => decide (p.1 = s)) = [] := by
      rw [List.filter_eq_nil_iff]
      intro p hp
      have : p.1 ≠ s := fun z => c ps List.mem_cons_self (List.mem_map.mpr ⟨p, hp, z⟩)
      simpa using this
    rw [z] at e
    rw [List.map_cons]
    unfold lc2L
    have es : (gN 2) (.dat (cD lb ps)) [some (.dat x), some (.dat (.str s)), none, none, none] h = some [some (.dat x), some (.dat (.str s)), some (.dat (cD lb ps)), none, none] := rfl
    have dl : datL (some (some (.dat (cD lb ps)))) = some (ps.map (prW lb)) := by cases lb <;> rfl
    have ew : wipeE [some (.dat x), some (.dat (.str s)), some (.dat (cD lb ps)), none, none] [3, 4] = [some (.dat x), some (.dat (.str s)), some (.dat (cD lb ps)), none, none] := rfl
    simp only [es, bYes, obnd, if_true, List.getElem?_cons_zero, List.getElem?_cons_succ, dl, ew, e, ih]
    rfl
theorem refused_ok {T : Nat → Addr} {s : Str} {l : List Str} {ws : List (List (Str × Str))} {h : Hh} (c : Words l ws) (hs : s ∉ l) : m__law_refused T [.dat (.list (ws.map cT)), .dat (.str s)] h = some (.dat (.str s), h) := by
  have hz : sizeLine = 16777216 := rfl
  have tn := told_none (lb := false) (x := .list (ws.map cT)) (s := s) (h := h) (ws := ws) fun ps hp z => hs ((c ps hp).perm.mem_iff.mp z)
  rw [cD_false] at tn
  have e1 : m_told_in [.dat (.list (ws.map cT)), .dat (.str s)] h = some (.dat (.list []), h) := by
    have fl : fLc2 false (seqI (fVar 0)) (gN 2) (bYes) 2 (gT 2 (gC (gN 3) (gC (gN 4) (gE)))) (fB (f2 (eqW false) (fVar 3) (fVar 1))) (fVar 4) [2, 3, 4] [3, 4] [some (.dat (.list (ws.map cT))), some (.dat (.str s)), none, none, none] h = some (.dat (.list []), h) := by
      unfold fLc2
      rw [xS (E := fVar 0) (x := .list (ws.map cT)) (ds := ws.map cT) (h1 := h) rfl (.inl rfl)]
      show obnd (lc2L _ _ _ _ _ _ _ [some (.dat (.list (ws.map cT))), some (.dat (.str s)), none, none, none] _ h) _ = _
      rw [tn]
      rfl
    unfold m_told_in
    exact fnM_rt (zR fl) rfl leave_same'
  have er : r_least_lot T [.dat (.list (ws.map cT)), .dat (.str s)] h = some ((13, T 13, [(("name" : Str), PyData.str s)]), h) := by
    unfold r_least_lot
    refine yFs (ρ := [some (.dat (.list (ws.map cT))), some (.dat (.str s)), none, none, none]) (yIt (h1 := h) (xB (x2 (f := eqW false) (xA (xC (xA (xC (E := fVar 0) rfl (xC (E := fVar 1) rfl xN)) e1) xN) (show lenW [.dat (.list [])] h = some (.dat (.int 0), h) from rfl)) (B := fC (.int 0)) rfl rfl)) ?_) rfl
    rfl
  unfold m__law_refused
  refine fnM_rt (h' := h) (w := .dat (.str s)) ?_ rfl leave_same'
  refine (zA (E := fC .none) (ρ1 := [some (.dat (.list (ws.map cT))), some (.dat (.str s)), some (.dat .none), none, none]) rfl rfl).trans ?_
  refine (zTry (ρ1 := [some (.dat (.list (ws.map cT))), some (.dat (.str s)), some (.dat .none), none, none]) (k := 13) (C := T 13) (fs := [(("name" : Str), PyData.str s)]) (ρ2 := [some (.dat (.list (ws.map cT))), some (.dat (.str s)), some (.exc 13 (T 13) [(("name" : Str), PyData.str s)]), some (.exc 13 (T 13) [(("name" : Str), PyData.str s)]), none]) (yX (yA (xC (E := fVar 0) rfl (xC (E := fVar 1) rfl xN)) er)) (by simp [okL]) (by
    unfold sAsg
    rfl)).trans ?_
  show sSeq _ _ [some (.dat (.list (ws.map cT))), some (.dat (.str s)), some (.exc 13 (T 13) [(("name" : Str), PyData.str s)]), none, none] h = _
  have i1 : f1 (isE [(13, T 13)] [13]) (fVar 2) [some (.dat (.list (ws.map cT))), some (.dat (.str s)), some (.exc 13 (T 13) [(("name" : Str), PyData.str s)]), none, none] h = some (.dat (.bool true), h) := isE_run (F := fVar 2) rfl (by simp) (by decide)
  refine (zA (ρ1 := [some (.dat (.list (ws.map cT))), some (.dat (.str s)), some (.exc 13 (T 13) [(("name" : Str), PyData.str s)]), none, some (.dat (.bool true))]) (xAnd i1 i1) rfl).trans ?_
  have i2 : f1 (isE [(13, T 13)] []) (fVar 2) [some (.dat (.list (ws.map cT))), some (.dat (.str s)), some (.exc 13 (T 13) [(("name" : Str), PyData.str s)]), none, some (.dat (.bool true))] h = some (.dat (.bool false), h) := isE_run (F := fVar 2) rfl (by simp) (by decide)
  have tt : bAnd (fB (fVar 4)) (bNot (fB (f1 (isE [(13, T 13)] []) (fVar 2)))) [some (.dat (.list (ws.map cT))), some (.dat (.str s)), some (.exc 13 (T 13) [(("name" : Str), PyData.str s)]), none, some (.dat (.bool true))] h = some (true, h) := bAndT (xB (E := fVar 4) rfl) (xTn i2)
  have x3 : f1 (xfW [(13, T 13)] "name") (fVar 2) [some (.dat (.list (ws.map cT))), some (.dat (.str s)), some (.exc 13 (T 13) [(("name" : Str), PyData.str s)]), none, some (.dat (.bool true))] h = some (.dat (.str s), h) := by
    show xfW [(13, T 13)] "name" (.exc 13 (T 13) [(("name" : Str), PyData.str s)]) h = _
    unfold xfW
    dsimp only
    rw [if_pos (List.mem_singleton.mpr rfl)]
    rfl
  refine zR ?_
  unfold fIf
  simp only [tt, obnd, if_true]
  exact x3
theorem right_ok {T : Nat → Addr} (h : Hh) (b c : Nat) (hp : Pre [] h) (hb0 : ([] : Hh).length ≤ b) (hb : BoxAt h b c) (hc : c ≤ 2 * 1000) : ∃ h', m__law_right T [.ref b] h = some (.dat (.bool true), h') ∧ BoxAt h' b (c + 1000) ∧ Only b h h' := by
  have hz : sizeLine = 16777216 := rfl
  have c1 : 1 ≤ sizeLine := by decide
  have c3 : 3 ≤ sizeLine := by decide
  obtain ⟨l, h1, e1, fk, l4, _, b1, o1⟩ := names_okZ (most := 9) hb (by omega) (by omega) (by omega)
  have l9 := fk.le
  have l0 := fk.pos
  have nd := fk.nd
  have tl := fk.txts
  have lx : IsSeq (PyData.list (l.map .str)) (l.map .str) := .inl rfl
  obtain ⟨q, h2, e2, q0, q1, b2, o2⟩ := take_ok (n := 5) b1 (by omega) (by omega) (by omega)
  obtain ⟨ws, h3, e3, cw, wl, b3, o3⟩ := calls_lc (l := l) (i := 13) (n := (1 + q).toNat) (x := .list (l.map .str)) (ρ := [some (.ref b), some (.dat (.list (l.map .str))), none, none, none, none, none, none, none, none, none, none, none, none, none, none, none, none]) lx (fun d g => ⟨_, rfl, rfl⟩) (by omega) b2 (by omega) l0 (by omega)
  obtain ⟨r, g, e4, pr, b4, o4⟩ := row_ok lx tl b3 (by omega) (by omega)
  have b5 : BoxAt g b (c + 1000) := b4.mono (by
    have : (1 + q).toNat ≤ 5 := by omega
    have : (1 + q).toNat * 94 ≤ 5 * 94 := Nat.mul_le_mul_right _ this
    omega)
  have og := ((o1.trans o2).trans o3).trans o4
  have w0 : ws ≠ [] := fun z => by subst z; have : (0 : Nat) = (1 + q).toNat := wl; omega
  have w5 : ws.length ≤ 5 := by omega
  have gl : g.length = h.length := og.len
  have bl : b < g.length := b5.lt
  let d0 : List D := [rowT l, .tuple [], .none, .int 0, .str "a", .list (l.map .str), .tuple [.none], .tuple [.list [.str "a"]], .tuple [.str "zzzzzz"], .bool true]
  have t0 : ∀ d ∈ d0, Th d := fun d hd => by
    have hd : d = rowT l ∨ d = .tuple [] ∨ d = .none ∨ d = .int 0 ∨ d = .str "a" ∨ d = .list (l.map .str) ∨ d = .tuple [.none] ∨ d = .tuple [.list [.str "a"]] ∨ d = .tuple [.str "zzzzzz"] ∨ d = .bool true := by simpa [d0] using hd
    rcases hd with rfl | rfl | rfl | rfl | rfl | rfl | rfl | rfl | rfl | rfl
    · exact .row l (by omega) tl
    · exact .row [] (by decide) (fun s hs => by cases hs)
    · exact .non _ rfl rfl
    · exact .non _ rfl rfl
    · exact .non _ rfl (by decide +kernel)
    · exact .non _ rfl (th_list (by omega) tl)
    · exact .n1
    · exact .n2
    · exact .row ["zzzzzz"] (by decide) (fun s hs => by rw [List.mem_singleton] at hs; subst hs; exact ⟨by decide, by decide +kernel⟩)
    · exact .non _ rfl rfl
  obtain ⟨Z, ds, w4, w8, w9, w10, w11, et, td, n4, n8, n9, n10, n11⟩ := tits_ok (b := b) (v5 := none) (v12 := none) (v14 := none) nd tl cw (by omega) pr (by omega) w0 l g d0 none none none none none (fun s hs => hs) (by show 10 + 6 * l.length ≤ 1000; omega) t0 (fun _ => rfl) (fun _ => rfl) (fun _ => rfl) (fun _ => rfl) (fun _ => rfl)
  obtain ⟨u5, u8, u12, u14, ea⟩ := asks_ok (b := b) (r := r) (h := (g ++ Z) ++ [none]) nd cw (by omega) (by omega) w0 ds (some (.dat (.list ds))) w4 none w8 w9 w10 w11 none none td
  have fz : frz 3 (e65 b l ws r (some (.ref (g ++ Z).length)) w4 none w8 w9 w10 w11 none none) ((g ++ Z) ++ [some (.lst ds)]) = some (e65 b l ws r (some (.dat (.list ds))) w4 none w8 w9 w10 w11 none none, (g ++ Z) ++ [none]) := by
    have ne : (b = (g ++ Z).length) = False := by
      have : b ≠ (g ++ Z).length := by rw [List.length_append]; omega
      simpa using this
    have gt : ((g ++ Z) ++ [some (MO.lst ds)])[(g ++ Z).length]? = some (some (.lst ds)) := app_get rfl
    have st : ((g ++ Z) ++ [some (MO.lst ds)]).set (g ++ Z).length none = (g ++ Z) ++ [none] := by
      rw [List.set_append_right _ _ (Nat.le_refl _), Nat.sub_self]; rfl
    unfold frz
    simp only [List.getElem?_cons_zero, List.getElem?_cons_succ, gt, List.set_cons_zero, List.set_cons_succ, List.any_cons, List.any_nil, isR_dat, isR_none, isR_ref, ne, n4, n8, n9, n10, n11, decide_false, Bool.or_false, isTab, Bool.false_eq_true, if_false, moD, st]
  have lv : leave false h (.dat (.bool true)) ((g ++ Z) ++ [none]) = some (.dat (.bool true), g) := by
    have tk : ((g ++ Z) ++ [none]).take h.length = g := by rw [← gl, List.append_assoc]; exact List.take_left
    have := leave_dat (h := h) (h' := (g ++ Z) ++ [none]) (d := .bool true) (by rw [tk]; exact live_only hb b5 og)
    rw [tk] at this
    exact this
  have eq : m__law_right T = fnM false 1 18 (sSeq (sAsg (fA (m__law_names) (fCons (fVar 0) (fCons (fC (.int 9)) (fNil)))) (gN 1))
    (sSeq (sAsg (fLc false (rng1I (fCons (f2 (addW false) (fC (.int 1)) (fA (m__law_take) (fCons (fVar 0) (fCons (fC (.int 5)) (fNil))))) (fNil))) (gN 13) (bYes) (fA (m__law_call) (fCons (fVar 0) (fCons (fVar 1) (fNil)))) [13]) (gN 2))
    (sSeq (sPar (fCons (fA (m__law_row) (fCons (fVar 0) (fCons (fVar 1) (fNil)))) (fCons (fLc false (seqI (fVar 2)) (gN 15) (bYes) (fLc false (seqI (fVar 15)) (gN 17) (bYes) (fA (listW false) (fCons (fVar 17) (fNil))) [17]) [15]) (fNil))) [6, 7])
    (sSeq (sAsg (fA (lstW true) (fCons (fA tupleW (fCons (fVar 1) (fNil))) (fCons (fA tupW (fNil)) (fCons (fC .none) (fCons (fC (.int 0)) (fCons (fC (.str "a")) (fCons (fA (listW false) (fCons (fVar 1) (fNil))) (fCons (fA tupW (fCons (fC .none) (fNil))) (fCons (fA tupW (fCons (fA (lstW false) (fCons (fC (.str "a")) (fNil))) (fNil))) (fCons (fA tupW (fCons (fC (.str "zzzzzz")) (fNil))) (fCons (fC (.bool true)) (fNil)))))))))))) (gN 3))
    (sSeq (sFor (seqI (fVar 1)) (gN 4) titB)
    (sFrz 3 (sSeq (sFor (seqI (fVar 3)) (gN 5) askB)
    (sRet (fA (m__law_same 12) (fCons (fLc false (seqI (fA tupW (fCons (fC (.str "")) (fCons (fC (.str "zzzzzz")) (fCons (fC (.str "A")) (fNil)))))) (gN 4) (bYes) (fA (m__law_refused T) (fCons (fVar 2) (fCons (fVar 4) (fNil)))) [4]) (fCons (fA (lstW false) (fCons (fC (.str "")) (fCons (fC (.str "zzzzzz")) (fCons (fC (.str "A")) (fNil))))) (fNil)))))))))))) := rfl
  rw [eq]
  refine ⟨g, ?_, b5, og⟩
  refine fnM_rt (h' := (g ++ Z) ++ [none]) (w := .dat (.bool true)) ?_ rfl lv
  show sSeq _ _ [some (.ref b), none, none, none, none, none, none, none, none, none, none, none, none, none, none, none, none, none] h = _
  refine (zA (ρ1 := [some (.ref b), some (.dat (.list (l.map .str))), none, none, none, none, none, none, none, none, none, none, none, none, none, none, none, none]) (xA (xC (E := fVar 0) rfl (xC (E := fC (.int 9)) rfl xN)) e1) rfl).trans ?_
  have rg : rng1I (fCons (f2 (addW false) (fC (.int 1)) (fA (m__law_take) (fCons (fVar 0) (fCons (fC (.int 5)) (fNil))))) (fNil)) [some (.ref b), some (.dat (.list (l.map .str))), none, none, none, none, none, none, none, none, none, none, none, none, none, none, none, none] h1 = some (rngD 0 (1 + q).toNat, h2) := by
    unfold rng1I
    have ea : (fCons (f2 (addW false) (fC (.int 1)) (fA (m__law_take) (fCons (fVar 0) (fCons (fC (.int 5)) (fNil))))) (fNil)) [some (.ref b), some (.dat (.list (l.map .str))), none, none, none, none, none, none, none, none, none, none, none, none, none, none, none, none] h1 = some ([.dat (.int (1 + q))], h2) := xC (x2 (A := fC (.int 1)) rfl (xA (xC (E := fVar 0) rfl (xC (E := fC (.int 5)) rfl xN)) e2) add_i) xN
    simp only [ea, obnd]
    rw [if_pos (by omega)]
  refine (zA (ρ1 := [some (.ref b), some (.dat (.list (l.map .str))), some (.dat (.list (ws.map cT))), none, none, none, none, none, none, none, none, none, none, none, none, none, none, none]) (xL (vs := [13]) rg e3 (by rw [List.length_map]; omega)) rfl).trans ?_
  have pl : ∀ ps ∈ ws, ps.length ≤ 1000 := fun ps hps => by
    have := (cw ps hps).perm.length_eq
    rw [List.length_map] at this
    omega
  have f7 : fLc false (seqI (fVar 2)) (gN 15) (bYes) (fLc false (seqI (fVar 15)) (gN 17) (bYes) (fA (listW false) (fCons (fVar 17) (fNil))) [17]) [15] [some (.ref b), some (.dat (.list (l.map .str))), some (.dat (.list (ws.map cT))), none, none, none, none, none, none, none, none, none, none, none, none, none, none, none] g = some (.dat (.list (ws.map (cD true))), g) := by
    refine xL (vs := [15]) (xS (E := fVar 2) rfl (.inl rfl)) (lcL_list cT (cD true) fun ps hps => ⟨[some (.ref b), some (.dat (.list (l.map .str))), some (.dat (.list (ws.map cT))), none, none, none, none, none, none, none, none, none, none, none, none, some (.dat (cT ps)), none, none], rfl, ?_⟩) (by rw [List.length_map]; omega)
    have := pl ps hps
    exact xL (vs := [17]) (rs := ps.map (prW true)) (xS (E := fVar 15) (x := cT ps) rfl (.inr rfl)) (lcL_list prT (prW true) fun p hp => ⟨[some (.ref b), some (.dat (.list (l.map .str))), some (.dat (.list (ws.map cT))), none, none, none, none, none, none, none, none, none, none, none, none, some (.dat (cT ps)), none, some (.dat (prT p))], rfl, xA (xC (E := fVar 17) rfl xN) (xList (.inr rfl))⟩) (by rw [List.length_map]; omega)
  refine (zP (is := [6, 7]) (ρ1 := e65 b l ws r none none none none none none none none none) (xC (xA (xC (E := fVar 0) rfl (xC (E := fVar 1) rfl xN)) e4) (xC f7 xN)) rfl rfl).trans ?_
  refine (zA (ρ1 := e65 b l ws r (some (.ref g.length)) none none none none none none none none) (xA (xC (xA (xC (E := fVar 1) rfl xN) (xTup (.inl rfl))) (xC (xA xN (xTp (ds := []) rfl (Nat.zero_le _))) (xC (E := fC .none) rfl (xC (E := fC (.int 0)) rfl (xC (E := fC (.str "a")) rfl (xC (xA (xC (E := fVar 1) rfl xN) (xList (.inl rfl))) (xC (xA (xC (E := fC .none) rfl xN) (xTp (ds := [.none]) rfl c1)) (xC (xA (xC (xA (xC (E := fC (.str "a")) rfl xN) (xLst (ds := [.str "a"]) rfl c1)) xN) (xTp (ds := [.list [.str "a"]]) rfl c1)) (xC (xA (xC (E := fC (.str "zzzzzz")) rfl xN) (xTp (ds := [.str "zzzzzz"]) rfl c1)) (xC (E := fC (.bool true)) rfl xN)))))))))) (xLstR (ds := d0) rfl (by show 10 ≤ sizeLine; decide))) rfl).trans ?_
  refine (zF (ds := l.map .str) (xS (E := fVar 1) rfl lx) et).trans ?_
  refine (zZ fz).trans ?_
  refine (zF (ds := ds) (xS (E := fVar 3) (x := .list ds) rfl (.inl rfl)) ea).trans ?_
  have nn : ∀ s : Str, (s.length = 0 ∨ s.length = 6 ∨ s.cps.toList = [65]) → s ∉ l := fun s hs hm => by
    have a1 := fk.nam s hm
    have a2 := l4 s hm
    rcases hs with z | z | z
    · have := a1.1; omega
    · omega
    · have := a1.2.2 65 (by rw [z]; exact List.mem_cons_self)
      omega
  have fin : fLc false (seqI (fA tupW (fCons (fC (.str "")) (fCons (fC (.str "zzzzzz")) (fCons (fC (.str "A")) (fNil)))))) (gN 4) (bYes) (fA (m__law_refused T) (fCons (fVar 2) (fCons (fVar 4) (fNil)))) [4] (e65 b l ws r (some (.dat (.list ds))) w4 u5 u8 w9 w10 w11 u12 u14) ((g ++ Z) ++ [none]) = some (.dat (.list [.str "", .str "zzzzzz", .str "A"]), (g ++ Z) ++ [none]) := by
    have lc := lcL_list (k := gN 4) (f := fA (m__law_refused T) (fCons (fVar 2) (fCons (fVar 4) (fNil)))) (ρ := e65 b l ws r (some (.dat (.list ds))) none u5 u8 w9 w10 w11 u12 u14) (h := (g ++ Z) ++ [none]) PyData.str PyData.str (xs := ["", "zzzzzz", "A"]) fun s hs => ⟨e65 b l ws r (some (.dat (.list ds))) (some (.dat (.str s))) u5 u8 w9 w10 w11 u12 u14, rfl, xA (xC (E := fVar 2) rfl (xC (E := fVar 4) rfl xN)) (refused_ok cw (nn s (by
      simp only [List.mem_cons, List.not_mem_nil, or_false] at hs
      rcases hs with rfl | rfl | rfl
      · exact .inl rfl
      · exact .inr (.inl rfl)
      · exact .inr (.inr rfl))))⟩
    exact xL (vs := [4]) (xS (x := .tuple [PyData.str "", .str "zzzzzz", .str "A"]) (xA (xC (E := fC (.str "")) rfl (xC (E := fC (.str "zzzzzz")) rfl (xC (E := fC (.str "A")) rfl xN))) (xTp (ds := [.str "", .str "zzzzzz", .str "A"]) rfl c3)) (.inr rfl)) lc (by show 3 ≤ sizeLine; exact c3)
  exact zR (xA (xC fin (xC (xA (xC (E := fC (.str "")) rfl (xC (E := fC (.str "zzzzzz")) rfl (xC (E := fC (.str "A")) rfl xN))) (xLst (ds := [.str "", .str "zzzzzz", .str "A"]) rfl c3)) xN)) (same_refl 12 _ _ rfl (by decide +kernel)))
theorem law_eq (T : Nat → Addr) : m_law T = lawF 2 (m__law_right T) := rfl
theorem law_true (T : Nat → Addr) (ns : List Int) (hl : ns.length ≤ 63) : ∃ h, m_law T [.scr ns] [] = some (.dat (.bool true), h) := by
  rw [law_eq]
  exact law_okF (t := 2) (h0 := []) (cost := 1000) rfl (by omega) (by omega) (by decide) (fun h b c hp hb0 hb hc => right_ok h b c hp hb0 hb hc) ns hl
end LW
set_option maxHeartbeats 4000000
namespace LW
open PySem PySem.Spec PyProof.Rows L2 DL
def topS (i : Nat) : Stmt := PySem.Challenge.pw_standby_k65_lots_by_themselves.main.body.getD i (.Pass ⟨0, 0, 0, 0⟩)
section
variable {P : Program} {w : World} {K : PySem.W.Frag} {mg : Str → Option Value} {base : Heap}
abbrev s_NoName___init__ : Stmt := inClass (topS 1) 0
theorem sc_NoName___init__ : FnScope ["self", "name"] ["self", "name"] (defScope s_NoName___init__) := ⟨rfl, rfl, rfl, by decide +kernel, rfl, by decide +kernel, by decide +kernel⟩
structure Errs (K : PySem.W.Frag) (mg : Str → Option Value) (T : Nat → Addr) : Prop where
  bLookupError : mg "LookupError" = none
  c13 : CE K mg (T 13) "NoName"
  c14 : CE K mg (T 14) "NoPlace"
  c15 : CE K mg (T 15) "NoNumber"
  c16 : CE K mg (T 16) "NoDeed"
  e13 : EC K (T 13)
  f13 : PySem.W.findIn K (.ref (T 13)) "name" = some none
  s13_13 : PySem.W.subIn K (.ref (T 13)) (.ref (T 13)) = some true
  s13_14 : PySem.W.subIn K (.ref (T 13)) (.ref (T 14)) = some false
  s13_15 : PySem.W.subIn K (.ref (T 13)) (.ref (T 15)) = some false
  s13_16 : PySem.W.subIn K (.ref (T 13)) (.ref (T 16)) = some false
  u13 : UE1 K mg (T 13) "NoName" "name"
  v13_LookupError : PySem.W.subIn K (.ref (T 13)) (.type "LookupError") = some true
abbrev s_told_in : Stmt := topS 6
abbrev N_told_in : List Str := ["word", "name", "call", "who", "whom"]
theorem sc_told_in : FnScope N_told_in ["word", "name"] (defScope s_told_in) := ⟨rfl, rfl, rfl, by decide +kernel, rfl, by decide +kernel, by decide +kernel⟩
abbrev s_part_of : Stmt := topS 9
abbrev N_part_of : List Str := ["word", "lot", "call", "who", "whom"]
theorem sc_part_of : FnScope N_part_of ["word", "lot"] (defScope s_part_of) := ⟨rfl, rfl, rfl, by decide +kernel, rfl, by decide +kernel, by decide +kernel⟩
abbrev scope_43_11_43_86 : Scope := {kind := PySem.ScopeKind.function, names := [ (PySem.Str.ofString ".0", PySem.NameKind.local), (PySem.Str.ofString "call", PySem.NameKind.local), (PySem.Str.ofString "tuple", PySem.NameKind.globalImplicit), (PySem.Str.ofString "lot", PySem.NameKind.free)], isGenerator := false, isCoroutine := false, more := [] : PySem.Scope }
abbrev s_row_of : Stmt := topS 10
abbrev N_row_of : List Str := ["row", "lot", "name"]
theorem sc_row_of : FnScope N_row_of ["row", "lot"] (defScope s_row_of) := ⟨rfl, rfl, rfl, by decide +kernel, rfl, by decide +kernel, by decide +kernel⟩
abbrev s__law_box : Stmt := topS 12
abbrev N__law_box : List Str := ["_law_script", "_law_k", "_law_cell"]
theorem sc__law_box : FnScope N__law_box ["_law_script", "_law_k"] (defScope s__law_box) := ⟨rfl, rfl, rfl, by decide +kernel, rfl, by decide +kernel, by decide +kernel⟩
abbrev s__law_take : Stmt := topS 13
abbrev N__law_take : List Str := ["_law_box_here", "_law_size", "_law_once", "_law_found"]
theorem sc__law_take : FnScope N__law_take ["_law_box_here", "_law_size"] (defScope s__law_take) := ⟨rfl, rfl, rfl, by decide +kernel, rfl, by decide +kernel, by decide +kernel⟩
abbrev s__law_folded : Stmt := topS 16
abbrev N__law_folded : List Str := ["_law_script", "_law_size", "_law_cells", "_law_k", "_law_cell"]
theorem sc__law_folded : FnScope N__law_folded ["_law_script", "_law_size"] (defScope s__law_folded) := ⟨rfl, rfl, rfl, by decide +kernel, rfl, by decide +kernel, by decide +kernel⟩
abbrev s__law_closed : Stmt := topS 20
abbrev N__law_closed : List Str := ["_law_verse", "_law_some", "_law_call_here", "_law_title", "_law_to"]
theorem sc__law_closed : FnScope N__law_closed ["_law_verse", "_law_some"] (defScope s__law_closed) := ⟨rfl, rfl, rfl, by decide +kernel, rfl, by decide +kernel, by decide +kernel⟩
abbrev s__law_grown : Stmt := topS 21
abbrev N__law_grown : List Str := ["_law_verse", "_law_title", "_law_found", "_law_left", "_law_here", "_law_call_here"]
theorem sc__law_grown : FnScope N__law_grown ["_law_verse", "_law_title"] (defScope s__law_grown) := ⟨rfl, rfl, rfl, by decide +kernel, rfl, by decide +kernel, by decide +kernel⟩
abbrev s_is_lot : Stmt := topS 7
abbrev N_is_lot : List Str := ["word", "thing", "some", "call", "who", "whom", "name", "one", "other"]
theorem sc_is_lot : FnScope N_is_lot ["word", "thing"] (defScope s_is_lot) := ⟨rfl, rfl, rfl, by decide +kernel, rfl, by decide +kernel, by decide +kernel⟩
abbrev s__law_pick : Stmt := topS 14
abbrev N__law_pick : List Str := ["_law_box_here", "_law_some"]
theorem sc__law_pick : FnScope N__law_pick ["_law_box_here", "_law_some"] (defScope s__law_pick) := ⟨rfl, rfl, rfl, by decide +kernel, rfl, by decide +kernel, by decide +kernel⟩
abbrev s__law_row : Stmt := topS 18
abbrev N__law_row : List Str := ["_law_box_here", "_law_names_due", "_law_left", "_law_found"]
theorem sc__law_row : FnScope N__law_row ["_law_box_here", "_law_names_due"] (defScope s__law_row) := ⟨rfl, rfl, rfl, by decide +kernel, rfl, by decide +kernel, by decide +kernel⟩
abbrev s__law_due : Stmt := topS 23
abbrev N__law_due : List Str := ["_law_names_due", "_law_verse", "_law_matter", "_law_title"]
theorem sc__law_due : FnScope N__law_due ["_law_names_due", "_law_verse", "_law_matter"] (defScope s__law_due) := ⟨rfl, rfl, rfl, by decide +kernel, rfl, by decide +kernel, by decide +kernel⟩
abbrev s_least_lot : Stmt := topS 8
abbrev N_least_lot : List Str := ["word", "name", "found", "waiting", "here"]
theorem sc_least_lot : FnScope N_least_lot ["word", "name"] (defScope s_least_lot) := ⟨rfl, rfl, rfl, by decide +kernel, rfl, by decide +kernel, by decide +kernel⟩
abbrev s__law_names : Stmt := topS 17
abbrev N__law_names : List Str := ["_law_box_here", "_law_most", "_law_count", "_law_found", "_law_title", "_law_turn"]
theorem sc__law_names : FnScope N__law_names ["_law_box_here", "_law_most"] (defScope s__law_names) := ⟨rfl, rfl, rfl, by decide +kernel, rfl, by decide +kernel, by decide +kernel⟩
abbrev s__law_call : Stmt := topS 19
abbrev N__law_call : List Str := ["_law_box_here", "_law_names_due", "_law_few", "_law_some", "_law_odds", "_law_turn", "_law_title"]
theorem sc__law_call : FnScope N__law_call ["_law_box_here", "_law_names_due"] (defScope s__law_call) := ⟨rfl, rfl, rfl, by decide +kernel, rfl, by decide +kernel, by decide +kernel⟩
abbrev s__law_refused : Stmt := topS 22
abbrev N__law_refused : List Str := ["_law_verse", "_law_title", "_law_caught", "error", "_law_fine"]
theorem sc__law_refused : FnScope N__law_refused ["_law_verse", "_law_title"] (defScope s__law_refused) := ⟨rfl, rfl, rfl, by decide +kernel, rfl, by decide +kernel, by decide +kernel⟩
abbrev s__law_same : Stmt := topS 15
abbrev N__law_same : List Str := ["_law_found", "_law_due_here", "_law_one", "_law_two"]
theorem sc__law_same : FnScope N__law_same ["_law_found", "_law_due_here"] (defScope s__law_same) := ⟨rfl, rfl, rfl, by decide +kernel, rfl, by decide +kernel, by decide +kernel⟩
abbrev s__law_right : Stmt := topS 24
abbrev N__law_right : List Str := ["_law_box_here", "_law_names_due", "_law_verse", "_law_things", "_law_title", "_law_matter", "_law_first", "_law_lists", "_law_due_here", "_law_crowd", "_law_told", "_law_parts", "_law_found", "_law_turn", "_law_kept", "_law_call_here", "_law_mate", "_law_pair"]
theorem sc__law_right : FnScope N__law_right ["_law_box_here"] (defScope s__law_right) := ⟨rfl, rfl, rfl, by decide +kernel, rfl, by decide +kernel, by decide +kernel⟩
abbrev scope_125_71_125_155 : Scope := {kind := PySem.ScopeKind.function, names := [(PySem.Str.ofString ".0", PySem.NameKind.local), (PySem.Str.ofString "_law_call_here", PySem.NameKind.local)], isGenerator := false, isCoroutine := false, more := [] : PySem.Scope }
abbrev scope_135_21_135_139 : Scope := {kind := PySem.ScopeKind.function, names := [ (PySem.Str.ofString ".0", PySem.NameKind.local), (PySem.Str.ofString "_law_call_here", PySem.NameKind.local), (PySem.Str.ofString "tuple", PySem.NameKind.globalImplicit), (PySem.Str.ofString "_law_due_here", PySem.NameKind.free)], isGenerator := false, isCoroutine := false, more := [] : PySem.Scope }
abbrev s_law : Stmt := topS 25
abbrev N_law : List Str := ["_law_script", "_law_cells", "_law_k", "_law_box_here", "_law_turn"]
theorem sc_law : FnScope N_law ["_law_script"] (defScope s_law) := ⟨rfl, rfl, rfl, by decide +kernel, rfl, by decide +kernel, by decide +kernel⟩
theorem rok_least_lot (T : Nat → Addr) (f : Addr) (fd : FuncData) (F : Fun K "least_lot" "least_lot" s_least_lot f fd) (hm : mg "least_lot" = some (.ref f)) (B : Bi mg) (g_told_in : GD P w K mg base 1 "told_in" s_told_in ["word", "name"] m_told_in)  (ER : Errs K mg T) : GR P w K mg base 3 "least_lot" s_least_lot ["word", "name"] (r_least_lot T) := gr_ok F hm sc_least_lot fun cdv A outer s H E hr =>
    have tk : Takes (cxOf (L2.CX P w) P w K mg base N_least_lot "least_lot" (defScope s_least_lot) f cdv A outer s H E) (fun cls d _ H => E cls d H) := takes_of rfl rfl rfl rfl
    dr_fst (dr_if (t_eq hr.room (d_len B.len (da_cons (d_call' g_told_in (hr.mono (by omega)) (da_cons (dv 0 (pv 0)) (da_cons (dv 1 (pv 1)) (da_nil))) (fun _ _ _ _ _ _ us hl => match us, hl with | [_, _], _ => rfl)) (da_nil))) (d_int)) (dr_fst (dr_raise1 ER.u13 (hr.mono (by omega)) rfl tk (dv 1 (pv 1)))) (dr_no))
theorem ok_told_in (f : Addr) (fd : FuncData) (F : Fun K "told_in" "told_in" s_told_in f fd) (hm : mg "told_in" = some (.ref f)) (B : Bi mg)   : GD P w K mg base 1 "told_in" s_told_in ["word", "name"] m_told_in := gd_ok false F hm sc_told_in fun cdv A outer s H E hr =>
    ds_one (ds_ret (d_lc2 false 2 (own := [("call", 2), ("who", 3), ("whom", 4)]) (vs1 := [3, 4]) rfl sc_told_in.nd (di_seq (dv 0 (pv 0))) (blkOk_by (N := N_told_in) (sc := defScope s_told_in) (by decide +kernel)) (fun _ _ _ _ _ => dg_name 2 (pg_name (i := 2) sc_told_in.nd rfl (Or.inl rfl))) (fun _ _ _ _ _ => dts_nil) (fun _ _ _ _ _ => pv 2) (fun _ _ _ _ _ => dg_tup rfl (dgs_cons (dg_name 3 (pg_name (i := 3) sc_told_in.nd rfl (Or.inl rfl))) (dgs_cons (dg_name 4 (pg_name (i := 4) sc_told_in.nd rfl (Or.inl rfl))) (dgs_nil)))) (fun _ _ _ _ _ => dts_one (t_eq hr.room (dv 3 (pv 3)) (dv 1 (pv 1)))) (fun _ _ _ _ _ => dv 4 (pv 4)) (by decide) (by decide) (by decide) (by decide)))
theorem ok_part_of (f : Addr) (fd : FuncData) (F : Fun K "part_of" "part_of" s_part_of f fd) (hm : mg "part_of" = some (.ref f)) (B : Bi mg)   : GD P w K mg base 1 "part_of" s_part_of ["word", "lot"] m_part_of := gd_ok false F hm sc_part_of fun cdv A outer s H E hr =>
    ds_one (ds_ret (d_lc false (own := [("call", 2)]) rfl sc_part_of.nd (di_seq (dv 0 (pv 0))) (blkOk_by (N := N_part_of) (sc := defScope s_part_of) (by decide +kernel)) (fun _ _ _ _ _ => dg_name 2 (pg_name (i := 2) sc_part_of.nd rfl (Or.inl rfl))) (fun _ _ _ _ _ => dts_nil) (fun _ _ _ _ _ => d_tuple B.tuple (da_cons (d_lc false (own := [("who", 3), ("whom", 4)]) rfl sc_part_of.nd (di_seq (dv 2 (pv 2))) (blk_re (blkOk_by (N := N_part_of) (sc := scope_43_11_43_86) (by decide +kernel))) (fun _ _ _ _ _ => dg_tup rfl (dgs_cons (dg_name 3 (pg_name (i := 3) sc_part_of.nd rfl (Or.inl rfl))) (dgs_cons (dg_name 4 (pg_name (i := 4) sc_part_of.nd rfl (Or.inl rfl))) (dgs_nil)))) (fun _ _ _ _ _ => dts_one (t_in hr.room (dv 3 (pv 3)) (dv 1 (pv 1)))) (fun _ _ _ _ _ => d_tup (da_cons (dv 3 (pv 3)) (da_cons (dv 4 (pv 4)) (da_nil)))) (by decide)) (da_nil))) (by decide)))
theorem ok_row_of (f : Addr) (fd : FuncData) (F : Fun K "row_of" "row_of" s_row_of f fd) (hm : mg "row_of" = some (.ref f)) (B : Bi mg)   : GD P w K mg base 1 "row_of" s_row_of ["row", "lot"] m_row_of := gd_ok false F hm sc_row_of fun cdv A outer s H E hr =>
    ds_one (ds_ret (d_tuple B.tuple (da_cons (d_lc false (own := [("name", 2)]) rfl sc_row_of.nd (di_seq (dv 0 (pv 0))) (blkOk_by (N := N_row_of) (sc := defScope s_row_of) (by decide +kernel)) (fun _ _ _ _ _ => dg_name 2 (pg_name (i := 2) sc_row_of.nd rfl (Or.inl rfl))) (fun _ _ _ _ _ => dts_one (t_in hr.room (dv 2 (pv 2)) (dv 1 (pv 1)))) (fun _ _ _ _ _ => dv 2 (pv 2)) (by decide)) (da_nil))))
theorem ok__law_box (f : Addr) (fd : FuncData) (F : Fun K "_law_box" "_law_box" s__law_box f fd) (hm : mg "_law_box" = some (.ref f)) (B : Bi mg)   : GD P w K mg base 1 "_law_box" s__law_box ["_law_script", "_law_k"] m__law_box := gd_ok true F hm sc__law_box fun cdv A outer s H E hr =>
    ds_cons (ds_set (ps_set (i := 2) sc__law_box.nd rfl (Or.inl rfl) (d_int)))
    (ds_cons (ds_if (t_lt (dv 1 (pv 1)) (d_len B.len (da_cons (dv 0 (pv 0)) (da_nil)))) (ds_one (ds_set (ps_set (i := 2) sc__law_box.nd rfl (Or.inl rfl) (d_idx hr.room (dv 0 (pv 0)) (dv 1 (pv 1)) (fun _ _ => rfl))))) (ds_nil))
    (ds_one (ds_ret (d_lst true (da_cons (d_mul false (d_abs B.abs (da_cons (dv 2 (pv 2)) (da_nil))) (d_intC B.int (da_cons (d_ge (d_abs B.abs (da_cons (dv 2 (pv 2)) (da_nil))) (d_pow (d_int) (d_int))) (da_nil)))) (da_cons (d_add false (d_add false (d_mod (dv 2 (pv 2)) (d_int)) (d_mul false (d_int) (dv 1 (pv 1)))) (d_int)) (da_cons (d_int) (da_nil))))))))
theorem ok__law_take (f : Addr) (fd : FuncData) (F : Fun K "_law_take" "_law_take" s__law_take f fd) (hm : mg "_law_take" = some (.ref f)) (B : Bi mg)   : GD P w K mg base 1 "_law_take" s__law_take ["_law_box_here", "_law_size"] m__law_take := gd_ok false F hm sc__law_take fun cdv A outer s H E hr =>
    ds_cons (ds_if (t_gt (d_idx hr.room (dv 0 (pv 0)) (d_int) (fun _ _ => rfl)) (d_int)) (ds_cons (ds_set (ps_set (i := 3) sc__law_take.nd rfl (Or.inl rfl) (d_mod (d_idx hr.room (dv 0 (pv 0)) (d_int) (fun _ _ => rfl)) (dv 1 (pv 1)))))
    (ds_cons (ds_sub (d_div (d_idx hr.room (dv 0 (pv 0)) (d_int) (fun _ _ => rfl)) (dv 1 (pv 1))) (dv 0 (pv 0)) (d_int) (ps_asg (d_div (d_idx hr.room (dv 0 (pv 0)) (d_int) (fun _ _ => rfl)) (dv 1 (pv 1))) (pg_sub (dv 0 (pv 0)) (d_int) set_list)))
    (ds_one (ds_ret (dv 3 (pv 3)))))) (ds_nil))
    (ds_cons (ds_sub (d_add false (d_idx hr.room (dv 0 (pv 0)) (d_int) (fun _ _ => rfl)) (d_int)) (dv 0 (pv 0)) (d_int) (ps_asg (d_add false (d_idx hr.room (dv 0 (pv 0)) (d_int) (fun _ _ => rfl)) (d_int)) (pg_sub (dv 0 (pv 0)) (d_int) set_list)))
    (ds_cons (ds_set (ps_set (i := 2) sc__law_take.nd rfl (Or.inl rfl) (d_mod (d_pow (d_add false (d_idx hr.room (dv 0 (pv 0)) (d_int) (fun _ _ => rfl)) (d_mul false (d_int) (d_idx hr.room (dv 0 (pv 0)) (d_int) (fun _ _ => rfl)))) (d_int)) (d_int))))
    (ds_one (ds_ret (d_mod (d_div (d_mod (d_add false (d_mul false (dv 2 (pv 2)) (d_add false (d_mod (dv 2 (pv 2)) (d_int)) (d_int))) (d_mul false (d_idx hr.room (dv 0 (pv 0)) (d_int) (fun _ _ => rfl)) (d_int))) (d_int)) (d_int)) (dv 1 (pv 1)))))))
theorem ok__law_folded (f : Addr) (fd : FuncData) (F : Fun K "_law_folded" "_law_folded" s__law_folded f fd) (hm : mg "_law_folded" = some (.ref f)) (B : Bi mg)   : GD P w K mg base 1 "_law_folded" s__law_folded ["_law_script", "_law_size"] m__law_folded := gd_ok false F hm sc__law_folded fun cdv A outer s H E hr =>
    ds_cons (ds_set (ps_set (i := 2) sc__law_folded.nd rfl (Or.inl rfl) (d_list true B.list (da_cons (d_slice false (dv 0 (pv 0)) (do_none) (do_some (dv 1 (pv 1)))) (da_nil)))))
    (ds_cons (ds_for rfl PassesOwn.never (di_enumA B.enumerate (da_cons (d_slice false (dv 0 (pv 0)) (do_some (dv 1 (pv 1))) (do_some (d_int))) (da_nil))) (dg_tup rfl (dgs_cons (dg_name 3 (pg_name (i := 3) sc__law_folded.nd rfl (Or.inl rfl))) (dgs_cons (dg_name 4 (pg_name (i := 4) sc__law_folded.nd rfl (Or.inl rfl))) (dgs_nil))))
    (ds_one (ds_sub (d_add false (d_idx hr.room (dv 2 (pv 2)) (d_mod (dv 3 (pv 3)) (dv 1 (pv 1))) (fun _ _ => rfl)) (d_mul false (dv 4 (pv 4)) (d_add false (dv 3 (pv 3)) (d_int)))) (dv 2 (pv 2)) (d_mod (dv 3 (pv 3)) (dv 1 (pv 1))) (ps_asg (d_add false (d_idx hr.room (dv 2 (pv 2)) (d_mod (dv 3 (pv 3)) (dv 1 (pv 1))) (fun _ _ => rfl)) (d_mul false (dv 4 (pv 4)) (d_add false (dv 3 (pv 3)) (d_int)))) (pg_sub (dv 2 (pv 2)) (d_mod (dv 3 (pv 3)) (dv 1 (pv 1))) set_list)))))
    (ds_frz 2 (ds_one (ds_ret (d_if (t_ne hr.room (dv 2 (pv 2)) (d_lst false (da_nil))) (dv 2 (pv 2)) (d_lst false (da_cons (d_int) (da_nil))))))))
theorem ok__law_closed (f : Addr) (fd : FuncData) (F : Fun K "_law_closed" "_law_closed" s__law_closed f fd) (hm : mg "_law_closed" = some (.ref f)) (B : Bi mg)   : GD P w K mg base 1 "_law_closed" s__law_closed ["_law_verse", "_law_some"] m__law_closed := gd_ok false F hm sc__law_closed fun cdv A outer s H E hr =>
    ds_cons (ds_for rfl PassesOwn.never (di_seq (dv 0 (pv 0))) (dg_name 2 (pg_name (i := 2) sc__law_closed.nd rfl (Or.inl rfl)))
    (ds_one (ds_for rfl PassesOwn.never (di_seq (dv 2 (pv 2))) (dg_tup rfl (dgs_cons (dg_name 3 (pg_name (i := 3) sc__law_closed.nd rfl (Or.inl rfl))) (dgs_cons (dg_name 4 (pg_name (i := 4) sc__law_closed.nd rfl (Or.inl rfl))) (dgs_nil))))
    (ds_one (ds_if (PW.pt (dw_and (t_in hr.room (dv 3 (pv 3)) (dv 1 (pv 1))) (dw_and1 (t_notin hr.room (dv 4 (pv 4)) (dv 1 (pv 1)))))) (ds_one (ds_ret (d_bl))) (ds_nil))))))
    (ds_one (ds_ret (d_bl)))
theorem ok__law_grown (f : Addr) (fd : FuncData) (F : Fun K "_law_grown" "_law_grown" s__law_grown f fd) (hm : mg "_law_grown" = some (.ref f)) (B : Bi mg)   : GD P w K mg base 1 "_law_grown" s__law_grown ["_law_verse", "_law_title"] m__law_grown := gd_ok false F hm sc__law_grown fun cdv A outer s H E hr =>
    ds_cons (ds_par2 (ps_par (i := 2) (j := 3) rfl sc__law_grown.nd rfl rfl (by decide) rfl rfl (da_cons (d_lst true (da_nil)) (da_cons (d_lst true (da_cons (dv 1 (pv 1)) (da_nil))) (da_nil))) (by rfl)))
    (ds_cons (ds_while 100000 PassesOwn.never (t_ne hr.room (dv 3 (pv 3)) (d_lst false (da_nil)))
    (ds_cons (ds_set (ps_set (i := 4) sc__law_grown.nd rfl (Or.inl rfl) ((pe_bm0 PySem.F.plainAttrs_list PySem.F.slot_list_pop PySem.F.type_list_pop mt_pop (dv 3 (pv 3))).weak (meth0_imp s_pop))))
    (ds_one (ds_if (t_notin hr.room (dv 4 (pv 4)) (dv 2 (pv 2))) (ds_cons (ds_expr ((pe_bm PySem.F.plainAttrs_list PySem.F.slot_list_append PySem.F.type_list_append mt_append (dv 2 (pv 2)) (da_cons (dv 4 (pv 4)) (da_nil))).weak (meth_imp s_append)))
    (ds_one (ds_for rfl PassesOwn.never (di_seq (dv 0 (pv 0))) (dg_name 5 (pg_name (i := 5) sc__law_grown.nd rfl (Or.inl rfl)))
    (ds_one (ds_expr ((pe_bm PySem.F.plainAttrs_list PySem.F.slot_list_append PySem.F.type_list_append mt_append (dv 3 (pv 3)) (da_cons (d_idx hr.room (d_dictA rfl false B.dict (da_cons (dv 5 (pv 5)) (da_nil))) (dv 4 (pv 4)) (fun _ _ => rfl)) (da_nil))).weak (meth_imp s_append))))))) (ds_nil)))))
    (ds_frz 2 (ds_one (ds_ret (d_tuple B.tuple (da_cons (d_sorted hr false B.sorted (da_cons (dv 2 (pv 2)) (da_nil))) (da_nil)))))))
theorem ok_is_lot (f : Addr) (fd : FuncData) (F : Fun K "is_lot" "is_lot" s_is_lot f fd) (hm : mg "is_lot" = some (.ref f)) (B : Bi mg)  (g_told_in : GD P w K mg base 1 "told_in" s_told_in ["word", "name"] m_told_in) : GD P w K mg base 2 "is_lot" s_is_lot ["word", "thing"] m_is_lot := gd_ok false F hm sc_is_lot fun cdv A outer s H E hr =>
    ds_cons (ds_if (PW.pt (dw_or (dt_not (dt_val (d_isi B.isinstance B.tuple bt_tuple (.inr (.inr (.inr (.inr (.inl rfl))))) (dv 1 (pv 1))))) (dw_or (t_eq hr.room (d_len B.len (da_cons (dv 1 (pv 1)) (da_nil))) (d_int)) (dw_or1 (dt_not (dt_val (d_all rfl B.all (da_cons (d_lc false (own := [("name", 6)]) rfl sc_is_lot.nd (di_seq (dv 1 (pv 1))) (blkOk_by (N := N_is_lot) (sc := defScope s_is_lot) (by decide +kernel)) (fun _ _ _ _ _ => dg_name 6 (pg_name (i := 6) sc_is_lot.nd rfl (Or.inl rfl))) (fun _ _ _ _ _ => dts_nil) (fun _ _ _ _ _ => d_isi B.isinstance B.str bt_str (.inr (.inr (.inl rfl))) (dv 6 (pv 6))) (by decide)) (da_nil))))))))) (ds_one (ds_ret (d_bl))) (ds_nil))
    (ds_cons (ds_set (ps_set (i := 2) sc_is_lot.nd rfl (Or.inr rfl) (d_dc2 false 3 (own := [("call", 3), ("who", 4), ("whom", 5)]) (vs1 := [4, 5]) rfl sc_is_lot.nd (di_seq (dv 0 (pv 0))) (blkOk_by (N := N_is_lot) (sc := defScope s_is_lot) (by decide +kernel)) (fun _ _ _ _ _ => dg_name 3 (pg_name (i := 3) sc_is_lot.nd rfl (Or.inl rfl))) (fun _ _ _ _ _ => pv 3) (fun _ _ _ _ _ => dg_tup rfl (dgs_cons (dg_name 4 (pg_name (i := 4) sc_is_lot.nd rfl (Or.inl rfl))) (dgs_cons (dg_name 5 (pg_name (i := 5) sc_is_lot.nd rfl (Or.inl rfl))) (dgs_nil)))) (fun _ _ _ _ _ => dv 4 (pv 4)) (fun _ _ _ _ _ => d_bl) (by decide) (by decide) (by decide) (by decide))))
    (ds_cons (ds_if (PW.pt (dw_or (dt_not (dt_val (d_all rfl B.all (da_cons (d_lc false (own := [("name", 6)]) rfl sc_is_lot.nd (di_seq (dv 1 (pv 1))) (blkOk_by (N := N_is_lot) (sc := defScope s_is_lot) (by decide +kernel)) (fun _ _ _ _ _ => dg_name 6 (pg_name (i := 6) sc_is_lot.nd rfl (Or.inl rfl))) (fun _ _ _ _ _ => dts_nil) (fun _ _ _ _ _ => d_in' hr.room (dv 6 (pv 6)) (dv 2 (pv 2))) (by decide)) (da_nil))))) (dw_or1 (dt_not (dt_val (d_all rfl B.all (da_cons (d_lc false (own := [("one", 7), ("other", 8)]) rfl sc_is_lot.nd (di_zip B.zip (da_cons (dv 1 (pv 1)) (da_cons (d_slice false (dv 1 (pv 1)) (do_some (d_int)) (do_none)) (da_nil)))) (blkOk_by (N := N_is_lot) (sc := defScope s_is_lot) (by decide +kernel)) (fun _ _ _ _ _ => dg_tup rfl (dgs_cons (dg_name 7 (pg_name (i := 7) sc_is_lot.nd rfl (Or.inl rfl))) (dgs_cons (dg_name 8 (pg_name (i := 8) sc_is_lot.nd rfl (Or.inl rfl))) (dgs_nil)))) (fun _ _ _ _ _ => dts_nil) (fun _ _ _ _ _ => d_lt (dv 7 (pv 7)) (dv 8 (pv 8))) (by decide)) (da_nil)))))))) (ds_one (ds_ret (d_bl))) (ds_nil))
    (ds_one (ds_ret (d_all rfl B.all (da_cons (d_lc2E false (own := [("name", 6), ("whom", 5)]) (vs1 := [5]) rfl sc_is_lot.nd (di_seq (dv 1 (pv 1))) (blkOk_by (N := N_is_lot) (sc := defScope s_is_lot) (by decide +kernel)) (fun _ _ _ _ _ => dg_name 6 (pg_name (i := 6) sc_is_lot.nd rfl (Or.inl rfl))) (fun _ _ _ _ _ => dts_nil) (fun _ _ _ _ _ => d_call' g_told_in (hr.mono (by omega)) (da_cons (dv 0 (pv 0)) (da_cons (dv 6 (pv 6)) (da_nil))) (fun _ _ _ _ _ _ us hl => match us, hl with | [_, _], _ => rfl)) (fun _ _ _ _ _ => dg_name 5 (pg_name (i := 5) sc_is_lot.nd rfl (Or.inl rfl))) (fun _ _ _ _ _ => dts_nil) (fun _ _ _ _ _ => d_in' hr.room (dv 5 (pv 5)) (dv 1 (pv 1))) (by decide) (by decide) (by decide)) (da_nil)))))))
theorem ok__law_pick (f : Addr) (fd : FuncData) (F : Fun K "_law_pick" "_law_pick" s__law_pick f fd) (hm : mg "_law_pick" = some (.ref f)) (B : Bi mg)  (g__law_take : GD P w K mg base 1 "_law_take" s__law_take ["_law_box_here", "_law_size"] m__law_take) : GD P w K mg base 2 "_law_pick" s__law_pick ["_law_box_here", "_law_some"] m__law_pick := gd_ok false F hm sc__law_pick fun cdv A outer s H E hr =>
    ds_one (ds_ret (d_idx hr.room (dv 1 (pv 1)) (d_call' g__law_take (hr.mono (by omega)) (da_cons (dv 0 (pv 0)) (da_cons (d_len B.len (da_cons (dv 1 (pv 1)) (da_nil))) (da_nil))) (fun _ _ _ _ _ _ us hl => match us, hl with | [_, _], _ => rfl)) (fun _ _ => rfl)))
theorem ok__law_row (f : Addr) (fd : FuncData) (F : Fun K "_law_row" "_law_row" s__law_row f fd) (hm : mg "_law_row" = some (.ref f)) (B : Bi mg)  (g__law_take : GD P w K mg base 1 "_law_take" s__law_take ["_law_box_here", "_law_size"] m__law_take) : GD P w K mg base 2 "_law_row" s__law_row ["_law_box_here", "_law_names_due"] m__law_row := gd_ok false F hm sc__law_row fun cdv A outer s H E hr =>
    ds_cons (ds_par2 (ps_par (i := 2) (j := 3) rfl sc__law_row.nd rfl rfl (by decide) rfl rfl (da_cons (d_list true B.list (da_cons (dv 1 (pv 1)) (da_nil))) (da_cons (d_lst true (da_nil)) (da_nil))) (by rfl)))
    (ds_cons (ds_while 100000 PassesOwn.never (t_ne hr.room (dv 2 (pv 2)) (d_lst false (da_nil)))
    (ds_one (ds_expr ((pe_bm PySem.F.plainAttrs_list PySem.F.slot_list_append PySem.F.type_list_append mt_append (dv 3 (pv 3)) (da_cons ((pe_bm PySem.F.plainAttrs_list PySem.F.slot_list_pop PySem.F.type_list_pop mt_popAt (dv 2 (pv 2)) (da_cons (d_call' g__law_take (hr.mono (by omega)) (da_cons (dv 0 (pv 0)) (da_cons (d_len B.len (da_cons (dv 2 (pv 2)) (da_nil))) (da_nil))) (fun _ _ _ _ _ _ us hl => match us, hl with | [_, _], _ => rfl)) (da_nil))).weak (meth_imp s_popAt)) (da_nil))).weak (meth_imp s_append)))))
    (ds_frz 3 (ds_one (ds_ret (d_tuple B.tuple (da_cons (dv 3 (pv 3)) (da_nil)))))))
theorem ok__law_due (f : Addr) (fd : FuncData) (F : Fun K "_law_due" "_law_due" s__law_due f fd) (hm : mg "_law_due" = some (.ref f)) (B : Bi mg)  (g__law_closed : GD P w K mg base 1 "_law_closed" s__law_closed ["_law_verse", "_law_some"] m__law_closed) : GD P w K mg base 2 "_law_due" s__law_due ["_law_names_due", "_law_verse", "_law_matter"] m__law_due := gd_ok false F hm sc__law_due fun cdv A outer s H E hr =>
    ds_cons (ds_if (PW.pt (dw_or (dt_not (dt_val (d_isi B.isinstance B.tuple bt_tuple (.inr (.inr (.inr (.inr (.inl rfl))))) (dv 2 (pv 2))))) (dw_or (t_eq hr.room (d_len B.len (da_cons (dv 2 (pv 2)) (da_nil))) (d_int)) (dw_or1 (dt_not (dt_val (d_all rfl B.all (da_cons (d_lc false (own := [("_law_title", 3)]) rfl sc__law_due.nd (di_seq (dv 2 (pv 2))) (blkOk_by (N := N__law_due) (sc := defScope s__law_due) (by decide +kernel)) (fun _ _ _ _ _ => dg_name 3 (pg_name (i := 3) sc__law_due.nd rfl (Or.inl rfl))) (fun _ _ _ _ _ => dts_nil) (fun _ _ _ _ _ => d_isi B.isinstance B.str bt_str (.inr (.inr (.inl rfl))) (dv 3 (pv 3))) (by decide)) (da_nil))))))))) (ds_one (ds_ret (d_bl))) (ds_nil))
    (ds_cons (ds_if (PW.pt (dw_or (t_ne hr.room (d_list false B.list (da_cons (dv 2 (pv 2)) (da_nil))) (d_sortT hr rfl false B.sorted B.set (da_cons (dv 2 (pv 2)) (da_nil)))) (dw_or1 (dt_not (dt_val (d_all rfl B.all (da_cons (d_lc false (own := [("_law_title", 3)]) rfl sc__law_due.nd (di_seq (dv 2 (pv 2))) (blkOk_by (N := N__law_due) (sc := defScope s__law_due) (by decide +kernel)) (fun _ _ _ _ _ => dg_name 3 (pg_name (i := 3) sc__law_due.nd rfl (Or.inl rfl))) (fun _ _ _ _ _ => dts_nil) (fun _ _ _ _ _ => d_in' hr.room (dv 3 (pv 3)) (dv 0 (pv 0))) (by decide)) (da_nil)))))))) (ds_one (ds_ret (d_bl))) (ds_nil))
    (ds_one (ds_ret (d_call' g__law_closed (hr.mono (by omega)) (da_cons (dv 1 (pv 1)) (da_cons (dv 2 (pv 2)) (da_nil))) (fun _ _ _ _ _ _ us hl => match us, hl with | [_, _], _ => rfl)))))
theorem ok_least_lot (f : Addr) (fd : FuncData) (F : Fun K "least_lot" "least_lot" s_least_lot f fd) (hm : mg "least_lot" = some (.ref f)) (B : Bi mg)  (g_told_in : GD P w K mg base 1 "told_in" s_told_in ["word", "name"] m_told_in) : GD P w K mg base 3 "least_lot" s_least_lot ["word", "name"] m_least_lot := gd_ok false F hm sc_least_lot fun cdv A outer s H E hr =>
    ds_cons (ds_if (t_eq hr.room (d_len B.len (da_cons (d_call' g_told_in (hr.mono (by omega)) (da_cons (dv 0 (pv 0)) (da_cons (dv 1 (pv 1)) (da_nil))) (fun _ _ _ _ _ _ us hl => match us, hl with | [_, _], _ => rfl)) (da_nil))) (d_int)) (ds_one (ds_never)) (ds_nil))
    (ds_cons (ds_par2 (ps_par (i := 2) (j := 3) rfl sc_least_lot.nd rfl rfl (by decide) rfl rfl (da_cons (d_lst true (da_nil)) (da_cons (d_lst true (da_cons (dv 1 (pv 1)) (da_nil))) (da_nil))) (by rfl)))
    (ds_cons (ds_while 100000 PassesOwn.never (t_gt (d_len B.len (da_cons (dv 3 (pv 3)) (da_nil))) (d_int))
    (ds_cons (ds_set (ps_set (i := 4) sc_least_lot.nd rfl (Or.inl rfl) ((pe_bm0 PySem.F.plainAttrs_list PySem.F.slot_list_pop PySem.F.type_list_pop mt_pop (dv 3 (pv 3))).weak (meth0_imp s_pop))))
    (ds_one (ds_if (t_notin hr.room (dv 4 (pv 4)) (dv 2 (pv 2))) (ds_cons (ds_expr ((pe_bm PySem.F.plainAttrs_list PySem.F.slot_list_append PySem.F.type_list_append mt_append (dv 2 (pv 2)) (da_cons (dv 4 (pv 4)) (da_nil))).weak (meth_imp s_append)))
    (ds_one (ds_expr ((pe_bm PySem.F.plainAttrs_list PySem.F.slot_list_extend PySem.F.type_list_extend mt_extend (dv 3 (pv 3)) (da_cons (d_call' g_told_in (hr.mono (by omega)) (da_cons (dv 0 (pv 0)) (da_cons (dv 4 (pv 4)) (da_nil))) (fun _ _ _ _ _ _ us hl => match us, hl with | [_, _], _ => rfl)) (da_nil))).weak (meth_imp s_extend))))) (ds_nil)))))
    (ds_frz 2 (ds_one (ds_ret (d_tuple B.tuple (da_cons (d_sorted hr false B.sorted (da_cons (dv 2 (pv 2)) (da_nil))) (da_nil))))))))
theorem ok__law_names (f : Addr) (fd : FuncData) (F : Fun K "_law_names" "_law_names" s__law_names f fd) (hm : mg "_law_names" = some (.ref f)) (B : Bi mg)  (g__law_take : GD P w K mg base 1 "_law_take" s__law_take ["_law_box_here", "_law_size"] m__law_take) (g__law_pick : GD P w K mg base 2 "_law_pick" s__law_pick ["_law_box_here", "_law_some"] m__law_pick) : GD P w K mg base 3 "_law_names" s__law_names ["_law_box_here", "_law_most"] m__law_names := gd_ok false F hm sc__law_names fun cdv A outer s H E hr =>
    ds_cons (ds_par2 (ps_par (i := 2) (j := 3) rfl sc__law_names.nd rfl rfl (by decide) rfl rfl (da_cons (d_add false (d_int) (d_call' g__law_take (hr.mono (by omega)) (da_cons (dv 0 (pv 0)) (da_cons (dv 1 (pv 1)) (da_nil))) (fun _ _ _ _ _ _ us hl => match us, hl with | [_, _], _ => rfl))) (da_cons (d_lst false (da_nil)) (da_nil))) (by rfl)))
    (ds_cons (ds_while 100000 PassesOwn.never (t_lt (d_len B.len (da_cons (dv 3 (pv 3)) (da_nil))) (dv 2 (pv 2)))
    (ds_cons (ds_set (ps_set (i := 4) sc__law_names.nd rfl (Or.inl rfl) (d_join (d_str) (d_lc false (own := [("_law_turn", 5)]) rfl sc__law_names.nd (di_rng1 B.range (da_cons (d_add false (d_int) (d_call' g__law_take (hr.mono (by omega)) (da_cons (dv 0 (pv 0)) (da_cons (d_int) (da_nil))) (fun _ _ _ _ _ _ us hl => match us, hl with | [_, _], _ => rfl))) (da_nil))) (blkOk_by (N := N__law_names) (sc := defScope s__law_names) (by decide +kernel)) (fun _ _ _ _ _ => dg_name 5 (pg_name (i := 5) sc__law_names.nd rfl (Or.inl rfl))) (fun _ _ _ _ _ => dts_nil) (fun _ _ _ _ _ => d_call' g__law_pick (hr.mono (by omega)) (da_cons (dv 0 (pv 0)) (da_cons (d_str) (da_nil))) (fun _ _ _ _ _ _ us hl => match us, hl with | [_, _], _ => rfl)) (by decide)))))
    (ds_one (ds_set (ps_set (i := 3) sc__law_names.nd rfl (Or.inl rfl) (d_sortS hr rfl false B.sorted B.set (da_cons (d_add false (dv 3 (pv 3)) (d_lst false (da_cons (d_add false (dv 4 (pv 4)) (d_idx hr.room (d_str) (d_len B.len (da_cons (dv 3 (pv 3)) (da_nil))) (fun _ _ => rfl))) (da_nil)))) (da_nil))))))))
    (ds_one (ds_ret (dv 3 (pv 3)))))
theorem ok__law_call (f : Addr) (fd : FuncData) (F : Fun K "_law_call" "_law_call" s__law_call f fd) (hm : mg "_law_call" = some (.ref f)) (B : Bi mg)  (g__law_pick : GD P w K mg base 2 "_law_pick" s__law_pick ["_law_box_here", "_law_some"] m__law_pick) (g__law_take : GD P w K mg base 1 "_law_take" s__law_take ["_law_box_here", "_law_size"] m__law_take) : GD P w K mg base 3 "_law_call" s__law_call ["_law_box_here", "_law_names_due"] m__law_call := gd_ok false F hm sc__law_call fun cdv A outer s H E hr =>
    ds_cons (ds_set (ps_set (i := 2) sc__law_call.nd rfl (Or.inl rfl) (d_call' g__law_pick (hr.mono (by omega)) (da_cons (dv 0 (pv 0)) (da_cons (d_lst false (da_cons (d_int) (da_cons (d_int) (da_cons (d_len B.len (da_cons (dv 1 (pv 1)) (da_nil))) (da_cons (d_len B.len (da_cons (dv 1 (pv 1)) (da_nil))) (da_nil)))))) (da_nil))) (fun _ _ _ _ _ _ us hl => match us, hl with | [_, _], _ => rfl))))
    (ds_cons (ds_set (ps_set (i := 3) sc__law_call.nd rfl (Or.inr rfl) (d_lc false (own := [("_law_turn", 5)]) rfl sc__law_call.nd (di_rng1 B.range (da_cons (dv 2 (pv 2)) (da_nil))) (blkOk_by (N := N__law_call) (sc := defScope s__law_call) (by decide +kernel)) (fun _ _ _ _ _ => dg_name 5 (pg_name (i := 5) sc__law_call.nd rfl (Or.inl rfl))) (fun _ _ _ _ _ => dts_nil) (fun _ _ _ _ _ => d_call' g__law_pick (hr.mono (by omega)) (da_cons (dv 0 (pv 0)) (da_cons (dv 1 (pv 1)) (da_nil))) (fun _ _ _ _ _ _ us hl => match us, hl with | [_, _], _ => rfl)) (by decide))))
    (ds_cons (ds_set (ps_set (i := 4) sc__law_call.nd rfl (Or.inr rfl) (d_add false (d_int) (d_call' g__law_take (hr.mono (by omega)) (da_cons (dv 0 (pv 0)) (da_cons (d_int) (da_nil))) (fun _ _ _ _ _ _ us hl => match us, hl with | [_, _], _ => rfl)))))
    (ds_one (ds_ret (d_tuple B.tuple (da_cons (d_lc false (own := [("_law_title", 6)]) rfl sc__law_call.nd (di_seq (dv 1 (pv 1))) (blkOk_by (N := N__law_call) (sc := defScope s__law_call) (by decide +kernel)) (fun _ _ _ _ _ => dg_name 6 (pg_name (i := 6) sc__law_call.nd rfl (Or.inl rfl))) (fun _ _ _ _ _ => dts_nil) (fun _ _ _ _ _ => d_tup (da_cons (dv 6 (pv 6)) (da_cons (d_if (t_gt (d_call' g__law_take (hr.mono (by omega)) (da_cons (dv 0 (pv 0)) (da_cons (dv 4 (pv 4)) (da_nil))) (fun _ _ _ _ _ _ us hl => match us, hl with | [_, _], _ => rfl)) (d_int)) (dv 6 (pv 6)) (d_call' g__law_pick (hr.mono (by omega)) (da_cons (dv 0 (pv 0)) (da_cons (dv 3 (pv 3)) (da_nil))) (fun _ _ _ _ _ _ us hl => match us, hl with | [_, _], _ => rfl))) (da_nil)))) (by decide)) (da_nil)))))))
theorem ok__law_refused (f : Addr) (fd : FuncData) (F : Fun K "_law_refused" "_law_refused" s__law_refused f fd) (hm : mg "_law_refused" = some (.ref f)) (B : Bi mg) (T : Nat → Addr)  (g_least_lot : GD P w K mg base 3 "least_lot" s_least_lot ["word", "name"] m_least_lot) (gr_least_lot : GR P w K mg base 3 "least_lot" s_least_lot ["word", "name"] (r_least_lot T)) (ER : Errs K mg T) : GD P w K mg base 4 "_law_refused" s__law_refused ["_law_verse", "_law_title"] (m__law_refused T) := gd_ok false F hm sc__law_refused fun cdv A outer s H E hr =>
    ds_cons (ds_set (ps_set (i := 2) sc__law_refused.nd rfl (Or.inl rfl) (d_non)))
    (ds_cons (ds_try (i := 3) rfl rfl rfl sc__law_refused.nd rfl rfl (okL_of (all_cons (cls_tuple (ClsNames.cons ER.c16.at_ (ClsNames.cons ER.c13.at_ (ClsNames.cons ER.c15.at_ (ClsNames.cons ER.c14.at_ (ClsNames.nil))))) (by simp) (exa_cons (exo_of ER.c16 ER.s13_16) (exa_cons (exo_of ER.c13 ER.s13_13) (exa_cons (exo_of ER.c15 ER.s13_15) (exa_cons (exo_of ER.c14 ER.s13_14) (exa_nil)))))) (all_nil))) (fun pn xe pa => ds_one (ds_expr (d_call' g_least_lot (hr.mono (by omega)) (da_cons (dv 0 (pv 0)) (da_cons (dv 1 (pv 1)) (da_nil))) (fun _ _ _ _ _ _ us hl => match us, hl with | [_, _], _ => rfl)))) (fun W pn xe tk pa => dr_fst (dr_expr (dre_call gr_least_lot (hr.mono (by omega)) tk (da_cons (dv 0 (pv 0)) (da_cons (dv 1 (pv 1)) (da_nil))) (fun _ _ _ _ _ _ us hl => match us, hl with | [_, _], _ => rfl)))) (fun a pn => ds_one (ds_set (ps_set (i := 2) sc__law_refused.nd rfl (Or.inl rfl) (dv 3 (pv 3))))))
    (ds_cons (ds_set (ps_set (i := 4) sc__law_refused.nd rfl (Or.inl rfl) (d_and (d_isE B.isinstance ER.c13.at_ (all_cons (⟨ER.e13, kit_same⟩) (all_nil)) (dv 2 (pv 2))) (d_one (d_isEB B.isinstance ER.bLookupError bt_LE (all_cons (⟨ER.e13, (kit_bi km_LE ER.v13_LookupError)⟩) (all_nil)) (dv 2 (pv 2)))))))
    (ds_one (ds_ret (d_if (PW.pt (dw_and (dt_val (dv 4 (pv 4))) (dw_and1 (dt_not (dt_val (d_isET B.isinstance (ClsPA.cons ER.c16.at_ (ClsPA.cons ER.c15.at_ (ClsPA.cons ER.c14.at_ (ClsPA.nil)))) (by simp) (all_cons (⟨ER.e13, ka_no (kit_not ER.c16 ER.s13_16 ER.s13_13) (ka_no (kit_not ER.c15 ER.s13_15 ER.s13_13) (ka_no (kit_not ER.c14 ER.s13_14 ER.s13_13) (ka_nil)))⟩) (all_nil)) (dv 2 (pv 2)))))))) (d_xf (all_cons (⟨ER.e13, ER.f13⟩) (all_nil)) (dv 2 (pv 2))) (d_non))))))
theorem ok__law_same (f : Addr) (fd : FuncData) (F : Fun K "_law_same" "_law_same" s__law_same f fd) (hm : mg "_law_same" = some (.ref f)) (B : Bi mg)   : ∀ n : Nat, GD P w K mg base (n) "_law_same" s__law_same ["_law_found", "_law_due_here"] (m__law_same n)
  | 0 => GD.no F hm
  | n + 1 => have ih := ok__law_same f fd F hm B  n
    gd_ok false F hm sc__law_same fun cdv A outer s H E hr =>
    ds_cons (ds_if (dt_val (d_isi2 B.isinstance B.list bt_list (.inr (.inr (.inr (.inl rfl)))) B.tuple bt_tuple (.inr (.inr (.inr (.inr (.inl rfl))))) (dv 1 (pv 1)))) (ds_cons (ds_if (PW.pt (dw_or (t_ne hr.room (d_isi B.isinstance B.list bt_list (.inr (.inr (.inr (.inl rfl)))) (dv 0 (pv 0))) (d_isi B.isinstance B.list bt_list (.inr (.inr (.inr (.inl rfl)))) (dv 1 (pv 1)))) (dw_or1 (t_ne hr.room (d_isi B.isinstance B.tuple bt_tuple (.inr (.inr (.inr (.inr (.inl rfl))))) (dv 0 (pv 0))) (d_isi B.isinstance B.tuple bt_tuple (.inr (.inr (.inr (.inr (.inl rfl))))) (dv 1 (pv 1))))))) (ds_one (ds_ret (d_bl))) (ds_nil))
    (ds_cons (ds_if (t_ne hr.room (d_len B.len (da_cons (dv 0 (pv 0)) (da_nil))) (d_len B.len (da_cons (dv 1 (pv 1)) (da_nil)))) (ds_one (ds_ret (d_bl))) (ds_nil))
    (ds_one (ds_ret (d_all rfl B.all (da_cons (d_lc false (own := [("_law_one", 2), ("_law_two", 3)]) rfl sc__law_same.nd (di_zip B.zip (da_cons (dv 0 (pv 0)) (da_cons (dv 1 (pv 1)) (da_nil)))) (blkOk_by (N := N__law_same) (sc := defScope s__law_same) (by decide +kernel)) (fun _ _ _ _ _ => dg_tup rfl (dgs_cons (dg_name 2 (pg_name (i := 2) sc__law_same.nd rfl (Or.inl rfl))) (dgs_cons (dg_name 3 (pg_name (i := 3) sc__law_same.nd rfl (Or.inl rfl))) (dgs_nil)))) (fun _ _ _ _ _ => dts_nil) (fun _ _ _ _ _ => d_call' ih hr (da_cons (dv 2 (pv 2)) (da_cons (dv 3 (pv 3)) (da_nil))) (fun _ _ _ _ _ _ us hl => match us, hl with | [_, _], _ => rfl)) (by decide)) (da_nil))))))) (ds_nil))
    (ds_cons (ds_if (PW.pt (dw_or (t_is (dv 1 (pv 1)) (d_non)) (dw_or1 (dt_val (d_isi B.isinstance B.str bt_str (.inr (.inr (.inl rfl))) (dv 1 (pv 1))))))) (ds_one (ds_ret (d_and (d_eq hr.room (dv 0 (pv 0)) (dv 1 (pv 1))) (d_one (d_eq hr.room (d_isi B.isinstance B.str bt_str (.inr (.inr (.inl rfl))) (dv 0 (pv 0))) (d_isi B.isinstance B.str bt_str (.inr (.inr (.inl rfl))) (dv 1 (pv 1)))))))) (ds_nil))
    (ds_one (ds_ret (d_and (d_isi B.isinstance B.int bt_int (.inl rfl) (dv 0 (pv 0))) (d_and (d_eq hr.room (d_isi B.isinstance B.bool bt_bool (.inr (.inl rfl)) (dv 0 (pv 0))) (d_isi B.isinstance B.bool bt_bool (.inr (.inl rfl)) (dv 1 (pv 1)))) (d_one (d_eq hr.room (dv 0 (pv 0)) (dv 1 (pv 1)))))))))
theorem ok__law_right (f : Addr) (fd : FuncData) (F : Fun K "_law_right" "_law_right" s__law_right f fd) (hm : mg "_law_right" = some (.ref f)) (B : Bi mg) (T : Nat → Addr)  (g__law_names : GD P w K mg base 3 "_law_names" s__law_names ["_law_box_here", "_law_most"] m__law_names) (g__law_same : GD P w K mg base 12 "_law_same" s__law_same ["_law_found", "_law_due_here"] (m__law_same 12)) (g__law_call : GD P w K mg base 3 "_law_call" s__law_call ["_law_box_here", "_law_names_due"] m__law_call) (g__law_row : GD P w K mg base 2 "_law_row" s__law_row ["_law_box_here", "_law_names_due"] m__law_row) (g__law_grown : GD P w K mg base 1 "_law_grown" s__law_grown ["_law_verse", "_law_title"] m__law_grown) (g_row_of : GD P w K mg base 1 "row_of" s_row_of ["row", "lot"] m_row_of) (g__law_due : GD P w K mg base 2 "_law_due" s__law_due ["_law_names_due", "_law_verse", "_law_matter"] m__law_due) (g_is_lot : GD P w K mg base 2 "is_lot" s_is_lot ["word", "thing"] m_is_lot) (g__law_refused : GD P w K mg base 4 "_law_refused" s__law_refused ["_law_verse", "_law_title"] (m__law_refused T)) (g__law_take : GD P w K mg base 1 "_law_take" s__law_take ["_law_box_here", "_law_size"] m__law_take) (g_least_lot : GD P w K mg base 3 "least_lot" s_least_lot ["word", "name"] m_least_lot) (g_part_of : GD P w K mg base 1 "part_of" s_part_of ["word", "lot"] m_part_of) : GD P w K mg base 13 "_law_right" s__law_right ["_law_box_here"] (m__law_right T) := gd_ok false F hm sc__law_right fun cdv A outer s H E hr =>
    ds_cons (ds_set (ps_set (i := 1) sc__law_right.nd rfl (Or.inr rfl) (d_call' g__law_names (hr.mono (by omega)) (da_cons (dv 0 (pv 0)) (da_cons (d_int) (da_nil))) (fun _ _ _ _ _ _ us hl => match us, hl with | [_, _], _ => rfl))))
    (ds_cons (ds_set (ps_set (i := 2) sc__law_right.nd rfl (Or.inr rfl) (d_lc false (own := [("_law_turn", 13)]) rfl sc__law_right.nd (di_rng1 B.range (da_cons (d_add false (d_int) (d_call' g__law_take (hr.mono (by omega)) (da_cons (dv 0 (pv 0)) (da_cons (d_int) (da_nil))) (fun _ _ _ _ _ _ us hl => match us, hl with | [_, _], _ => rfl))) (da_nil))) (blkOk_by (N := N__law_right) (sc := defScope s__law_right) (by decide +kernel)) (fun _ _ _ _ _ => dg_name 13 (pg_name (i := 13) sc__law_right.nd rfl (Or.inl rfl))) (fun _ _ _ _ _ => dts_nil) (fun _ _ _ _ _ => d_call' g__law_call (hr.mono (by omega)) (da_cons (dv 0 (pv 0)) (da_cons (dv 1 (pv 1)) (da_nil))) (fun _ _ _ _ _ _ us hl => match us, hl with | [_, _], _ => rfl)) (by decide))))
    (ds_cons (ds_par2 (ps_par (i := 6) (j := 7) rfl sc__law_right.nd rfl rfl (by decide) rfl rfl (da_cons (d_call' g__law_row (hr.mono (by omega)) (da_cons (dv 0 (pv 0)) (da_cons (dv 1 (pv 1)) (da_nil))) (fun _ _ _ _ _ _ us hl => match us, hl with | [_, _], _ => rfl)) (da_cons (d_lc false (own := [("_law_call_here", 15)]) rfl sc__law_right.nd (di_seq (dv 2 (pv 2))) (blkOk_by (N := N__law_right) (sc := defScope s__law_right) (by decide +kernel)) (fun _ _ _ _ _ => dg_name 15 (pg_name (i := 15) sc__law_right.nd rfl (Or.inl rfl))) (fun _ _ _ _ _ => dts_nil) (fun _ _ _ _ _ => d_lc false (own := [("_law_pair", 17)]) rfl sc__law_right.nd (di_seq (dv 15 (pv 15))) (blk_re (blkOk_by (N := N__law_right) (sc := scope_125_71_125_155) (by decide +kernel))) (fun _ _ _ _ _ => dg_name 17 (pg_name (i := 17) sc__law_right.nd rfl (Or.inl rfl))) (fun _ _ _ _ _ => dts_nil) (fun _ _ _ _ _ => d_list false B.list (da_cons (dv 17 (pv 17)) (da_nil))) (by decide)) (by decide)) (da_nil))) (by rfl)))
    (ds_cons (ds_set (ps_set (i := 3) sc__law_right.nd rfl (Or.inl rfl) (d_lst true (da_cons (d_tuple B.tuple (da_cons (dv 1 (pv 1)) (da_nil))) (da_cons (d_tup (da_nil)) (da_cons (d_non) (da_cons (d_int) (da_cons (d_str) (da_cons (d_list false B.list (da_cons (dv 1 (pv 1)) (da_nil))) (da_cons (d_tup (da_cons (d_non) (da_nil))) (da_cons (d_tup (da_cons (d_lst false (da_cons (d_str) (da_nil))) (da_nil))) (da_cons (d_tup (da_cons (d_str) (da_nil))) (da_cons (d_bl) (da_nil))))))))))))))
    (ds_cons (ds_for rfl PassesOwn.never (di_seq (dv 1 (pv 1))) (dg_name 4 (pg_name (i := 4) sc__law_right.nd rfl (Or.inl rfl)))
    (ds_cons (ds_set (ps_set (i := 8) sc__law_right.nd rfl (Or.inr rfl) (d_call' g__law_grown (hr.mono (by omega)) (da_cons (dv 2 (pv 2)) (da_cons (dv 4 (pv 4)) (da_nil))) (fun _ _ _ _ _ _ us hl => match us, hl with | [_, _], _ => rfl))))
    (ds_cons (ds_if (dt_not (dt_val (d_call' g__law_same (hr.mono (by omega)) (da_cons (d_lst false (da_cons (d_call' g_least_lot (hr.mono (by omega)) (da_cons (dv 2 (pv 2)) (da_cons (dv 4 (pv 4)) (da_nil))) (fun _ _ _ _ _ _ us hl => match us, hl with | [_, _], _ => rfl)) (da_cons (d_callK (ks := ["name", "word"]) g_least_lot (hr.mono (by omega)) (dk_cons (dv 4 (pv 4)) (dk_cons (dv 7 (pv 7)) (dk_nil))) (fun _ _ _ _ _ _ us l hl hp => match us, hl with | [_, _], _ => by cases hp; rfl) rfl) (da_nil)))) (da_cons (d_lst false (da_cons (dv 8 (pv 8)) (da_cons (dv 8 (pv 8)) (da_nil)))) (da_nil))) (fun _ _ _ _ _ _ us hl => match us, hl with | [_, _], _ => rfl)))) (ds_one (ds_ret (d_bl))) (ds_nil))
    (ds_cons (ds_setLc false (own := [("_law_mate", 16)]) (i := 9) rfl sc__law_right.nd rfl rfl (sw_true rfl rfl rfl (by decide +kernel)) (di_seq (dv 6 (pv 6))) (blkOk_by (N := N__law_right) (sc := defScope s__law_right) (by decide +kernel)) (fun _ _ _ _ _ => dg_name 16 (pg_name (i := 16) sc__law_right.nd rfl (Or.inl rfl))) (fun _ _ _ _ _ => dts_one (t_in hr.room (dv 16 (pv 16)) (dv 8 (pv 8)))) (fun _ _ _ _ _ => dv 16 (pv 16)) (by decide))
    (ds_cons (ds_set (ps_set (i := 10) sc__law_right.nd rfl (Or.inl rfl) (d_lst false (da_cons (d_call' g_row_of (hr.mono (by omega)) (da_cons (dv 6 (pv 6)) (da_cons (dv 8 (pv 8)) (da_nil))) (fun _ _ _ _ _ _ us hl => match us, hl with | [_, _], _ => rfl)) (da_cons (d_callK (ks := ["lot", "row"]) g_row_of (hr.mono (by omega)) (dk_cons (d_list false B.list (da_cons (dv 8 (pv 8)) (da_nil))) (dk_cons (d_list false B.list (da_cons (dv 6 (pv 6)) (da_nil))) (dk_nil))) (fun _ _ _ _ _ _ us l hl hp => match us, hl with | [_, _], _ => by cases hp; rfl) rfl) (da_nil))))))
    (ds_cons (ds_if (dt_not (dt_val (d_call' g__law_same (hr.mono (by omega)) (da_cons (dv 10 (pv 10)) (da_cons (d_mul false (d_lst false (da_cons (d_tuple B.tuple (da_cons (dv 9 (pv 9)) (da_nil))) (da_nil))) (d_int)) (da_nil))) (fun _ _ _ _ _ _ us hl => match us, hl with | [_, _], _ => rfl)))) (ds_one (ds_ret (d_bl))) (ds_nil))
    (ds_cons (ds_setLc false (own := [("_law_call_here", 15)]) (i := 11) rfl sc__law_right.nd rfl rfl (sw_true rfl rfl rfl (by decide +kernel)) (di_seq (dv 2 (pv 2))) (blkOk_by (N := N__law_right) (sc := defScope s__law_right) (by decide +kernel)) (fun _ _ _ _ _ => dg_name 15 (pg_name (i := 15) sc__law_right.nd rfl (Or.inl rfl))) (fun _ _ _ _ _ => dts_nil) (fun _ _ _ _ _ => d_tuple B.tuple (da_cons (d_lc false (own := [("_law_pair", 17)]) rfl sc__law_right.nd (di_seq (dv 15 (pv 15))) (blk_re (blkOk_by (N := N__law_right) (sc := scope_135_21_135_139) (by decide +kernel))) (fun _ _ _ _ _ => dg_name 17 (pg_name (i := 17) sc__law_right.nd rfl (Or.inl rfl))) (fun _ _ _ _ _ => dts_one (t_in hr.room (d_idx hr.room (dv 17 (pv 17)) (d_int) (fun _ _ => rfl)) (dv 8 (pv 8)))) (fun _ _ _ _ _ => dv 17 (pv 17)) (by decide)) (da_nil))) (by decide))
    (ds_cons (ds_if (dt_not (dt_val (d_call' g__law_same (hr.mono (by omega)) (da_cons (d_lst false (da_cons (d_call' g_part_of (hr.mono (by omega)) (da_cons (dv 2 (pv 2)) (da_cons (dv 8 (pv 8)) (da_nil))) (fun _ _ _ _ _ _ us hl => match us, hl with | [_, _], _ => rfl)) (da_cons (d_callK (ks := ["lot", "word"]) g_part_of (hr.mono (by omega)) (dk_cons (dv 8 (pv 8)) (dk_cons (dv 7 (pv 7)) (dk_nil))) (fun _ _ _ _ _ _ us l hl hp => match us, hl with | [_, _], _ => by cases hp; rfl) rfl) (da_nil)))) (da_cons (d_lst false (da_cons (dv 11 (pv 11)) (da_cons (dv 11 (pv 11)) (da_nil)))) (da_nil))) (fun _ _ _ _ _ _ us hl => match us, hl with | [_, _], _ => rfl)))) (ds_one (ds_ret (d_bl))) (ds_nil))
    (ds_cons (ds_set (ps_set (i := 3) sc__law_right.nd rfl (Or.inl rfl) (d_add true (dv 3 (pv 3)) (d_lst false (da_cons (dv 8 (pv 8)) (da_cons (d_slice false (dv 8 (pv 8)) (do_some (d_int)) (do_none)) (da_cons (d_rev false (dv 8 (pv 8))) (da_cons (d_add false (dv 8 (pv 8)) (d_slice false (dv 8 (pv 8)) (do_some (d_neg (d_int))) (do_none))) (da_cons (d_list false B.list (da_cons (dv 8 (pv 8)) (da_nil))) (da_nil))))))))))
    (ds_one (ds_expr ((pe_bm PySem.F.plainAttrs_list PySem.F.slot_list_append PySem.F.type_list_append mt_append (dv 3 (pv 3)) (da_cons (d_tuple B.tuple (da_cons (d_sortT hr rfl false B.sorted B.set (da_cons (d_add false (dv 8 (pv 8)) (d_tup (da_cons (d_idx hr.room (dv 1 (pv 1)) (d_int) (fun _ _ => rfl)) (da_nil)))) (da_nil))) (da_nil))) (da_nil))).weak (meth_imp s_append)))))))))))))
    (ds_frz 3 (ds_cons (ds_for rfl PassesOwn.never (di_seq (dv 3 (pv 3))) (dg_name 5 (pg_name (i := 5) sc__law_right.nd rfl (Or.inl rfl)))
    (ds_cons (ds_asg (d_tup (da_cons (d_reprA hr B.repr (da_cons (dv 5 (pv 5)) (da_nil))) (da_cons (d_call' g__law_due (hr.mono (by omega)) (da_cons (dv 1 (pv 1)) (da_cons (dv 2 (pv 2)) (da_cons (dv 5 (pv 5)) (da_nil)))) (fun _ _ _ _ _ _ us hl => match us, hl with | [_, _, _], _ => rfl)) (da_nil)))) (dg_tup rfl (dgs_cons (dg_name 14 (pg_name (i := 14) sc__law_right.nd rfl (Or.inl rfl))) (dgs_cons (dg_name 8 (pg_name (i := 8) sc__law_right.nd rfl (Or.inr rfl))) (dgs_nil)))))
    (ds_cons (ds_set (ps_set (i := 12) sc__law_right.nd rfl (Or.inl rfl) (d_lst false (da_cons (d_call' g_is_lot (hr.mono (by omega)) (da_cons (dv 2 (pv 2)) (da_cons (dv 5 (pv 5)) (da_nil))) (fun _ _ _ _ _ _ us hl => match us, hl with | [_, _], _ => rfl)) (da_cons (d_callK (ks := ["thing", "word"]) g_is_lot (hr.mono (by omega)) (dk_cons (dv 5 (pv 5)) (dk_cons (dv 7 (pv 7)) (dk_nil))) (fun _ _ _ _ _ _ us l hl hp => match us, hl with | [_, _], _ => by cases hp; rfl) rfl) (da_nil))))))
    (ds_one (ds_if (PW.pt (dw_or (dt_not (dt_val (d_call' g__law_same (hr.mono (by omega)) (da_cons (dv 12 (pv 12)) (da_cons (d_lst false (da_cons (dv 8 (pv 8)) (da_cons (dv 8 (pv 8)) (da_nil)))) (da_nil))) (fun _ _ _ _ _ _ us hl => match us, hl with | [_, _], _ => rfl)))) (dw_or1 (t_ne hr.room (d_reprA hr B.repr (da_cons (dv 5 (pv 5)) (da_nil))) (dv 14 (pv 14)))))) (ds_one (ds_ret (d_bl))) (ds_nil))))))
    (ds_one (ds_ret (d_call' g__law_same (hr.mono (by omega)) (da_cons (d_lc false (own := [("_law_title", 4)]) rfl sc__law_right.nd (di_seq (d_tup (da_cons (d_str) (da_cons (d_str) (da_cons (d_str) (da_nil)))))) (blkOk_by (N := N__law_right) (sc := defScope s__law_right) (by decide +kernel)) (fun _ _ _ _ _ => dg_name 4 (pg_name (i := 4) sc__law_right.nd rfl (Or.inl rfl))) (fun _ _ _ _ _ => dts_nil) (fun _ _ _ _ _ => d_call' g__law_refused (hr.mono (by omega)) (da_cons (dv 2 (pv 2)) (da_cons (dv 4 (pv 4)) (da_nil))) (fun _ _ _ _ _ _ us hl => match us, hl with | [_, _], _ => rfl)) (by decide)) (da_cons (d_lst false (da_cons (d_str) (da_cons (d_str) (da_cons (d_str) (da_nil))))) (da_nil))) (fun _ _ _ _ _ _ us hl => match us, hl with | [_, _], _ => rfl))))))))))
theorem ok_law (f : Addr) (fd : FuncData) (F : Fun K "law" "law" s_law f fd) (hm : mg "law" = some (.ref f)) (B : Bi mg) (T : Nat → Addr)  (g__law_folded : GD P w K mg base 1 "_law_folded" s__law_folded ["_law_script", "_law_size"] m__law_folded) (g__law_box : GD P w K mg base 1 "_law_box" s__law_box ["_law_script", "_law_k"] m__law_box) (g__law_right : GD P w K mg base 13 "_law_right" s__law_right ["_law_box_here"] (m__law_right T)) : FnG P w K mg base CX0 14 f fd ["_law_script"] (spD (m_law T)) := fng_ok false F sc_law fun cdv A outer s H E hr =>
    ds_cons (ds_set (ps_set (i := 1) sc_law.nd rfl (Or.inl rfl) (d_call' g__law_folded (hr.mono (by omega)) (da_cons (dv 0 (pv 0)) (da_cons (d_int) (da_nil))) (fun _ _ _ _ _ _ us hl => match us, hl with | [_, _], _ => rfl))))
    (ds_cons (ds_for rfl PassesOwn.never (di_rng1 B.range (da_cons (d_len B.len (da_cons (dv 1 (pv 1)) (da_nil))) (da_nil))) (dg_name 2 (pg_name (i := 2) sc_law.nd rfl (Or.inl rfl)))
    (ds_cons (ds_set (ps_set (i := 3) sc_law.nd rfl (Or.inr rfl) (d_call' g__law_box (hr.mono (by omega)) (da_cons (dv 1 (pv 1)) (da_cons (dv 2 (pv 2)) (da_nil))) (fun _ _ _ _ _ _ us hl => match us, hl with | [_, _], _ => rfl))))
    (ds_one (ds_if (dt_not (dt_val (d_all rfl B.all (da_cons (d_lc false (own := [("_law_turn", 4)]) rfl sc_law.nd (di_rng1 B.range (da_cons (d_int) (da_nil))) (blkOk_by (N := N_law) (sc := defScope s_law) (by decide +kernel)) (fun _ _ _ _ _ => dg_name 4 (pg_name (i := 4) sc_law.nd rfl (Or.inl rfl))) (fun _ _ _ _ _ => dts_nil) (fun _ _ _ _ _ => d_call' g__law_right (hr.mono (by omega)) (da_cons (dv 3 (pv 3)) (da_nil)) (fun _ _ _ _ _ _ us hl => match us, hl with | [_], _ => rfl)) (by decide)) (da_nil))))) (ds_one (ds_ret (d_bl))) (ds_nil)))))
    (ds_one (ds_ret (d_bl))))
end
theorem all_mk {l : PySem.W.OpenLaw} {w : World} {K : PySem.W.Frag} {h : Heap} {mg : Str → Option Value} {fa f0 f1 f2 f3 f4 f5 f6 f7 f8 f9 f10 f11 f12 f13 f14 f15 f16 f17 f18 : Addr} {CE13 CE14 CE15 CE16 : Addr} (X : K.In h) (G : h.Ns mainGlobals mg) (hfa : mg "law" = some (.ref fa))
    {fe13 : Addr} {ode13 ane13 : Option Addr} {sle13 : Array (Option Value)} {oce13 kVe13 dce13 pme13 cde13 cte13 : Value}
    {od0 od1 od2 od3 od4 od5 od6 od7 od8 od9 od10 od11 od12 od13 od14 od15 od16 od17 od18 an0 an1 an2 an3 an4 an5 an6 an7 an8 an9 an10 an11 an12 an13 an14 an15 an16 an17 an18 : Option Addr} {sl0 sl1 sl2 sl3 sl4 sl5 sl6 sl7 sl8 sl9 sl10 sl11 sl12 sl13 sl14 sl15 sl16 sl17 sl18 : Array (Option Value)} {oc0 oc1 oc2 oc3 oc4 oc5 oc6 oc7 oc8 oc9 oc10 oc11 oc12 oc13 oc14 oc15 oc16 oc17 oc18 kV0 kV1 kV2 kV3 kV4 kV5 kV6 kV7 kV8 kV9 kV10 kV11 kV12 kV13 kV14 kV15 kV16 kV17 kV18 dc0 dc1 dc2 dc3 dc4 dc5 dc6 dc7 dc8 dc9 dc10 dc11 dc12 dc13 dc14 dc15 dc16 dc17 dc18 pm0 pm1 pm2 pm3 pm4 pm5 pm6 pm7 pm8 pm9 pm10 pm11 pm12 pm13 pm14 pm15 pm16 pm17 pm18 cd0 cd1 cd2 cd3 cd4 cd5 cd6 cd7 cd8 cd9 cd10 cd11 cd12 cd13 cd14 cd15 cd16 cd17 cd18 ct0 ct1 ct2 ct3 ct4 ct5 ct6 ct7 ct8 ct9 ct10 ct11 ct12 ct13 ct14 ct15 ct16 ct17 ct18 : Value}
    (a0 : PySem.W.nsIn K mainGlobals "told_in" = some (some (.ref f0))) (l0 : K.lookup f0 = some ⟨oc0, od0, .func (PySem.W.fnOf "told_in" "told_in" (defArgs s_told_in) (defBody s_told_in) (defScope s_told_in) .none kV0 dc0 pm0 an0 cd0 ct0), sl0⟩) (c0 : PySem.W.codeIn K cd0 "told_in" = true) (k0 : PySem.W.keepIn K (.ref f0) = true)
    (a1 : PySem.W.nsIn K mainGlobals "is_lot" = some (some (.ref f1))) (l1 : K.lookup f1 = some ⟨oc1, od1, .func (PySem.W.fnOf "is_lot" "is_lot" (defArgs s_is_lot) (defBody s_is_lot) (defScope s_is_lot) .none kV1 dc1 pm1 an1 cd1 ct1), sl1⟩) (c1 : PySem.W.codeIn K cd1 "is_lot" = true) (k1 : PySem.W.keepIn K (.ref f1) = true)
    (a2 : PySem.W.nsIn K mainGlobals "least_lot" = some (some (.ref f2))) (l2 : K.lookup f2 = some ⟨oc2, od2, .func (PySem.W.fnOf "least_lot" "least_lot" (defArgs s_least_lot) (defBody s_least_lot) (defScope s_least_lot) .none kV2 dc2 pm2 an2 cd2 ct2), sl2⟩) (c2 : PySem.W.codeIn K cd2 "least_lot" = true) (k2 : PySem.W.keepIn K (.ref f2) = true)
    (a3 : PySem.W.nsIn K mainGlobals "part_of" = some (some (.ref f3))) (l3 : K.lookup f3 = some ⟨oc3, od3, .func (PySem.W.fnOf "part_of" "part_of" (defArgs s_part_of) (defBody s_part_of) (defScope s_part_of) .none kV3 dc3 pm3 an3 cd3 ct3), sl3⟩) (c3 : PySem.W.codeIn K cd3 "part_of" = true) (k3 : PySem.W.keepIn K (.ref f3) = true)
    (a4 : PySem.W.nsIn K mainGlobals "row_of" = some (some (.ref f4))) (l4 : K.lookup f4 = some ⟨oc4, od4, .func (PySem.W.fnOf "row_of" "row_of" (defArgs s_row_of) (defBody s_row_of) (defScope s_row_of) .none kV4 dc4 pm4 an4 cd4 ct4), sl4⟩) (c4 : PySem.W.codeIn K cd4 "row_of" = true) (k4 : PySem.W.keepIn K (.ref f4) = true)
    (a5 : PySem.W.nsIn K mainGlobals "_law_box" = some (some (.ref f5))) (l5 : K.lookup f5 = some ⟨oc5, od5, .func (PySem.W.fnOf "_law_box" "_law_box" (defArgs s__law_box) (defBody s__law_box) (defScope s__law_box) .none kV5 dc5 pm5 an5 cd5 ct5), sl5⟩) (c5 : PySem.W.codeIn K cd5 "_law_box" = true) (k5 : PySem.W.keepIn K (.ref f5) = true)
    (a6 : PySem.W.nsIn K mainGlobals "_law_take" = some (some (.ref f6))) (l6 : K.lookup f6 = some ⟨oc6, od6, .func (PySem.W.fnOf "_law_take" "_law_take" (defArgs s__law_take) (defBody s__law_take) (defScope s__law_take) .none kV6 dc6 pm6 an6 cd6 ct6), sl6⟩) (c6 : PySem.W.codeIn K cd6 "_law_take" = true) (k6 : PySem.W.keepIn K (.ref f6) = true)
    (a7 : PySem.W.nsIn K mainGlobals "_law_pick" = some (some (.ref f7))) (l7 : K.lookup f7 = some ⟨oc7, od7, .func (PySem.W.fnOf "_law_pick" "_law_pick" (defArgs s__law_pick) (defBody s__law_pick) (defScope s__law_pick) .none kV7 dc7 pm7 an7 cd7 ct7), sl7⟩) (c7 : PySem.W.codeIn K cd7 "_law_pick" = true) (k7 : PySem.W.keepIn K (.ref f7) = true)
    (a8 : PySem.W.nsIn K mainGlobals "_law_same" = some (some (.ref f8))) (l8 : K.lookup f8 = some ⟨oc8, od8, .func (PySem.W.fnOf "_law_same" "_law_same" (defArgs s__law_same) (defBody s__law_same) (defScope s__law_same) .none kV8 dc8 pm8 an8 cd8 ct8), sl8⟩) (c8 : PySem.W.codeIn K cd8 "_law_same" = true) (k8 : PySem.W.keepIn K (.ref f8) = true)
    (a9 : PySem.W.nsIn K mainGlobals "_law_folded" = some (some (.ref f9))) (l9 : K.lookup f9 = some ⟨oc9, od9, .func (PySem.W.fnOf "_law_folded" "_law_folded" (defArgs s__law_folded) (defBody s__law_folded) (defScope s__law_folded) .none kV9 dc9 pm9 an9 cd9 ct9), sl9⟩) (c9 : PySem.W.codeIn K cd9 "_law_folded" = true) (k9 : PySem.W.keepIn K (.ref f9) = true)
    (a10 : PySem.W.nsIn K mainGlobals "_law_names" = some (some (.ref f10))) (l10 : K.lookup f10 = some ⟨oc10, od10, .func (PySem.W.fnOf "_law_names" "_law_names" (defArgs s__law_names) (defBody s__law_names) (defScope s__law_names) .none kV10 dc10 pm10 an10 cd10 ct10), sl10⟩) (c10 : PySem.W.codeIn K cd10 "_law_names" = true) (k10 : PySem.W.keepIn K (.ref f10) = true)
    (a11 : PySem.W.nsIn K mainGlobals "_law_row" = some (some (.ref f11))) (l11 : K.lookup f11 = some ⟨oc11, od11, .func (PySem.W.fnOf "_law_row" "_law_row" (defArgs s__law_row) (defBody s__law_row) (defScope s__law_row) .none kV11 dc11 pm11 an11 cd11 ct11), sl11⟩) (c11 : PySem.W.codeIn K cd11 "_law_row" = true) (k11 : PySem.W.keepIn K (.ref f11) = true)
    (a12 : PySem.W.nsIn K mainGlobals "_law_call" = some (some (.ref f12))) (l12 : K.lookup f12 = some ⟨oc12, od12, .func (PySem.W.fnOf "_law_call" "_law_call" (defArgs s__law_call) (defBody s__law_call) (defScope s__law_call) .none kV12 dc12 pm12 an12 cd12 ct12), sl12⟩) (c12 : PySem.W.codeIn K cd12 "_law_call" = true) (k12 : PySem.W.keepIn K (.ref f12) = true)
    (a13 : PySem.W.nsIn K mainGlobals "_law_closed" = some (some (.ref f13))) (l13 : K.lookup f13 = some ⟨oc13, od13, .func (PySem.W.fnOf "_law_closed" "_law_closed" (defArgs s__law_closed) (defBody s__law_closed) (defScope s__law_closed) .none kV13 dc13 pm13 an13 cd13 ct13), sl13⟩) (c13 : PySem.W.codeIn K cd13 "_law_closed" = true) (k13 : PySem.W.keepIn K (.ref f13) = true)
    (a14 : PySem.W.nsIn K mainGlobals "_law_grown" = some (some (.ref f14))) (l14 : K.lookup f14 = some ⟨oc14, od14, .func (PySem.W.fnOf "_law_grown" "_law_grown" (defArgs s__law_grown) (defBody s__law_grown) (defScope s__law_grown) .none kV14 dc14 pm14 an14 cd14 ct14), sl14⟩) (c14 : PySem.W.codeIn K cd14 "_law_grown" = true) (k14 : PySem.W.keepIn K (.ref f14) = true)
    (a15 : PySem.W.nsIn K mainGlobals "_law_refused" = some (some (.ref f15))) (l15 : K.lookup f15 = some ⟨oc15, od15, .func (PySem.W.fnOf "_law_refused" "_law_refused" (defArgs s__law_refused) (defBody s__law_refused) (defScope s__law_refused) .none kV15 dc15 pm15 an15 cd15 ct15), sl15⟩) (c15 : PySem.W.codeIn K cd15 "_law_refused" = true) (k15 : PySem.W.keepIn K (.ref f15) = true)
    (a16 : PySem.W.nsIn K mainGlobals "_law_due" = some (some (.ref f16))) (l16 : K.lookup f16 = some ⟨oc16, od16, .func (PySem.W.fnOf "_law_due" "_law_due" (defArgs s__law_due) (defBody s__law_due) (defScope s__law_due) .none kV16 dc16 pm16 an16 cd16 ct16), sl16⟩) (c16 : PySem.W.codeIn K cd16 "_law_due" = true) (k16 : PySem.W.keepIn K (.ref f16) = true)
    (a17 : PySem.W.nsIn K mainGlobals "_law_right" = some (some (.ref f17))) (l17 : K.lookup f17 = some ⟨oc17, od17, .func (PySem.W.fnOf "_law_right" "_law_right" (defArgs s__law_right) (defBody s__law_right) (defScope s__law_right) .none kV17 dc17 pm17 an17 cd17 ct17), sl17⟩) (c17 : PySem.W.codeIn K cd17 "_law_right" = true) (k17 : PySem.W.keepIn K (.ref f17) = true)
    (a18 : PySem.W.nsIn K mainGlobals "law" = some (some (.ref f18))) (l18 : K.lookup f18 = some ⟨oc18, od18, .func (PySem.W.fnOf "law" "law" (defArgs s_law) (defBody s_law) (defScope s_law) .none kV18 dc18 pm18 an18 cd18 ct18), sl18⟩) (c18 : PySem.W.codeIn K cd18 "law" = true) (k18 : PySem.W.keepIn K (.ref f18) = true)
    (xa13 : PySem.W.nsIn K mainGlobals "NoName" = some (some (.ref CE13)))
    (xk13 : PySem.W.keepIn K (.ref CE13) = true)
    (xb13 : PySem.W.subIn K (.ref CE13) (.type "BaseException") = some true)
    (xt13 : PySem.W.typeIn K (.ref CE13) = some (.type "type"))
    (xh13 : PySem.W.hasDictIn K CE13 = true)
    (xx13 : PySem.W.excInitIn K CE13 [.type "LookupError", .type "Exception", .type "BaseException", .type "object"] "LookupError.__new__" = true)
    (xo13 : PySem.W.excOver K CE13 [.type "LookupError", .type "Exception", .type "BaseException", .type "object"] = true)
    (xS13 : PySem.W.findIn K (.ref CE13) "__setattr__" = some (some (.builtin "object.__setattr__")))
    (xi13 : PySem.W.findIn K (.ref CE13) "__init__" = some (some (.ref fe13)))
    (xj13 : PySem.W.typeIn K (.ref fe13) = some (.type "function"))
    (xl13 : K.lookup fe13 = some ⟨oce13, ode13, .func (PySem.W.fnOf "__init__" "NoName.__init__" (defArgs s_NoName___init__) (defBody s_NoName___init__) (defScope s_NoName___init__) .none kVe13 dce13 pme13 ane13 cde13 cte13), sle13⟩)
    (xq13 : PySem.W.codeIn K cde13 "NoName.__init__" = true)
    (xK13 : PySem.W.keepIn K (.ref fe13) = true)
    (xF13 : PySem.W.findCls K (.type "LookupError") (.type "type") "__init__" = some (.val (.builtin "LookupError.__init__")))
    (xg13 : PySem.W.findIn K (.ref CE13) "__getattribute__" = some (some (.builtin "BaseException.__getattribute__")))
    (xG13 : PySem.W.findIn K (.ref CE13) "__getattr__" = some none)
    (xc13 : PySem.W.findIn K (.ref CE13) "__class__" = some (some (.builtin "object.__class__")))
    (xm13 : PySem.W.mroIn K CE13 (.type "object") = some true)
    (xa14 : PySem.W.nsIn K mainGlobals "NoPlace" = some (some (.ref CE14)))
    (xk14 : PySem.W.keepIn K (.ref CE14) = true)
    (xb14 : PySem.W.subIn K (.ref CE14) (.type "BaseException") = some true)
    (xt14 : PySem.W.typeIn K (.ref CE14) = some (.type "type"))
    (xh14 : PySem.W.hasDictIn K CE14 = true)
    (xa15 : PySem.W.nsIn K mainGlobals "NoNumber" = some (some (.ref CE15)))
    (xk15 : PySem.W.keepIn K (.ref CE15) = true)
    (xb15 : PySem.W.subIn K (.ref CE15) (.type "BaseException") = some true)
    (xt15 : PySem.W.typeIn K (.ref CE15) = some (.type "type"))
    (xh15 : PySem.W.hasDictIn K CE15 = true)
    (xa16 : PySem.W.nsIn K mainGlobals "NoDeed" = some (some (.ref CE16)))
    (xk16 : PySem.W.keepIn K (.ref CE16) = true)
    (xb16 : PySem.W.subIn K (.ref CE16) (.type "BaseException") = some true)
    (xt16 : PySem.W.typeIn K (.ref CE16) = some (.type "type"))
    (xh16 : PySem.W.hasDictIn K CE16 = true)
    (xnLookupError : PySem.W.nsIn K mainGlobals "LookupError" = some none)
    (xf13 : PySem.W.findIn K (.ref CE13) "name" = some none)
    (xs13_13 : PySem.W.subIn K (.ref CE13) (.ref CE13) = some true)
    (xs13_14 : PySem.W.subIn K (.ref CE13) (.ref CE14) = some false)
    (xs13_15 : PySem.W.subIn K (.ref CE13) (.ref CE15) = some false)
    (xs13_16 : PySem.W.subIn K (.ref CE13) (.ref CE16) = some false)
    (xv13_LookupError : PySem.W.subIn K (.ref CE13) (.type "LookupError") = some true)
    (xhn : PySem.W.specialIn K (.builtin "object.__class__") "__get__" = some (some (.builtin "getset_descriptor.__get__")))
    (xtk : PySem.W.takesIn K (.builtin "object.__class__") = some true)
    (z_len : PySem.W.nsIn K mainGlobals "len" = some none)
    (z_abs : PySem.W.nsIn K mainGlobals "abs" = some none)
    (z_int : PySem.W.nsIn K mainGlobals "int" = some none)
    (z_max : PySem.W.nsIn K mainGlobals "max" = some none)
    (z_min : PySem.W.nsIn K mainGlobals "min" = some none)
    (z_all : PySem.W.nsIn K mainGlobals "all" = some none)
    (z_any : PySem.W.nsIn K mainGlobals "any" = some none)
    (z_sum : PySem.W.nsIn K mainGlobals "sum" = some none)
    (z_tuple : PySem.W.nsIn K mainGlobals "tuple" = some none)
    (z_list : PySem.W.nsIn K mainGlobals "list" = some none)
    (z_dict : PySem.W.nsIn K mainGlobals "dict" = some none)
    (z_sorted : PySem.W.nsIn K mainGlobals "sorted" = some none)
    (z_isinstance : PySem.W.nsIn K mainGlobals "isinstance" = some none)
    (z_str : PySem.W.nsIn K mainGlobals "str" = some none)
    (z_bool : PySem.W.nsIn K mainGlobals "bool" = some none)
    (z_range : PySem.W.nsIn K mainGlobals "range" = some none)
    (z_enumerate : PySem.W.nsIn K mainGlobals "enumerate" = some none)
    (z_zip : PySem.W.nsIn K mainGlobals "zip" = some none)
    (z_reversed : PySem.W.nsIn K mainGlobals "reversed" = some none)
    (z_repr : PySem.W.nsIn K mainGlobals "repr" = some none)
    (z_set : PySem.W.nsIn K mainGlobals "set" = some none)
    : ∃ (fd : FuncData) (os : List (Option (Str × Addr × Addr))) (m : FM), (∀ (s : Shared) (v : Value), BindsTo s fd ⟨[v], []⟩ [("_law_script", v)]) ∧ (∀ t ∈ os.filterMap id, (∃ y ∈ [], PySem.W.tabIn K y = some (t.2.1, t.2.2)) ∧ K.lookup t.2.2 = none) ∧ ((os.filterMap id).map (·.2.2)).Nodup ∧ (∀ base : Heap, K.In base → base.Ns mainGlobals mg → (∀ t ∈ os.filterMap id, LamX.TabB base mg t.2.1 t.2.2) → FnG l.prog w K mg base CX0 14 fa fd ["_law_script"] (spD m)) ∧ ∀ ns : List Int, ns.length ≤ 63 → ∃ h', m [.scr ns] (tabsO os) = some (.dat (.bool true), h') := by
  obtain ⟨T, rfl, rfl, rfl, rfl⟩ : ∃ T : Nat → Addr, T 13 = CE13 ∧ T 14 = CE14 ∧ T 15 = CE15 ∧ T 16 = CE16 := ⟨fun i => if i = 13 then CE13 else if i = 14 then CE14 else if i = 15 then CE15 else if i = 16 then CE16 else ([] : List Addr).getD i 0, rfl, rfl, rfl, rfl⟩
  have ER : Errs K mg T := ⟨PySem.W.mg_none_of X G xnLookupError, ⟨PySem.W.mg_of X G xa13, xb13, xh13, xt13⟩, ⟨PySem.W.mg_of X G xa14, xb14, xh14, xt14⟩, ⟨PySem.W.mg_of X G xa15, xb15, xh15, xt15⟩, ⟨PySem.W.mg_of X G xa16, xb16, xh16, xt16⟩, ⟨xg13, xG13, xb13, xh13, xc13, xhn, xtk, xm13⟩, xf13, xs13_13, xs13_14, xs13_15, xs13_16, ⟨PySem.W.mg_of X G xa13, _, _, _, _, _, _, ["self", "name"], base_LE.F, ⟨xx13, xo13, xh13, xS13, xb13, xt13, xk13⟩, xi13, xj13, (fun_mk (st := s_NoName___init__) xl13 xq13 xK13).binds (fun _ _ _ _ _ _ us hl => match us, hl with | [_, _], _ => rfl), fun _ _ _ => ui_ok (fun_mk (st := s_NoName___init__) xl13 xq13 xK13) sc_NoName___init__ fun cdv A outer s H E => ui_body base_LE ⟨xx13, xo13, xh13, xS13, xb13, xt13, xk13⟩ (PySem.W.mg_none_of X G xnLookupError) xF13 xf13 (pv 0) (pv 1) (pv 0) (pv 1)⟩, xv13_LookupError⟩
  have e := hfa.symm.trans (PySem.W.mg_of X G a18)
  cases e
  have B : Bi mg := ⟨PySem.W.mg_none_of X G z_len, PySem.W.mg_none_of X G z_abs, PySem.W.mg_none_of X G z_int, PySem.W.mg_none_of X G z_max, PySem.W.mg_none_of X G z_min, PySem.W.mg_none_of X G z_all, PySem.W.mg_none_of X G z_any, PySem.W.mg_none_of X G z_sum, PySem.W.mg_none_of X G z_tuple, PySem.W.mg_none_of X G z_list, PySem.W.mg_none_of X G z_dict, PySem.W.mg_none_of X G z_sorted, PySem.W.mg_none_of X G z_isinstance, PySem.W.mg_none_of X G z_str, PySem.W.mg_none_of X G z_bool, PySem.W.mg_none_of X G z_range, PySem.W.mg_none_of X G z_enumerate, PySem.W.mg_none_of X G z_zip, PySem.W.mg_none_of X G z_reversed, PySem.W.mg_none_of X G z_repr, PySem.W.mg_none_of X G z_set⟩
  have F0 := fun_mk (st := s_told_in) l0 c0 k0
  have F1 := fun_mk (st := s_is_lot) l1 c1 k1
  have F2 := fun_mk (st := s_least_lot) l2 c2 k2
  have F3 := fun_mk (st := s_part_of) l3 c3 k3
  have F4 := fun_mk (st := s_row_of) l4 c4 k4
  have F5 := fun_mk (st := s__law_box) l5 c5 k5
  have F6 := fun_mk (st := s__law_take) l6 c6 k6
  have F7 := fun_mk (st := s__law_pick) l7 c7 k7
  have F8 := fun_mk (st := s__law_same) l8 c8 k8
  have F9 := fun_mk (st := s__law_folded) l9 c9 k9
  have F10 := fun_mk (st := s__law_names) l10 c10 k10
  have F11 := fun_mk (st := s__law_row) l11 c11 k11
  have F12 := fun_mk (st := s__law_call) l12 c12 k12
  have F13 := fun_mk (st := s__law_closed) l13 c13 k13
  have F14 := fun_mk (st := s__law_grown) l14 c14 k14
  have F15 := fun_mk (st := s__law_refused) l15 c15 k15
  have F16 := fun_mk (st := s__law_due) l16 c16 k16
  have F17 := fun_mk (st := s__law_right) l17 c17 k17
  have F18 := fun_mk (st := s_law) l18 c18 k18
  refine ⟨PySem.W.fnOf "law" "law" (defArgs s_law) (defBody s_law) (defScope s_law) .none kV18 dc18 pm18 an18 cd18 ct18, [], m_law T, fun s v => .of_eq rfl, ?_, ?_, fun base _ _ TB => ?_, law_true T⟩
  · intro t ht
    cases ht
  · exact List.nodup_nil
  have g__law_folded := ok__law_folded (P := l.prog) (w := w) (base := base) _ _ F9 (PySem.W.mg_of X G a9) B 
  have g__law_box := ok__law_box (P := l.prog) (w := w) (base := base) _ _ F5 (PySem.W.mg_of X G a5) B 
  have g__law_take := ok__law_take (P := l.prog) (w := w) (base := base) _ _ F6 (PySem.W.mg_of X G a6) B 
  have g__law_pick := ok__law_pick (P := l.prog) (w := w) (base := base) _ _ F7 (PySem.W.mg_of X G a7) B g__law_take
  have g__law_names := ok__law_names (P := l.prog) (w := w) (base := base) _ _ F10 (PySem.W.mg_of X G a10) B g__law_take g__law_pick
  have g__law_call := ok__law_call (P := l.prog) (w := w) (base := base) _ _ F12 (PySem.W.mg_of X G a12) B g__law_pick g__law_take
  have g__law_row := ok__law_row (P := l.prog) (w := w) (base := base) _ _ F11 (PySem.W.mg_of X G a11) B g__law_take
  have g__law_grown := ok__law_grown (P := l.prog) (w := w) (base := base) _ _ F14 (PySem.W.mg_of X G a14) B 
  have g__law_same := ok__law_same (P := l.prog) (w := w) (base := base) _ _ F8 (PySem.W.mg_of X G a8) B  12
  have g_told_in := ok_told_in (P := l.prog) (w := w) (base := base) _ _ F0 (PySem.W.mg_of X G a0) B 
  have g_least_lot := ok_least_lot (P := l.prog) (w := w) (base := base) _ _ F2 (PySem.W.mg_of X G a2) B g_told_in
  have g_row_of := ok_row_of (P := l.prog) (w := w) (base := base) _ _ F4 (PySem.W.mg_of X G a4) B 
  have g_part_of := ok_part_of (P := l.prog) (w := w) (base := base) _ _ F3 (PySem.W.mg_of X G a3) B 
  have g__law_closed := ok__law_closed (P := l.prog) (w := w) (base := base) _ _ F13 (PySem.W.mg_of X G a13) B 
  have g__law_due := ok__law_due (P := l.prog) (w := w) (base := base) _ _ F16 (PySem.W.mg_of X G a16) B g__law_closed
  have g_is_lot := ok_is_lot (P := l.prog) (w := w) (base := base) _ _ F1 (PySem.W.mg_of X G a1) B g_told_in
  have gr_least_lot := rok_least_lot (P := l.prog) (w := w) (base := base) T _ _ F2 (PySem.W.mg_of X G a2) B g_told_in ER
  have g__law_refused := ok__law_refused (P := l.prog) (w := w) (base := base) _ _ F15 (PySem.W.mg_of X G a15) B T g_least_lot gr_least_lot ER
  have g__law_right := ok__law_right (P := l.prog) (w := w) (base := base) _ _ F17 (PySem.W.mg_of X G a17) B T g__law_names g__law_same g__law_call g__law_row g__law_grown g_row_of g__law_due g_is_lot g__law_refused g__law_take g_least_lot g_part_of
  exact ok_law (P := l.prog) (w := w) (base := base) _ _ F18 (PySem.W.mg_of X G a18) B T g__law_folded g__law_box g__law_right
end LW
open PySem PySem.W PyProof.Rows
set_option maxRecDepth 100000 in
set_option maxHeartbeats 0 in
theorem PySem.Challenge.cw_standby_k65_lots_by_themselves_holds : PySem.Challenge.rw_standby_k65_lots_by_themselves.Holds := by
  w_on; o_law; k_head; (case hw => w_witness2)
  k_fill
  refine DL.walk_gO (l := PySem.Challenge.rw_standby_k65_lots_by_themselves) (k := 14) (x := "_law_script") (xs := []) rfl rfl ⟨rfl, by decide, by decide⟩ (fun w h Y => PySem.W.kIn_of Y) ?nl ?rc ?F
  case nl => intro w; first | rfl | kernel_rfl | decide +kernel
  case rc => intro x hx; cases hx
  case F =>
    intro w mg fa h KX G hmg
    refine' LW.all_mk KX G hmg ?a0 ?l0 ?c0 ?k0 ?a1 ?l1 ?c1 ?k1 ?a2 ?l2 ?c2 ?k2 ?a3 ?l3 ?c3 ?k3 ?a4 ?l4 ?c4 ?k4 ?a5 ?l5 ?c5 ?k5 ?a6 ?l6 ?c6 ?k6 ?a7 ?l7 ?c7 ?k7 ?a8 ?l8 ?c8 ?k8 ?a9 ?l9 ?c9 ?k9 ?a10 ?l10 ?c10 ?k10 ?a11 ?l11 ?c11 ?k11 ?a12 ?l12 ?c12 ?k12 ?a13 ?l13 ?c13 ?k13 ?a14 ?l14 ?c14 ?k14 ?a15 ?l15 ?c15 ?k15 ?a16 ?l16 ?c16 ?k16 ?a17 ?l17 ?c17 ?k17 ?a18 ?l18 ?c18 ?k18 ?xa13 ?xk13 ?xb13 ?xt13 ?xh13 ?xx13 ?xo13 ?xS13 ?xi13 ?xj13 ?xl13 ?xq13 ?xK13 ?xF13 ?xg13 ?xG13 ?xc13 ?xm13 ?xa14 ?xk14 ?xb14 ?xt14 ?xh14 ?xa15 ?xk15 ?xb15 ?xt15 ?xh15 ?xa16 ?xk16 ?xb16 ?xt16 ?xh16 ?xnLookupError ?xf13 ?xs13_13 ?xs13_14 ?xs13_15 ?xs13_16 ?xv13_LookupError ?xhn ?xtk ?z_len ?z_abs ?z_int ?z_max ?z_min ?z_all ?z_any ?z_sum ?z_tuple ?z_list ?z_dict ?z_sorted ?z_isinstance ?z_str ?z_bool ?z_range ?z_enumerate ?z_zip ?z_reversed ?z_repr ?z_set
    (case xa13 => first | k_is | rfl | kernel_rfl | decide +kernel)
    (case xk13 => first | k_is | rfl | kernel_rfl | decide +kernel)
    (case xb13 => first | k_is | rfl | kernel_rfl | decide +kernel)
    (case xt13 => first | k_is | rfl | kernel_rfl | decide +kernel)
    (case xh13 => first | k_is | rfl | kernel_rfl | decide +kernel)
    (case xx13 => first | k_exc | kx_is)
    (case xo13 => first | k_is | kx_is)
    (case xS13 => first | k_is | rfl | kernel_rfl | decide +kernel)
    (case xi13 => first | k_is | rfl | kernel_rfl | decide +kernel)
    (case xj13 => first | k_is | rfl | kernel_rfl | decide +kernel)
    (case xl13 => first | k_is | rfl | kernel_rfl | decide +kernel)
    (case xq13 => first | k_is | rfl | kernel_rfl | decide +kernel)
    (case xK13 => first | k_is | rfl | kernel_rfl | decide +kernel)
    (case xF13 => first | k_is | rfl | kernel_rfl | decide +kernel)
    (case xg13 => first | k_is | rfl | kernel_rfl | decide +kernel)
    (case xG13 => first | k_is | rfl | kernel_rfl | decide +kernel)
    (case xc13 => first | k_is | rfl | kernel_rfl | decide +kernel)
    (case xm13 => first | k_is | rfl | kernel_rfl | decide +kernel)
    (case xa14 => first | k_is | rfl | kernel_rfl | decide +kernel)
    (case xk14 => first | k_is | rfl | kernel_rfl | decide +kernel)
    (case xb14 => first | k_is | rfl | kernel_rfl | decide +kernel)
    (case xt14 => first | k_is | rfl | kernel_rfl | decide +kernel)
    (case xh14 => first | k_is | rfl | kernel_rfl | decide +kernel)
    (case xa15 => first | k_is | rfl | kernel_rfl | decide +kernel)
    (case xk15 => first | k_is | rfl | kernel_rfl | decide +kernel)
    (case xb15 => first | k_is | rfl | kernel_rfl | decide +kernel)
    (case xt15 => first | k_is | rfl | kernel_rfl | decide +kernel)
    (case xh15 => first | k_is | rfl | kernel_rfl | decide +kernel)
    (case xa16 => first | k_is | rfl | kernel_rfl | decide +kernel)
    (case xk16 => first | k_is | rfl | kernel_rfl | decide +kernel)
    (case xb16 => first | k_is | rfl | kernel_rfl | decide +kernel)
    (case xt16 => first | k_is | rfl | kernel_rfl | decide +kernel)
    (case xh16 => first | k_is | rfl | kernel_rfl | decide +kernel)
    (case xnLookupError => first | k_is | rfl | kernel_rfl | decide +kernel)
    (case xf13 => first | k_is | rfl | kernel_rfl | decide +kernel)
    (case xs13_13 => first | k_is | rfl | kernel_rfl | decide +kernel)
    (case xs13_14 => first | k_is | rfl | kernel_rfl | decide +kernel)
    (case xs13_15 => first | k_is | rfl | kernel_rfl | decide +kernel)
    (case xs13_16 => first | k_is | rfl | kernel_rfl | decide +kernel)
    (case xv13_LookupError => first | k_is | rfl | kernel_rfl | decide +kernel)
    (case xhn => first | k_is | rfl | kernel_rfl | decide +kernel)
    (case xtk => first | k_is | rfl | kernel_rfl | decide +kernel)
    (case a0 => k_is); (case l0 => k_is); (case c0 => k_is); (case k0 => k_is)
    (case a1 => k_is); (case l1 => k_is); (case c1 => k_is); (case k1 => k_is)
    (case a2 => k_is); (case l2 => k_is); (case c2 => k_is); (case k2 => k_is)
    (case a3 => k_is); (case l3 => k_is); (case c3 => k_is); (case k3 => k_is)
    (case a4 => k_is); (case l4 => k_is); (case c4 => k_is); (case k4 => k_is)
    (case a5 => k_is); (case l5 => k_is); (case c5 => k_is); (case k5 => k_is)
    (case a6 => k_is); (case l6 => k_is); (case c6 => k_is); (case k6 => k_is)
    (case a7 => k_is); (case l7 => k_is); (case c7 => k_is); (case k7 => k_is)
    (case a8 => k_is); (case l8 => k_is); (case c8 => k_is); (case k8 => k_is)
    (case a9 => k_is); (case l9 => k_is); (case c9 => k_is); (case k9 => k_is)
    (case a10 => k_is); (case l10 => k_is); (case c10 => k_is); (case k10 => k_is)
    (case a11 => k_is); (case l11 => k_is); (case c11 => k_is); (case k11 => k_is)
    (case a12 => k_is); (case l12 => k_is); (case c12 => k_is); (case k12 => k_is)
    (case a13 => k_is); (case l13 => k_is); (case c13 => k_is); (case k13 => k_is)
    (case a14 => k_is); (case l14 => k_is); (case c14 => k_is); (case k14 => k_is)
    (case a15 => k_is); (case l15 => k_is); (case c15 => k_is); (case k15 => k_is)
    (case a16 => k_is); (case l16 => k_is); (case c16 => k_is); (case k16 => k_is)
    (case a17 => k_is); (case l17 => k_is); (case c17 => k_is); (case k17 => k_is)
    (case a18 => k_is); (case l18 => k_is); (case c18 => k_is); (case k18 => k_is)
    (case z_len => k_is); (case z_abs => k_is); (case z_int => k_is); (case z_max => k_is); (case z_min => k_is); (case z_all => k_is); (case z_any => k_is); (case z_sum => k_is); (case z_tuple => k_is); (case z_list => k_is); (case z_dict => k_is); (case z_sorted => k_is); (case z_isinstance => k_is); (case z_str => k_is); (case z_bool => k_is); (case z_range => k_is); (case z_enumerate => k_is); (case z_zip => k_is); (case z_reversed => k_is); (case z_repr => k_is); (case z_set => k_is)
