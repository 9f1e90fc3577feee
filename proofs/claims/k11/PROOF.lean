import PyProof.Rows.All
import Wide.All
import OpenK.AllK
import Wide.FinOn
import HandS.Lambda
import HandS.ForMost
import HandS.TupAny
import HandS.TupLe
import HandS.More
import HandS.IsInst
import HandS.Strs
import KE.SortData
import HandS.Style
import HandS.Deep
import HandS.Zip
import HandS.Rev
import HandS.NoneIn
import HandS.DictComp
import HandS.Defaults
import PyProof.ReprRoads
import KE.KRevSl
import HandS.Text
import HandS.Ends
import KE.GoesEnum
import KE.KDictZip
import KE.SortKeyHeap
import KE.KSortKey
import HandS.EndTab
import HandS.Small
import HandS.SetTxt0
import HandS.Set
import HandS.TupSets
import KE.KDictSum
import PyProof.AutoIntOps
import HandS.List
import HandS.Iter
import KE.KDictList
import KE.DataMinMax
import PyProof.Rows.CountFlat
import HandS.RaiseMore
import HandS.Call
import KE.KEqNest
import HandS.DictEq
import HandS.OwnEq
import HandS.Exc
import HandS.ExcOwn
import HandS.ExcIs
import KE.KExcIs
import HandS.Zip0
import KE.DataCmp
import HandS.Wide
import HandS.StrMore
import OpenK.KOps
import PySem.Challenge.RW_standby_k11_walks_that_show_who_is_ahead
set_option Elab.async false
set_option linter.all false
set_option maxRecDepth 100000
set_option maxRecDepth 100000
set_option maxHeartbeats 4000000
namespace DL
open PySem PySem.Spec PyProof.Rows L2
abbrev D := PyData
structure Mm where
  u : List Addr
  m : List (Option Addr)
def Mm.Has (M : Mm) (a : Addr) : Prop := a ∈ M.u ∨ some a ∈ M.m
def kP : Key → D
  | .inl i => .int i
  | .inr s => .str s
def prTx : List D → Option (List (Str × Str))
  | [] => some []
  | .tuple [.str a, .str b] :: ds => (prTx ds).map ((a, b) :: ·)
  | _ :: _ => none
def rowS : List D → Option (List Str)
  | [] => some []
  | .str a :: ds => (rowS ds).map (a :: ·)
  | _ :: _ => none
def pairD (ds : List D) : Bool := match prTx ds with
  | some ps => !ps.isEmpty && decide (ps.map (·.1)).Nodup
  | none => false
def callD (ds : List D) : Bool := pairD ds
def TupAt (H : Hp) (a : Addr) (xs : List V) (ds : List D) : Prop := (callD ds = false ∧ H a = some (.tup xs)) ∨ (True ∧ ∃ o : Obj, o.dict = none ∧ H a = some (.frz o (.tup xs)))
theorem TupAt.to {H H' : Hp} {a : Addr} {xs : List V} {ds : List D} (t : TupAt H a xs ds) (f : ∀ o, H a = some o → H' a = some o) : TupAt H' a xs ds := by
  rcases t with ⟨c, e⟩ | ⟨c, o, h, e⟩
  · exact .inl ⟨c, f _ e⟩
  · exact .inr ⟨c, o, h, f _ e⟩
theorem TupAt.some_ {H : Hp} {a : Addr} {xs : List V} {ds : List D} (t : TupAt H a xs ds) : ∃ o, H a = some o := by
  rcases t with ⟨c, e⟩ | ⟨c, o, h, e⟩
  · exact ⟨_, e⟩
  · exact ⟨_, e⟩
theorem TupAt.rd {H : Hp} {a : Addr} {xs : List V} {ds : List D} (t : TupAt H a xs ds) : Rd H a (.tup xs) := by
  rcases t with ⟨c, e⟩ | ⟨c, o, h, e⟩
  · exact .inl e
  · exact .inr ⟨o, e⟩
theorem TupAt.sq {K : PySem.W.Frag} {H : Hp} {a : Addr} {xs : List V} {ds : List D} (t : TupAt H a xs ds) : SqT K H a xs := .inl t.rd
mutual
inductive RD (M : Mm) (H : Hp) : V → D → Prop
  | non : RD M H .non .none
  | bl (b : Bool) : RD M H (.bl b) (.bool b)
  | int (i : Int) : RD M H (.int i) (.int i)
  | str (x : Str) : RD M H (.str x) (.str x)
  | tup {a : Addr} {xs : List V} {ds : List D} : ¬ M.Has a → TupAt H a xs ds → RDs M H xs ds → RD M H (.ref a) (.tuple ds)
  | lst {a : Addr} {xs : List V} {ds : List D} : ¬ M.Has a → H a = some (.lst xs) → RDs M H xs ds → RD M H (.ref a) (.list ds)
  | dic {a : Addr} {kvs : List (Key × V)} {es : List (D × D)} : ¬ M.Has a → H a = some (.dK kvs) → RDk M H kvs es → RD M H (.ref a) (.dict es)
  | dit {a : Addr} {o : Obj} {kvs : List (List Key × V)} {es : List (D × D)} : ¬ M.Has a → H a = some (.frz o (.dT kvs)) → RDt M H kvs es → RD M H (.ref a) (.dict ((.none, .none) :: es))
inductive RDs (M : Mm) (H : Hp) : List V → List D → Prop
  | nil : RDs M H [] []
  | cons {v : V} {vs : List V} {d : D} {ds : List D} : RD M H v d → RDs M H vs ds → RDs M H (v :: vs) (d :: ds)
inductive RDk (M : Mm) (H : Hp) : List (Key × V) → List (D × D) → Prop
  | nil : RDk M H [] []
  | cons {k : Key} {v : V} {d : D} {kvs : List (Key × V)} {es : List (D × D)} : RD M H v d → RDk M H kvs es → RDk M H ((k, v) :: kvs) ((kP k, d) :: es)
inductive RDt (M : Mm) (H : Hp) : List (List Key × V) → List (D × D) → Prop
  | nil : RDt M H [] []
  | cons {k : List Key} {v : V} {d : D} {kvs : List (List Key × V)} {es : List (D × D)} : RD M H v d → RDt M H kvs es → RDt M H ((k, v) :: kvs) ((.tuple (k.map kP), d) :: es)
end

structure Ext (M M' : Mm) (H H' : Hp) : Prop where
  us : ∀ a ∈ M'.u, a ∈ M.u ∨ H a = none
  trk : ∀ a o, H a = some o → ∃ o', H' a = some o'
  stab : ∀ a o, H a = some o → some a ∉ M.m → H' a = some o
  fresh : ∀ a, some a ∈ M'.m → some a ∈ M.m ∨ H a = none
  len : M.m.length ≤ M'.m.length
  kill : ∀ i : Nat, i < M.m.length → M'.m[i]? = M.m[i]? ∨ M'.m[i]? = some none
structure ExtE (M M' : Mm) (H H' : Hp) : Prop where
  same : M'.u = M.u
  trk : ∀ a o, H a = some o → ∃ o', H' a = some o'
  stab : ∀ a o, H a = some o → some a ∉ M.m → H' a = some o
  fresh : ∀ a, some a ∈ M'.m → some a ∈ M.m ∨ H a = none
  len : M.m.length ≤ M'.m.length
  pre : ∀ i : Nat, i < M.m.length → M'.m[i]? = M.m[i]?
theorem ExtE.ext {M M' : Mm} {H H' : Hp} (x : ExtE M M' H H') : Ext M M' H H' := ⟨fun a m => .inl (x.same ▸ m), x.trk, x.stab, x.fresh, x.len, fun i h => .inl (x.pre i h)⟩
theorem Ext.outm {M M' : Mm} {H H' : Hp} (x : Ext M M' H H') {a : Addr} {o : HO} (n : some a ∉ M.m) (e : H a = some o) : some a ∉ M'.m := fun m =>
  (x.fresh a m).elim n fun z => by rw [e] at z; cases z
theorem Ext.out {M M' : Mm} {H H' : Hp} (x : Ext M M' H H') {a : Addr} {o : HO} (n : ¬ M.Has a) (e : H a = some o) : ¬ M'.Has a := fun m => by
  rcases m with m | m
  · exact (x.us a m).elim (fun z => n (.inl z)) fun z => by rw [e] at z; cases z
  · exact x.outm (fun z => n (.inr z)) e m
theorem Ext.st {M M' : Mm} {H H' : Hp} (x : Ext M M' H H') {a : Addr} {o : HO} (n : ¬ M.Has a) (e : H a = some o) : H' a = some o := x.stab a o e fun z => n (.inr z)
theorem Ext.refl (M : Mm) (H : Hp) : Ext M M H H := ⟨fun _ m => .inl m, fun a o e => ⟨o, e⟩, fun _ _ e _ => e, fun _ m => .inl m, Nat.le_refl _, fun _ _ => .inl rfl⟩
theorem ExtE.refl (M : Mm) (H : Hp) : ExtE M M H H := ⟨rfl, fun a o e => ⟨o, e⟩, fun _ _ e _ => e, fun _ m => .inl m, Nat.le_refl _, fun _ _ => rfl⟩
theorem Ext.trans {M M1 M2 : Mm} {H H1 H2 : Hp} (x : Ext M M1 H H1) (y : Ext M1 M2 H1 H2) : Ext M M2 H H2 where
  us := fun a m => by
    rcases y.us a m with z | z
    · exact x.us a z
    · right
      cases q : H a with
      | none => rfl
      | some o => obtain ⟨o', e⟩ := x.trk a o q; rw [z] at e; cases e
  trk := fun a o e => by obtain ⟨o', e'⟩ := x.trk a o e; exact y.trk a o' e'
  stab := fun a o e n => y.stab a o (x.stab a o e n) (x.outm n e)
  fresh := fun a m => by
    rcases y.fresh a m with m1 | z
    · exact x.fresh a m1
    · by_cases hm : some a ∈ M.m
      · exact .inl hm
      · right
        cases q : H a with
        | none => rfl
        | some o => rw [x.stab a o q hm] at z; cases z
  len := Nat.le_trans x.len y.len
  kill := fun i h => by
    rcases y.kill i (Nat.lt_of_lt_of_le h x.len) with e | e
    · rw [e]; exact x.kill i h
    · exact .inr e
theorem ExtE.trans {M M1 M2 : Mm} {H H1 H2 : Hp} (x : ExtE M M1 H H1) (y : ExtE M1 M2 H1 H2) : ExtE M M2 H H2 where
  same := y.same.trans x.same
  trk := (x.ext.trans y.ext).trk
  stab := (x.ext.trans y.ext).stab
  fresh := (x.ext.trans y.ext).fresh
  len := Nat.le_trans x.len y.len
  pre := fun i h => by rw [y.pre i (Nat.lt_of_lt_of_le h x.len), x.pre i h]
mutual
theorem RD.mono {M M' : Mm} {H H' : Hp} (x : Ext M M' H H') : ∀ {v : V} {d : D}, RD M H v d → RD M' H' v d
  | _, _, .non => .non
  | _, _, .bl b => .bl b
  | _, _, .int i => .int i
  | _, _, .str s => .str s
  | _, _, .tup n e r => .tup (let ⟨_, q⟩ := e.some_; x.out n q) (e.to fun _ q => x.st n q) (RDs.mono x r)
  | _, _, .lst n e r => .lst (x.out n e) (x.st n e) (RDs.mono x r)
  | _, _, .dic n e r => .dic (x.out n e) (x.st n e) (RDk.mono x r)
  | _, _, .dit n e r => .dit (x.out n e) (x.st n e) (RDt.mono x r)
theorem RDs.mono {M M' : Mm} {H H' : Hp} (x : Ext M M' H H') : ∀ {v : List V} {d : List D}, RDs M H v d → RDs M' H' v d
  | _, _, .nil => .nil
  | _, _, .cons a r => .cons (RD.mono x a) (RDs.mono x r)
theorem RDk.mono {M M' : Mm} {H H' : Hp} (x : Ext M M' H H') : ∀ {v : List (Key × V)} {d : List (D × D)}, RDk M H v d → RDk M' H' v d
  | _, _, .nil => .nil
  | _, _, .cons a r => .cons (RD.mono x a) (RDk.mono x r)
theorem RDt.mono {M M' : Mm} {H H' : Hp} (x : Ext M M' H H') : ∀ {v : List (List Key × V)} {d : List (D × D)}, RDt M H v d → RDt M' H' v d
  | _, _, .nil => .nil
  | _, _, .cons a r => .cons (RD.mono x a) (RDt.mono x r)
end

inductive MO where
  | lst (ds : List D) | dic (es : List (D × D)) | dit (es : List (D × D)) | tab (q : Str) (P : Addr) | ins (C : Addr) (fs : List (Str × D))
abbrev Hh := List (Option MO)
def RF (M : Mm) (H : Hp) (gs : List (Str × V)) (fs : List (Str × D)) : Prop := Paired (fun (p : Str × V) (q : Str × D) => p.1 = q.1 ∧ RD M H p.2 q.2) gs fs
theorem RF.to {M M' : Mm} {H H' : Hp} {gs : List (Str × V)} {fs : List (Str × D)} (r : RF M H gs fs) (h : ∀ v d, RD M H v d → RD M' H' v d) : RF M' H' gs fs := Paired.mapP r fun p q z => ⟨z.1, h _ _ z.2⟩
def RO (M : Mm) (H : Hp) (a : Addr) : MO → Prop
  | .lst ds => ∃ xs, H a = some (.lst xs) ∧ RDs M H xs ds
  | .dic es => ∃ kvs, H a = some (.dK kvs) ∧ RDk M H kvs es
  | .dit es => ∃ kvs, H a = some (.dT kvs) ∧ RDt M H kvs es
  | .ins C fs => ∃ dx gs, H a = some (.ins C dx gs) ∧ RF M H gs fs
  | .tab q P => a = P ∧ ∃ ps : Array Value, H a = some (.tbl ps) ∧ TriplesOk ps.toList ∧ ∀ pos cv, codeAmong pos ps.toList = some cv → ∃ c, cv = .ref c ∧ ¬ M.Has c ∧ H c = some (LamX.CodeO c q)
def tpO : HO → Bool
  | .tup _ => true
  | .frz _ (.tup _) => true
  | _ => false
structure Rep (M : Mm) (H : Hp) (h : Hh) : Prop where
  us : ∀ a ∈ M.u, some a ∉ M.m ∧ ∃ o, H a = some o ∧ tpO o = false
  len : M.m.length = h.length
  inj : ∀ (i j : Nat) (a : Addr), M.m[i]? = some (some a) → M.m[j]? = some (some a) → i = j
  at_ : ∀ (i : Nat) (a : Addr), M.m[i]? = some (some a) → ∃ o, h[i]? = some (some o) ∧ RO M H a o
  dead : ∀ i : Nat, M.m[i]? = some none → h[i]? = some none
theorem RO.move {M M' : Mm} {H H' : Hp} (x : Ext M M' H H') {a : Addr} {o : MO} (e : H' a = H a) (r : RO M H a o) : RO M' H' a o := by
  cases o with
  | lst ds => obtain ⟨xs, h, r⟩ := r; exact ⟨xs, e.trans h, r.mono x⟩
  | dic ds => obtain ⟨xs, h, r⟩ := r; exact ⟨xs, e.trans h, r.mono x⟩
  | dit ds => obtain ⟨xs, h, r⟩ := r; exact ⟨xs, e.trans h, r.mono x⟩
  | ins C fs => obtain ⟨dx, gs, h, r⟩ := r; exact ⟨dx, gs, e.trans h, r.to fun _ _ => RD.mono x⟩
  | tab q P =>
    obtain ⟨z, ps, h, t, r⟩ := r
    refine ⟨z, ps, e.trans h, t, fun pos cv hc => ?_⟩
    obtain ⟨c, e1, n, e2⟩ := r pos cv hc
    exact ⟨c, e1, x.out n e2, x.st n e2⟩
theorem RO.some_ {M : Mm} {H : Hp} {a : Addr} {o : MO} (r : RO M H a o) : ∃ u, H a = some u := by
  cases o with
  | lst ds => obtain ⟨xs, h, r⟩ := r; exact ⟨_, h⟩
  | dic ds => obtain ⟨xs, h, r⟩ := r; exact ⟨_, h⟩
  | dit ds => obtain ⟨xs, h, r⟩ := r; exact ⟨_, h⟩
  | ins C fs => obtain ⟨dx, gs, h, r⟩ := r; exact ⟨_, h⟩
  | tab q P => obtain ⟨_, ps, h, _⟩ := r; exact ⟨_, h⟩
theorem RO.kind {M : Mm} {H : Hp} {a : Addr} {o : MO} (r : RO M H a o) : ∃ u, H a = some u ∧ tpO u = false := by
  cases o with
  | lst ds => obtain ⟨xs, h, r⟩ := r; exact ⟨_, h, rfl⟩
  | dic ds => obtain ⟨xs, h, r⟩ := r; exact ⟨_, h, rfl⟩
  | dit ds => obtain ⟨xs, h, r⟩ := r; exact ⟨_, h, rfl⟩
  | ins C fs => obtain ⟨dx, gs, h, r⟩ := r; exact ⟨_, h, rfl⟩
  | tab q P => obtain ⟨_, ps, h, _⟩ := r; exact ⟨_, h, rfl⟩
theorem Rep.tracked {M : Mm} {H : Hp} {h : Hh} (r : Rep M H h) {a : Addr} (m : M.Has a) : ∃ u, H a = some u ∧ tpO u = false := by
  rcases m with m | m
  · exact (r.us a m).2
  · obtain ⟨i, hi, e⟩ := List.getElem_of_mem m
    obtain ⟨o, _, ro⟩ := r.at_ i a (by rw [List.getElem?_eq_getElem hi, e])
    exact ro.kind
theorem Rep.new {M : Mm} {H : Hp} {h : Hh} (r : Rep M H h) {p : Addr} (n : H p = none) : ¬ M.Has p := fun m => by
  obtain ⟨u, e, _⟩ := r.tracked m
  rw [n] at e; cases e
theorem trk_upd {H : Hp} {p : Addr} {o : HO} : ∀ a u, H a = some u → ∃ u', upd H p o a = some u' := fun a u e => by
  by_cases h : a = p
  · subst h; exact ⟨o, upd_same⟩
  · exact ⟨u, by rw [upd_ne h]; exact e⟩
theorem ext_new {M : Mm} {H : Hp} {p : Addr} {o : HO} (n : H p = none) : ExtE M M H (upd H p o) :=
  ⟨rfl, trk_upd, fun a u e _ => by rw [upd_ne (ne_of_none e n)]; exact e, fun _ m => .inl m, Nat.le_refl _, fun _ _ => rfl⟩
theorem Rep.upd_new {M : Mm} {H : Hp} {h : Hh} (r : Rep M H h) {p : Addr} {o : HO} (n : H p = none) : Rep M (upd H p o) h :=
  ⟨fun a m => by
    obtain ⟨h1, u, e, ht⟩ := r.us a m
    exact ⟨h1, u, by rw [upd_ne (ne_of_none e n)]; exact e, ht⟩, r.len, r.inj, fun i a e => by
    obtain ⟨u, hu, ro⟩ := r.at_ i a e
    obtain ⟨z, hz⟩ := ro.some_
    exact ⟨u, hu, ro.move (ext_new n).ext (upd_ne (ne_of_none hz n))⟩, r.dead⟩
def Mm.more (M : Mm) (p : Addr) : Mm := ⟨M.u, M.m ++ [some p]⟩
theorem ext_add {M : Mm} {H : Hp} {p : Addr} {o : HO} (n : H p = none) : ExtE M (M.more p) H (upd H p o) :=
  ⟨rfl, trk_upd, fun a u e _ => by rw [upd_ne (ne_of_none e n)]; exact e, fun a m => by
    rcases List.mem_append.mp m with m | m
    · exact .inl m
    · right
      have : a = p := by simpa using m
      rw [this]; exact n, by simp [Mm.more], fun i hi => List.getElem?_append_left hi⟩
theorem Rep.add {M : Mm} {H : Hp} {h : Hh} (r : Rep M H h) {p : Addr} {o : HO} {m : MO} (n : H p = none) (ro : RO (M.more p) (upd H p o) p m) : Rep (M.more p) (upd H p o) (h ++ [some m]) := by
  have nm := r.new n
  have cases_ : ∀ (i : Nat) (z : Option Addr), (M.m ++ [some p])[i]? = some z → (i < M.m.length ∧ M.m[i]? = some z) ∨ (i = M.m.length ∧ z = some p) := fun i z e => by
    by_cases hi : i < M.m.length
    · rw [List.getElem?_append_left hi] at e
      exact .inl ⟨hi, e⟩
    · rw [List.getElem?_append_right (by omega)] at e
      by_cases h0 : i - M.m.length = 0
      · rw [h0] at e
        exact .inr ⟨by omega, by simpa using e.symm⟩
      · rw [List.getElem?_eq_none (by simp; omega)] at e
        cases e
  refine ⟨fun a m => ?_, by simp [Mm.more, r.len], fun i j a e1 e2 => ?_, fun i a e => ?_, fun i e => ?_⟩
  · obtain ⟨h1, u, e, ht⟩ := r.us a m
    refine ⟨fun z => ?_, u, by rw [upd_ne (ne_of_none e n)]; exact e, ht⟩
    rcases List.mem_append.mp z with z | z
    · exact h1 z
    · have : a = p := by simpa using z
      rw [this, n] at e; cases e
  · rcases cases_ i _ e1 with ⟨h1, e1⟩ | ⟨h1, e1⟩ <;> rcases cases_ j _ e2 with ⟨h2, e2⟩ | ⟨h2, e2⟩
    · exact r.inj i j a e1 e2
    · cases e2; exact absurd (Or.inr (List.mem_of_getElem? e1)) nm
    · cases e1; exact absurd (Or.inr (List.mem_of_getElem? e2)) nm
    · omega
  · rcases cases_ i _ e with ⟨h1, e1⟩ | ⟨h1, e1⟩
    · obtain ⟨u, hu, q⟩ := r.at_ i a e1
      obtain ⟨z, hz⟩ := q.some_
      exact ⟨u, by rw [List.getElem?_append_left (by rw [← r.len]; exact h1)]; exact hu, q.move (ext_add n).ext (upd_ne (ne_of_none hz n))⟩
    · cases e1
      subst h1
      exact ⟨m, by rw [r.len]; simp, ro⟩
  · rcases cases_ i _ e with ⟨h1, e1⟩ | ⟨h1, e1⟩
    · rw [List.getElem?_append_left (by rw [← r.len]; exact h1)]
      exact r.dead i e1
    · cases e1
theorem ext_set {M : Mm} {H : Hp} {n : Nat} {a : Addr} {o : HO} (e : M.m[n]? = some (some a)) : ExtE M M H (upd H a o) :=
  ⟨rfl, trk_upd, fun b u q nb => by rw [upd_ne (fun z => nb (by rw [z]; exact List.mem_of_getElem? e))]; exact q, fun _ m => .inl m, Nat.le_refl _, fun _ _ => rfl⟩
theorem Rep.set {M : Mm} {H : Hp} {h : Hh} (r : Rep M H h) {n : Nat} {a : Addr} {o : HO} {m : MO} (e : M.m[n]? = some (some a)) (ro : RO M (upd H a o) a m) : Rep M (upd H a o) (h.set n (some m)) := by
  have hn : n < h.length := by
    obtain ⟨u, hu, _⟩ := r.at_ n a e
    exact (List.getElem?_eq_some_iff.mp hu).1
  refine ⟨fun b mb => ?_, by simpa using r.len, r.inj, fun i b q => ?_, fun i q => ?_⟩
  · obtain ⟨h1, u, q, ht⟩ := r.us b mb
    exact ⟨h1, u, by rw [upd_ne (fun z => h1 (by rw [z]; exact List.mem_of_getElem? e))]; exact q, ht⟩
  · by_cases hi : i = n
    · subst hi
      rw [e] at q; cases q
      exact ⟨m, by rw [List.getElem?_set_self hn], ro⟩
    · obtain ⟨u, hu, q2⟩ := r.at_ i b q
      have hb : b ≠ a := fun z => hi (r.inj i n a (by rw [← z]; exact q) e)
      exact ⟨u, by rw [List.getElem?_set_ne (Ne.symm hi)]; exact hu, q2.move (ext_set e).ext (upd_ne hb)⟩
  · have hi : n ≠ i := fun z => by subst z; rw [e] at q; cases q
    rw [List.getElem?_set_ne hi]
    exact r.dead i q
def XO (C : Addr) (d : Option Addr) (a : Addr) : HO := .ext fun h => ∃ (oe : Obj) (vs : Array Value), h.get? a = some oe ∧ oe.cls = .ref C ∧ oe.dict = d ∧ oe.data = .fields vs
def xk : HO → Bool
  | .ext _ => true
  | .xd _ => true
  | _ => false
def XD (M : Mm) (H : Hp) : Option Addr → List (Str × V) → Prop
  | none, gs => gs = []
  | some d, gs => ¬ M.Has d ∧ H d = some (.xd gs)
theorem XD.to {M M' : Mm} {H H' : Hp} (hn : ∀ b o, H b = some o → ¬ M.Has b → ¬ M'.Has b) (he : ∀ b o, H b = some o → xk o = true → ¬ M.Has b → H' b = some o) : ∀ {d : Option Addr} {gs : List (Str × V)}, XD M H d gs → XD M' H' d gs
  | none, _, e => e
  | some _, _, e => ⟨hn _ _ e.2 e.1, he _ _ e.2 rfl e.1⟩
def RX (M : Mm) (H : Hp) (a C : Addr) (d : Option Addr) (gs : List (Str × V)) (fs : List (Str × D)) : Prop := ¬ M.Has a ∧ H a = some (XO C d a) ∧ XD M H d gs ∧ RF M H gs fs
theorem RX.to {M M' : Mm} {H H' : Hp} {a C : Addr} {d : Option Addr} {gs : List (Str × V)} {fs : List (Str × D)} (r : RX M H a C d gs fs) (hn : ∀ b o, H b = some o → ¬ M.Has b → ¬ M'.Has b) (he : ∀ b o, H b = some o → xk o = true → ¬ M.Has b → H' b = some o) (hd : ∀ v d, RD M H v d → RD M' H' v d) : RX M' H' a C d gs fs :=
  ⟨hn _ _ r.2.1 r.1, he _ _ r.2.1 rfl r.1, r.2.2.1.to hn he, r.2.2.2.to hd⟩
inductive W where
  | dat (d : D) | ref (n : Nat) | scr (ns : List Int) | pack (its : List (Sum Nat D)) | lock (es : List (D × D)) | ins (C : Addr) (fs : List (Str × D)) | exc (k : Nat) (C : Addr) (fs : List (Str × D)) | row (ds : List D)
inductive RPs (M : Mm) (H : Hp) : List V → List (Sum Nat D) → Prop
  | nil : RPs M H [] []
  | ref {n : Nat} {a : Addr} {vs : List V} {ds : List (Sum Nat D)} : M.m[n]? = some (some a) → RPs M H vs ds → RPs M H (.ref a :: vs) (.inl n :: ds)
  | dat {v : V} {d : D} {vs : List V} {ds : List (Sum Nat D)} : RD M H v d → RPs M H vs ds → RPs M H (v :: vs) (.inr d :: ds)
theorem RPs.move {M M' : Mm} {H H' : Hp} (hm : ∀ (n : Nat) (a : Addr), M.m[n]? = some (some a) → M'.m[n]? = some (some a)) (hd : ∀ v d, RD M H v d → RD M' H' v d) : ∀ {vs : List V} {ds : List (Sum Nat D)}, RPs M H vs ds → RPs M' H' vs ds
  | _, _, .nil => .nil
  | _, _, .ref e r => .ref (hm _ _ e) (r.move hm hd)
  | _, _, .dat e r => .dat (hd _ _ e) (r.move hm hd)
abbrev Env := List (Option W)
def RV (M : Mm) (H : Hp) (v : V) : W → Prop
  | .dat d => RD M H v d
  | .ref n => ∃ a, M.m[n]? = some (some a) ∧ v = .ref a
  | .scr ns => ∃ a o, v = .ref a ∧ ¬ M.Has a ∧ H a = some (.frz o (.lst (ns.map V.int)))
  | .pack its => ∃ a xs, v = .ref a ∧ ¬ M.Has a ∧ H a = some (.lst xs) ∧ RPs M H xs its
  | .lock es => ∃ a o kvs, v = .ref a ∧ ¬ M.Has a ∧ H a = some (.frz o (.dK kvs)) ∧ RDk M H kvs es
  | .ins C fs => ∃ a dx gs, v = .ref a ∧ ¬ M.Has a ∧ H a = some (.ins C dx gs) ∧ RF M H gs fs
  | .exc _ C fs => ∃ a d gs, v = .ref a ∧ RX M H a C d gs fs
  | .row ds => ∃ a o xs, v = .ref a ∧ ¬ M.Has a ∧ o.dict = none ∧ H a = some (.frz o (.tup xs)) ∧ RDs M H xs ds
theorem lt_of_get {α : Type} {l : List α} {i : Nat} {x : α} (e : l[i]? = some x) : i < l.length := (List.getElem?_eq_some_iff.mp e).1
theorem RV.mono {M M' : Mm} {H H' : Hp} (x : ExtE M M' H H') {v : V} : ∀ {w : W}, RV M H v w → RV M' H' v w
  | .dat _, r => RD.mono x.ext r
  | .ref n, ⟨a, e, r⟩ => ⟨a, by rw [x.pre n (lt_of_get e)]; exact e, r⟩
  | .scr ns, ⟨a, o, e, n, q⟩ => ⟨a, o, e, x.ext.out n q, x.ext.st n q⟩
  | .pack its, ⟨a, xs, e, n, q, r⟩ => ⟨a, xs, e, x.ext.out n q, x.ext.st n q, r.move (fun i b z => by rw [x.pre i (lt_of_get z)]; exact z) fun _ _ => RD.mono x.ext⟩
  | .lock es, ⟨a, o, kvs, e, n, q, r⟩ => ⟨a, o, kvs, e, x.ext.out n q, x.ext.st n q, r.mono x.ext⟩
  | .ins C fs, ⟨a, dx, gs, e, n, q, r⟩ => ⟨a, dx, gs, e, x.ext.out n q, x.ext.st n q, r.to fun _ _ => RD.mono x.ext⟩
  | .exc _ C fs, ⟨a, d, gs, e, r⟩ => ⟨a, d, gs, e, r.to (fun _ _ q n => x.ext.out n q) (fun _ _ q _ n => x.ext.st n q) fun _ _ => RD.mono x.ext⟩
  | .row _, ⟨a, o, xs, e, n, d, q, r⟩ => ⟨a, o, xs, e, x.ext.out n q, d, x.ext.st n q, RDs.mono x.ext r⟩
inductive RVs (M : Mm) (H : Hp) : List V → List W → Prop
  | nil : RVs M H [] []
  | cons {v : V} {vs : List V} {d : W} {ds : List W} : RV M H v d → RVs M H vs ds → RVs M H (v :: vs) (d :: ds)
theorem RVs.mono {M M' : Mm} {H H' : Hp} (x : ExtE M M' H H') : ∀ {vs : List V} {ws : List W}, RVs M H vs ws → RVs M' H' vs ws
  | _, _, .nil => .nil
  | _, _, .cons a r => .cons (a.mono x) (r.mono x)
theorem RVs.length {M : Mm} {H : Hp} : ∀ {vs : List V} {ws : List W}, RVs M H vs ws → vs.length = ws.length
  | _, _, .nil => rfl
  | _, _, .cons _ r => by rw [List.length_cons, List.length_cons, r.length]
theorem RDs.length {M : Mm} {H : Hp} : ∀ {vs : List V} {ws : List D}, RDs M H vs ws → vs.length = ws.length
  | _, _, .nil => rfl
  | _, _, .cons _ r => by rw [List.length_cons, List.length_cons, r.length]
def RS (M : Mm) (H : Hp) (ρ : Env) (σ : L2.St) : Prop := ρ.length = σ.length ∧ ∀ (i : Nat) (w : W), ρ[i]? = some (some w) → ∃ v, σ[i]? = some (some v) ∧ RV M H v w
theorem RS.mono {M M' : Mm} {H H' : Hp} (x : ExtE M M' H H') {ρ : Env} {σ : L2.St} (r : RS M H ρ σ) : RS M' H' ρ σ := ⟨r.1, fun i w e => by
  obtain ⟨v, e1, q⟩ := r.2 i w e
  exact ⟨v, e1, q.mono x⟩⟩
theorem RS.set {M : Mm} {H : Hp} {ρ : Env} {σ : L2.St} (r : RS M H ρ σ) {i : Nat} {v : V} {w : W} (q : RV M H v w) : RS M H (ρ.set i (some w)) (σ.set i (some v)) := by
  refine ⟨by simp [r.1], fun j u e => ?_⟩
  by_cases hj : i = j
  · subst hj
    by_cases hi : i < ρ.length
    · rw [List.getElem?_set_self hi] at e
      cases e
      exact ⟨v, by rw [List.getElem?_set_self (by rw [← r.1]; exact hi)], q⟩
    · rw [List.getElem?_eq_none (by simpa using hi)] at e; cases e
  · rw [List.getElem?_set_ne hj] at e ⊢
    exact r.2 j u e
def obnd {α β : Type} (r : Option (α × Hh)) (k : α → Hh → Option (β × Hh)) : Option (β × Hh) := match r with
  | some (a, h) => k a h
  | none => none
@[simp] theorem obnd_some {α β : Type} (a : α) (h : Hh) (k : α → Hh → Option (β × Hh)) : obnd (some (a, h)) k = k a h := rfl
@[simp] theorem obnd_none {α β : Type} (k : α → Hh → Option (β × Hh)) : obnd none k = none := rfl
def Cont {α β : Type} (rel : Mm → Hp → β → α → Prop) (r : Option (α × Hh)) (M : Mm) (H : Hp) (Q : β → Hp → Prop) : Prop :=
  ∃ w h', r = some (w, h') ∧ ∀ M' H' v, ExtE M M' H H' → Rep M' H' h' → rel M' H' v w → Q v H'
theorem Cont.bind {α β γ δ : Type} {rel : Mm → Hp → β → α → Prop} {r : Option (γ × Hh)} {k : γ → Hh → Option (α × Hh)} {M : Mm} {H : Hp} {Q : β → Hp → Prop} (c : Cont rel (obnd r k) M H Q) :
    ∃ a h1, r = some (a, h1) ∧ ∀ M1 H1, ExtE M M1 H H1 → Cont rel (k a h1) M1 H1 Q := by
  obtain ⟨w, h', e, q⟩ := c
  cases r with
  | none => cases e
  | some p =>
    obtain ⟨a, h1⟩ := p
    exact ⟨a, h1, rfl, fun M1 H1 x => ⟨w, h', e, fun M' H' v y => q M' H' v (x.trans y)⟩⟩
theorem Cont.fin {α β : Type} {rel : Mm → Hp → β → α → Prop} {w : α} {h : Hh} {M : Mm} {H : Hp} {Q : β → Hp → Prop} (c : Cont rel (some (w, h)) M H Q) {M' : Mm} {H' : Hp} {v : β} (x : ExtE M M' H H') (r : Rep M' H' h) (q : rel M' H' v w) : Q v H' := by
  obtain ⟨w', h', e, k⟩ := c
  cases e
  exact k M' H' v x r q
def tX {α β : Type} (rel : Mm → Hp → β → α → Prop) (f : Env → Hh → Option (α × Hh)) : L2.St → Hp → (β → Hp → Prop) → Prop := fun σ H Q => ∃ M h ρ, Rep M H h ∧ RS M H ρ σ ∧ Cont rel (f ρ h) M H Q
abbrev EM := Env → Hh → Option (W × Hh)
abbrev tE : EM → TE := tX RV
abbrev BM := Env → Hh → Option (Bool × Hh)
abbrev tT : BM → TT := tX fun _ _ (b : Bool) (c : Bool) => b = c
abbrev AM := Env → Hh → Option (List W × Hh)
abbrev tA : AM → TA := tX RVs
abbrev OM := Env → Hh → Option (Option Int × Hh)
abbrev tO : OM → TO := tX fun _ _ (b : Option Int) (c : Option Int) => b = c
abbrev DE (X : Cx) (e : Expr) (f : EM) : Prop := PE X e (tE f)
abbrev DT (X : Cx) (e : Expr) (f : BM) : Prop := PT X e (tT f)
abbrev DA (X : Cx) (es : List Expr) (f : AM) : Prop := PA X es (tA f)
abbrev DK (X : Cx) (es : List Keyword) (f : AM) : Prop := PK X es (tA f)
theorem _root_.L2.PE.weak {X : Cx} {e : Expr} {t t' : TE} (h : PE X e t) (i : ∀ σ H Q, t' σ H Q → t σ H Q) : PE X e t' := ⟨fun pins s σ H Q I q => h.run pins s σ H Q I (i σ H Q q)⟩
theorem _root_.L2.PT.weak {X : Cx} {e : Expr} {t t' : TT} (h : PT X e t) (i : ∀ σ H Q, t' σ H Q → t σ H Q) : PT X e t' := ⟨fun pins s σ H Q I q => h.run pins s σ H Q I (i σ H Q q)⟩
theorem _root_.L2.PA.weak {X : Cx} {e : List Expr} {t t' : TA} (h : PA X e t) (i : ∀ σ H Q, t' σ H Q → t σ H Q) : PA X e t' := ⟨fun pos pins s σ H Q I q => h.run pos pins s σ H Q I (i σ H Q q)⟩
theorem _root_.L2.PK.weak {X : Cx} {e : List Keyword} {t t' : TA} (h : PK X e t) (i : ∀ σ H Q, t' σ H Q → t σ H Q) : PK X e t' := ⟨fun pos pins s σ H Q I q => h.run pos pins s σ H Q I (i σ H Q q)⟩
theorem _root_.L2.PS.weak {X : Cx} {e : Stmt} {t t' : TS} (h : PS X e t) (i : ∀ D σ H, t' D σ H → t D σ H) : PS X e t' := ⟨fun pins s σ H Q I q => h.run pins s σ H Q I (i Q σ H q)⟩
theorem _root_.L2.PSs.weak {X : Cx} {e : List Stmt} {t t' : TS} (h : PSs X e t) (i : ∀ D σ H, t' D σ H → t D σ H) : PSs X e t' := ⟨fun pins s σ H Q I q => h.run pins s σ H Q I (i Q σ H q)⟩
theorem _root_.L2.PG.weak {X : Cx} {e : Expr} {t t' : TG} (h : PG X e t) (i : ∀ v σ H Q, t' v σ H Q → t v σ H Q) : PG X e t' := ⟨fun pins s σ H v u Q I r q => h.run pins s σ H v u Q I r (i v σ H Q q)⟩
theorem _root_.L2.PI.weak {X : Cx} {tg e : Expr} {t t' : TI} (h : PI X tg e t) (i : ∀ σ H Q, t' σ H Q → t σ H Q) : PI X tg e t' := ⟨fun pins s σ H R I q => h.run pins s σ H R I (i σ H R q)⟩
section
variable {X : Cx}
def fVar (i : Nat) : EM := fun ρ h => match ρ[i]? with
  | some (some w) => some (w, h)
  | _ => none
theorem dv (i : Nat) {x : Str} {pos : Pos} (h : PE X (.Name x pos) (tVar i)) : DE X (.Name x pos) (fVar i) := h.weak fun σ H Q => by
  rintro ⟨M, h, ρ, r, rs, c⟩
  unfold fVar at c
  split at c
  · rename_i w e
    obtain ⟨v, e1, rv⟩ := rs.2 i w e
    exact ⟨v, e1, c.fin (.refl _ _) r rv⟩
  · obtain ⟨_, _, e, _⟩ := c; cases e
def fC (d : D) : EM := fun _ h => some (.dat d, h)
theorem d_const {e : Expr} {v : V} {d : D} (h : PE X e (tC v)) (q : ∀ M H, RD M H v d) : DE X e (fC d) := h.weak fun σ H Q => by
  rintro ⟨M, h, ρ, r, rs, c⟩
  exact c.fin (.refl _ _) r (q M H)
theorem d_int {i j pos} : DE X (.Constant (.int i) j pos) (fC (.int i)) := d_const pe_int fun _ _ => .int i
theorem d_bl {i j pos} : DE X (.Constant (.bool i) j pos) (fC (.bool i)) := d_const pe_bl fun _ _ => .bl i
theorem d_non {j pos} : DE X (.Constant .none j pos) (fC .none) := d_const pe_non fun _ _ => .non
theorem d_str {i j pos} : DE X (.Constant (.str i) j pos) (fC (.str i)) := d_const pe_str fun _ _ => .str i
def fNil : AM := fun _ h => some ([], h)
def fCons (f : EM) (g : AM) : AM := fun ρ h => obnd (f ρ h) fun w h1 => obnd (g ρ h1) fun ws h2 => some (w :: ws, h2)
theorem da_nil : DA X [] fNil := pa_nil.weak fun σ H Q => by
  rintro ⟨M, h, ρ, r, rs, c⟩
  exact c.fin (.refl _ _) r .nil
theorem cons_imp {f : EM} {g : AM} : ∀ σ H Q, tA (fCons f g) σ H Q → tCons (tE f) (tA g) σ H Q := fun σ H Q => by
  rintro ⟨M, h, ρ, r, rs, c⟩
  obtain ⟨w, h1, e1, c1⟩ := Cont.bind (δ := Unit) c
  refine ⟨M, h, ρ, r, rs, w, h1, e1, fun M1 H1 v x1 r1 v1 => ⟨M1, h1, ρ, r1, rs.mono x1, ?_⟩⟩
  obtain ⟨ws, h2, e2, c2⟩ := Cont.bind (δ := Unit) (c1 M1 H1 x1)
  exact ⟨ws, h2, e2, fun M2 H2 vs x2 r2 v2 => (c2 M2 H2 x2).fin (.refl _ _) r2 (.cons (v1.mono x2) v2)⟩
theorem da_cons {e : Expr} {es : List Expr} {f : EM} {g : AM} (he : DE X e f) (hr : DA X es g) (hs : starEach (e :: es) X.env = (false, eval e X.env) :: starEach es X.env := by rfl) : DA X (e :: es) (fCons f g) :=
  (pa_cons he hr hs).weak cons_imp
theorem dk_nil : DK X [] fNil := pk_nil.weak fun σ H Q => by
  rintro ⟨M, h, ρ, r, rs, c⟩
  exact c.fin (.refl _ _) r .nil
theorem dk_cons {nm : Option Str} {kpos : Pos} {e : Expr} {es : List Keyword} {f : EM} {g : AM} (he : DE X e f) (hr : DK X es g) : DK X (⟨nm, e, kpos⟩ :: es) (fCons f g) :=
  (pk_cons he hr).weak cons_imp
def Sem2 (r : R2) (sem : W → W → Hh → Option (W × Hh)) : Prop := ∀ (M : Mm) (H : Hp) (h : Hh) (x y : V) (wx wy : W) (Q : VK), Rep M H h → RV M H x wx → RV M H y wy → Cont RV (sem wx wy h) M H Q → r x y H Q
def f2 (sem : W → W → Hh → Option (W × Hh)) (f g : EM) : EM := fun ρ h => obnd (f ρ h) fun a h1 => obnd (g ρ h1) fun b h2 => sem a b h2
theorem op_imp {r : R2} {sem : W → W → Hh → Option (W × Hh)} {f g : EM} (hs : Sem2 r sem) : ∀ σ H Q, tE (f2 sem f g) σ H Q → tOp r (tE f) (tE g) σ H Q := fun σ H Q => by
  rintro ⟨M, h, ρ, r, rs, c⟩
  obtain ⟨w, h1, e1, c1⟩ := Cont.bind (δ := Unit) c
  refine ⟨M, h, ρ, r, rs, w, h1, e1, fun M1 H1 v x1 r1 v1 => ⟨M1, h1, ρ, r1, rs.mono x1, ?_⟩⟩
  obtain ⟨w2, h2, e2, c2⟩ := Cont.bind (δ := Unit) (c1 M1 H1 x1)
  exact ⟨w2, h2, e2, fun M2 H2 v2 x2 r2 q2 => hs M2 H2 h2 _ _ w w2 Q r2 (v1.mono x2) q2 (c2 M2 H2 x2)⟩
theorem d_op {a b : Expr} {op : Operator} {pos : Pos} {r : R2} {sem : W → W → Hh → Option (W × Hh)} {f g : EM} (ho : OpR X (binaryOp op) r) (hs : Sem2 r sem) (ha : DE X a f) (hb : DE X b g) : DE X (.BinOp a op b pos) (f2 sem f g) :=
  (pe_op ho ha hb).weak (op_imp hs)
theorem d_cmp {a b : Expr} {op : CmpOp} {pos : Pos} {r : R2} {sem : W → W → Hh → Option (W × Hh)} {f g : EM} (ho : OpR X (compareOp op) r) (hs : Sem2 r sem) (ha : DE X a f) (hb : DE X b g) (hm : behindInMarks op b = false) : DE X (.Compare a [op] [b] pos) (f2 sem f g) :=
  (pe_cmpR ho ha hb hm).weak (op_imp hs)
end
end DL
set_option maxRecDepth 100000
set_option maxHeartbeats 4000000
namespace DL
open PySem PySem.Spec PyProof.Rows L2
def deref (h : Hh) : W → Option D
  | .dat d => some d
  | .ref n => match h[n]? with
    | some (some (.lst ds)) => some (.list ds)
    | some (some (.dic es)) => some (.dict es)
    | some (some (.dit es)) => some (.dict ((.none, .none) :: es))
    | _ => none
  | .scr _ => none
  | .pack _ => none
  | .lock _ => none
  | .ins _ _ => none
  | .exc _ _ _ => none
  | .row _ => none
@[simp] theorem deref_dat (h : Hh) (d : D) : deref h (.dat d) = some d := rfl
def RR (M : Mm) (H : Hp) (v : V) : D → Prop
  | .list ds => ∃ a xs, v = .ref a ∧ H a = some (.lst xs) ∧ RDs M H xs ds
  | .dict es => (∃ a kvs, v = .ref a ∧ H a = some (.dK kvs) ∧ RDk M H kvs es) ∨ ∃ a kvs es', es = (.none, .none) :: es' ∧ v = .ref a ∧ Rd H a (.dT kvs) ∧ RDt M H kvs es'
  | d => RD M H v d
theorem RD.rr {M : Mm} {H : Hp} {v : V} : ∀ {d : D}, RD M H v d → RR M H v d
  | .none, r => r
  | .bool _, r => r
  | .int _, r => r
  | .str _, r => r
  | .tuple _, r => r
  | .list _, .lst _ e r => ⟨_, _, rfl, e, r⟩
  | .dict _, .dic _ e r => .inl ⟨_, _, rfl, e, r⟩
  | .dict _, .dit _ e r => .inr ⟨_, _, _, rfl, rfl, .inr ⟨_, e⟩, r⟩
theorem deref_rr {M : Mm} {H : Hp} {h : Hh} {v : V} {w : W} {d : D} (rep : Rep M H h) (r : RV M H v w) (e : deref h w = some d) : RR M H v d := by
  cases w with
  | dat d' => cases e; exact r.rr
  | scr ns => cases e
  | pack its => cases e
  | lock its => cases e
  | ins C fs => cases e
  | exc k C fs => cases e
  | row ds => cases e
  | ref n =>
    obtain ⟨a, ea, rfl⟩ := r
    obtain ⟨o, ho, ro⟩ := rep.at_ n a ea
    simp only [deref, ho] at e
    cases o with
    | lst ds => cases e; obtain ⟨xs, h1, h2⟩ := ro; exact ⟨a, xs, rfl, h1, h2⟩
    | dic ds => cases e; obtain ⟨xs, h1, h2⟩ := ro; exact .inl ⟨a, xs, rfl, h1, h2⟩
    | dit ds => cases e; obtain ⟨xs, h1, h2⟩ := ro; exact .inr ⟨a, xs, _, rfl, rfl, .inl h1, h2⟩
    | tab q P => cases e
    | ins C fs => cases e
section
variable {M : Mm} {H : Hp} {h : Hh} {v : V}
theorem rr_int {i : Int} (r : RR M H v (.int i)) : v = .int i := by cases (show RD M H v _ from r); rfl
theorem rr_str {i : Str} (r : RR M H v (.str i)) : v = .str i := by cases (show RD M H v _ from r); rfl
theorem rr_bl {i : Bool} (r : RR M H v (.bool i)) : v = .bl i := by cases (show RD M H v _ from r); rfl
theorem rr_non (r : RR M H v .none) : v = .non := by cases (show RD M H v _ from r); rfl
theorem rr_tup {ds : List D} (r : RR M H v (.tuple ds)) : ∃ a xs, v = .ref a ∧ ¬ M.Has a ∧ TupAt H a xs ds ∧ RDs M H xs ds := by
  cases (show RD M H v _ from r) with
  | tup n e q => exact ⟨_, _, rfl, n, e, q⟩
theorem RDs.get : ∀ {xs : List V} {ds : List D} {i : Nat} {d : D}, RDs M H xs ds → ds[i]? = some d → ∃ v, xs[i]? = some v ∧ RD M H v d
  | _, _, _, _, .nil, e => by simp at e
  | _, _, 0, _, .cons r _, e => by simp at e; subst e; exact ⟨_, rfl, r⟩
  | _, _, i + 1, _, .cons _ t, e => by
    obtain ⟨u, h1, h2⟩ := RDs.get (i := i) t (by simpa using e)
    exact ⟨u, by simpa using h1, h2⟩
theorem RDs.app : ∀ {xs : List V} {ds : List D} {ys : List V} {es : List D}, RDs M H xs ds → RDs M H ys es → RDs M H (xs ++ ys) (ds ++ es)
  | _, _, _, _, .nil, q => q
  | _, _, _, _, .cons r t, q => .cons r (RDs.app t q)
theorem RDs.take : ∀ {xs : List V} {ds : List D} (n : Nat), RDs M H xs ds → RDs M H (xs.take n) (ds.take n)
  | _, _, 0, _ => .nil
  | _, _, _ + 1, .nil => .nil
  | _, _, n + 1, .cons r t => .cons r (RDs.take n t)
theorem RDs.drop : ∀ {xs : List V} {ds : List D} (n : Nat), RDs M H xs ds → RDs M H (xs.drop n) (ds.drop n)
  | _, _, 0, r => r
  | _, _, _ + 1, .nil => .nil
  | _, _, n + 1, .cons _ t => RDs.drop n t
theorem RDs.rev : ∀ {xs : List V} {ds : List D}, RDs M H xs ds → RDs M H xs.reverse ds.reverse
  | _, _, .nil => .nil
  | _, _, .cons r t => by rw [List.reverse_cons, List.reverse_cons]; exact RDs.app (RDs.rev t) (.cons r .nil)
theorem RDs.set : ∀ {xs : List V} {ds : List D} (n : Nat) {v : V} {d : D}, RDs M H xs ds → RD M H v d → RDs M H (xs.set n v) (ds.set n d)
  | _, _, _, _, _, .nil, _ => .nil
  | _, _, 0, _, _, .cons r t, q => .cons q t
  | _, _, n + 1, _, _, .cons r t, q => .cons r (RDs.set n t q)
theorem RDs.erase : ∀ {xs : List V} {ds : List D} (n : Nat), RDs M H xs ds → RDs M H (xs.eraseIdx n) (ds.eraseIdx n)
  | _, _, _, .nil => .nil
  | _, _, 0, .cons r t => t
  | _, _, n + 1, .cons r t => .cons r (RDs.erase n t)
theorem RDs.rep {xs : List V} {ds : List D} (r : RDs M H xs ds) : ∀ k : Nat, RDs M H (List.replicate k xs).flatten (List.replicate k ds).flatten
  | 0 => .nil
  | k + 1 => by rw [List.replicate_succ, List.replicate_succ, List.flatten_cons, List.flatten_cons]; exact RDs.app r (RDs.rep r k)
theorem RDs.atI {xs : List V} {ds : List D} {i : Int} {d : D} (r : RDs M H xs ds) (e : L2.atI ds i = some d) : ∃ v, L2.atI xs i = some v ∧ RD M H v d := by
  unfold L2.atI at e ⊢
  rw [r.length]
  cases q : ixN ds.length i with
  | none => rw [q] at e; cases e
  | some j => rw [q] at e; exact r.get e
end
def mkL (m : Bool) (ds : List D) (h : Hh) : Option (W × Hh) := if m = true then some (.ref h.length, h ++ [some (.lst ds)]) else some (.dat (.list ds), h)
@[simp] theorem mkL_false (ds : List D) (h : Hh) : mkL false ds h = some (.dat (.list ds), h) := rfl
@[simp] theorem mkL_true (ds : List D) (h : Hh) : mkL true ds h = some (.ref h.length, h ++ [some (.lst ds)]) := rfl
theorem mkL_fin {m : Bool} {ds : List D} {h : Hh} {M : Mm} {H : Hp} {Q : VK} {p : Addr} {xs : List V} (rep : Rep M H h) (n : H p = none) (r : RDs M H xs ds) (c : Cont RV (mkL m ds h) M H Q) : Q (.ref p) (upd H p (.lst xs)) := by
  cases m with
  | false => exact c.fin (ext_new n) (rep.upd_new n) (RD.lst (rep.new n) upd_same (r.mono (ext_new n).ext))
  | true => exact c.fin (ext_add n) (rep.add n ⟨xs, upd_same, r.mono (ext_add n).ext⟩) ⟨p, by simp [Mm.more, ← rep.len], rfl⟩
theorem mkT_fin {ds : List D} {h : Hh} {M : Mm} {H : Hp} {Q : VK} {p : Addr} {xs : List V} (rep : Rep M H h) (n : H p = none) (r : RDs M H xs ds) (hd : callD ds = false) (c : Cont RV (some (.dat (.tuple ds), h)) M H Q) : Q (.ref p) (upd H p (.tup xs)) :=
  c.fin (ext_new n) (rep.upd_new n) (RD.tup (rep.new n) (.inl ⟨hd, upd_same⟩) (r.mono (ext_new n).ext))
def bareO (b : Bool) (o : Obj) (xs : List V) : HO := if b = true then .frz o (.tup xs) else .tup xs
theorem mkB_fin {ds : List D} {h : Hh} {M : Mm} {H : Hp} {Q : VK} {p : Addr} {xs : List V} {o : Obj} (rep : Rep M H h) (n : H p = none) (r : RDs M H xs ds) (ho : o.dict = none) (c : Cont RV (some (.dat (.tuple ds), h)) M H Q) : Q (.ref p) (upd H p (bareO (callD ds) o xs)) := by
  cases hd : callD ds with
  | false => exact mkT_fin rep n r hd c
  | true => exact c.fin (ext_new n) (rep.upd_new n) (RD.tup (rep.new n) (.inr ⟨trivial, o, ho, upd_same⟩) (r.mono (ext_new n).ext))
theorem bare_ok {P : Program} {w : World} {H : Hp} {h' : Heap} {a : Addr} {xs : List V} {o : Obj} (b : Bool) (e : h'.get? a = some o) (ok : ∀ G, ObjOk P w G h' a (.tup xs)) : ObjOk P w H h' a (bareO b o xs) := by
  cases b with
  | false => exact ok _
  | true => exact ⟨e, ok _⟩
theorem Cont.here {d : D} {h : Hh} {M : Mm} {H : Hp} {Q : VK} {v : V} (c : Cont RV (some (.dat d, h)) M H Q) (rep : Rep M H h) (r : RD M H v d) : Q v H := c.fin (.refl _ _) rep r
theorem Cont.no {α β : Type} {rel : Mm → Hp → β → α → Prop} {M : Mm} {H : Hp} {Q : β → Hp → Prop} (c : Cont rel none M H Q) : False := by obtain ⟨_, _, e, _⟩ := c; cases e
def ok (d : D) (h : Hh) : Option (W × Hh) := some (.dat d, h)
def addW (m : Bool) (x y : W) (h : Hh) : Option (W × Hh) := match deref h x, deref h y with
  | some (.int i), some (.int j) => ok (.int (i + j)) h
  | some (.str a), some (.str b) => if a.length + b.length ≤ sizeLine then ok (.str (a ++ b)) h else none
  | some (.tuple a), some (.tuple b) => if a.length + b.length ≤ sizeLine then ok (.tuple (a ++ b)) h else none
  | some (.list a), some (.list b) => if a.length + b.length ≤ sizeLine then mkL m (a ++ b) h else none
  | _, _ => none
section
variable {X : Cx}
def rCatB (K : PySem.W.Frag) : R2 := fun x y H Q => ∃ a b vs ws, x = .ref a ∧ y = .ref b ∧ SqT K H a vs ∧ SqT K H b ws ∧ vs.length + ws.length ≤ sizeLine ∧
  (vs = [] → Q (.ref b) H) ∧ (vs ≠ [] → ws = [] → Q (.ref a) H) ∧ (vs ≠ [] → ws ≠ [] → ∃ bb : Bool, ∀ p o, H p = none → o.dict = none → Q (.ref p) (upd H p (bareO bb o (vs ++ ws))))
theorem op_catB : OpR X (binaryOp .Add) (rCatB X.K) := by
  rintro pins s σ H x y v u Q I rx ry ⟨a, b, vs, ws, rfl, rfl, ha, hb, hz, f0, f1, f2⟩
  by_cases e : vs = [] ∨ ws = []
  · exact op_catA pins s σ H _ _ v u Q I rx ry ⟨a, b, vs, ws, rfl, rfl, ha, hb, hz, f0, f1, fun n1 n2 => (e.elim n1 n2).elim⟩
  · have n1 : vs ≠ [] := fun z => e (.inl z)
    have n2 : ws ≠ [] := fun z => e (.inr z)
    obtain ⟨bb, f⟩ := f2 n1 n2
    cases rx
    cases ry
    obtain ⟨l1, r1, p1, _⟩ := I.tuple ha
    obtain ⟨l2, r2, p2, _⟩ := I.tuple hb
    apply HT.cat_tup p1 p2 (fun z => n1 (r1.nil_iff.mp z)) (fun z => absurd (r2.nil_iff.mp z) n2)
    · intro _
      refine ⟨.ref s.heap.objs.size, _, I.laid (t' := s.toks) (o := bareO bb _ (vs ++ ws)) (fun _ _ q => Heap.get?_push_of_some _ q) (Nat.le_refl _) (bare_ok bb (Heap.get?_push_size _ rfl) fun G => ⟨?_, _, r1.append r2, IsTup.new _ _⟩), rfl, f _ _ (I.hok.fresh (Nat.le_refl _)) rfl⟩
      rw [List.length_append]
      exact hz
    · rw [← r1.length, ← r2.length]
      exact hz
theorem s_add (m : Bool) : Sem2 (fun x y H Q => rI0 (fun i j => .int (i + j)) x y H Q ∨ (∃ i j, x = .str i ∧ y = .str j ∧ i.length + j.length ≤ sizeLine ∧ Q (.str (i ++ j)) H) ∨ rCatB X.K x y H Q ∨ rCat x y H Q) (addW m) := by
  intro M H h x y wx wy Q rep rx ry c
  unfold addW at c
  split at c
  · rename_i i j h1 h2
    obtain rfl := rr_int (deref_rr rep rx h1)
    obtain rfl := rr_int (deref_rr rep ry h2)
    exact .inl ⟨i, j, rfl, rfl, c.here rep (.int _)⟩
  · rename_i i j h1 h2
    obtain rfl := rr_str (deref_rr rep rx h1)
    obtain rfl := rr_str (deref_rr rep ry h2)
    split at c
    · rename_i hz
      exact .inr (.inl ⟨i, j, rfl, rfl, hz, c.here rep (.str _)⟩)
    · exact c.no.elim
  · rename_i i j h1 h2
    obtain ⟨a, xs, rfl, na, ha, qa⟩ := rr_tup (deref_rr rep rx h1)
    obtain ⟨b, ys, rfl, nb, hb, qb⟩ := rr_tup (deref_rr rep ry h2)
    split at c
    · rename_i hz
      refine .inr (.inr (.inl ⟨a, b, xs, ys, rfl, rfl, .inl ha.rd, .inl hb.rd, by rw [qa.length, qb.length]; exact hz, fun e => ?_, fun _ e => ?_, fun _ _ => ⟨callD (i ++ j), fun p o np ho => ?_⟩⟩))
      · subst e; cases qa
        exact c.here rep (.tup nb hb qb)
      · subst e; cases qb; rw [List.append_nil] at c
        exact c.here rep (.tup na ha qa)
      · exact mkB_fin rep np (qa.app qb) ho c
    · exact c.no.elim
  · rename_i i j h1 h2
    obtain ⟨a, xs, rfl, ha, qa⟩ := deref_rr rep rx h1
    obtain ⟨b, ys, rfl, hb, qb⟩ := deref_rr rep ry h2
    split at c
    · rename_i hz
      exact .inr (.inr (.inr ⟨a, b, xs, ys, rfl, rfl, ha, hb, by rw [qa.length, qb.length]; exact hz, fun p np => mkL_fin rep np (qa.app qb) c⟩))
    · exact c.no.elim
  · exact c.no.elim
theorem d_add (m : Bool) {a b : Expr} {pos : Pos} {f g : EM} (ha : DE X a f) (hb : DE X b g) : DE X (.BinOp a .Add b pos) (f2 (addW m) f g) :=
  d_op (op_add.or (op_add_str.or (op_catB.or op_cat))) (s_add m) ha hb
def intW (C : Int → Int → Bool) (g : Int → Int → Int) (x y : W) (h : Hh) : Option (W × Hh) := match deref h x, deref h y with
  | some (.int i), some (.int j) => if C i j = true then ok (.int (g i j)) h else none
  | _, _ => none
theorem s_int {C : Int → Int → Prop} {Cb : Int → Int → Bool} {g : Int → Int → Int} (hc : ∀ i j, Cb i j = true → C i j) : Sem2 (rI C fun i j => .int (g i j)) (intW Cb g) := by
  intro M H h x y wx wy Q rep rx ry c
  unfold intW at c
  split at c
  · rename_i i j h1 h2
    obtain rfl := rr_int (deref_rr rep rx h1)
    obtain rfl := rr_int (deref_rr rep ry h2)
    split at c
    · rename_i hz
      exact ⟨i, j, rfl, rfl, hc i j hz, c.here rep (.int _)⟩
    · exact c.no.elim
  · exact c.no.elim
theorem op_subC : OpR X (binaryOp .Sub) (rI (fun _ _ => True) fun i j => .int (i - j)) := fun pins s σ H x y v u Q I rx ry ⟨i, j, e1, e2, _, q⟩ => op_sub pins s σ H x y v u Q I rx ry ⟨i, j, e1, e2, q⟩
def subW := intW (fun _ _ => true) fun i j => i - j
theorem d_sub {a b : Expr} {pos : Pos} {f g : EM} (ha : DE X a f) (hb : DE X b g) : DE X (.BinOp a .Sub b pos) (f2 subW f g) := d_op op_subC (s_int fun _ _ _ => trivial) ha hb
def modW := intW (fun _ j => decide (0 < j)) fun i j => i % j
theorem d_mod {a b : Expr} {pos : Pos} {f g : EM} (ha : DE X a f) (hb : DE X b g) : DE X (.BinOp a .Mod b pos) (f2 modW f g) := d_op op_mod (s_int fun _ _ h => of_decide_eq_true h) ha hb
def divW := intW (fun _ j => decide (0 < j ∧ j < 1073741824)) fun i j => i / j
theorem d_div {a b : Expr} {pos : Pos} {f g : EM} (ha : DE X a f) (hb : DE X b g) : DE X (.BinOp a .FloorDiv b pos) (f2 divW f g) := d_op op_fdiv (s_int fun _ _ h => by simpa [CDiv] using h) ha hb
def powW := intW (fun i j => decide (0 ≤ j ∧ j ≤ 1000000 ∧ i.natAbs < 18446744073709551616)) fun i j => i ^ j.toNat
theorem d_pow {a b : Expr} {pos : Pos} {f g : EM} (ha : DE X a f) (hb : DE X b g) : DE X (.BinOp a .Pow b pos) (f2 powW f g) := d_op op_pow (s_int fun _ _ h => by simpa [CPow] using h) ha hb
def mulW (m : Bool) (x y : W) (h : Hh) : Option (W × Hh) := match deref h x, deref h y with
  | some (.int i), some (.int j) => if ((-18446744073709551616 < i && i < 18446744073709551616) || (-18446744073709551616 < j && j < 18446744073709551616)) = true then ok (.int (i * j)) h else none
  | some (.list a), some (.int k) => if (0 ≤ k && k < 1000000 && a.length * k.toNat ≤ sizeLine) = true then mkL m (List.replicate k.toNat a).flatten h else none
  | _, _ => none
theorem s_mul (m : Bool) : Sem2 (fun x y H Q => rI CMul (fun i j => .int (i * j)) x y H Q ∨ rRep x y H Q) (mulW m) := by
  intro M H h x y wx wy Q rep rx ry c
  unfold mulW at c
  split at c
  · rename_i i j h1 h2
    obtain rfl := rr_int (deref_rr rep rx h1)
    obtain rfl := rr_int (deref_rr rep ry h2)
    split at c
    · rename_i hz
      refine .inl ⟨i, j, rfl, rfl, ?_, c.here rep (.int _)⟩
      simpa [CMul] using hz
    · exact c.no.elim
  · rename_i i j h1 h2
    obtain ⟨a, xs, rfl, ha, qa⟩ := deref_rr rep rx h1
    obtain rfl := rr_int (deref_rr rep ry h2)
    split at c
    · rename_i hz
      simp only [Bool.and_eq_true, decide_eq_true_eq] at hz
      refine .inr ⟨a, j, xs, rfl, rfl, ha, by omega, by omega, by rw [qa.length]; exact hz.2, fun p np => mkL_fin rep np (qa.rep _) c⟩
    · exact c.no.elim
  · exact c.no.elim
theorem d_mul (m : Bool) {a b : Expr} {pos : Pos} {f g : EM} (ha : DE X a f) (hb : DE X b g) : DE X (.BinOp a .Mult b pos) (f2 (mulW m) f g) := d_op (op_mul.or op_rep) (s_mul m) ha hb
def fNeg (f : EM) : EM := fun ρ h => obnd (f ρ h) fun w h1 => match w with
  | .dat (.int i) => ok (.int (-i)) h1
  | _ => none
theorem d_neg {a : Expr} {pos : Pos} {f : EM} (ha : DE X a f) : DE X (.UnaryOp .USub a pos) (fNeg f) := (pe_un un_neg ha).weak fun σ H Q => by
  rintro ⟨M, h, ρ, r, rs, c⟩
  obtain ⟨w, h1, e1, c1⟩ := Cont.bind (δ := Unit) c
  refine ⟨M, h, ρ, r, rs, w, h1, e1, fun M1 H1 v x1 r1 v1 => ?_⟩
  have c2 := c1 M1 H1 x1
  split at c2
  · cases v1; exact ⟨_, rfl, c2.here r1 (.int _)⟩
  · exact c2.no.elim
def bok (b : Bool) (h : Hh) : Option (W × Hh) := some (.dat (.bool b), h)
def ltW (g : Int → Int → Bool) (k : List Nat → List Nat → Bool) (x y : W) (h : Hh) : Option (W × Hh) := match deref h x, deref h y with
  | some (.int i), some (.int j) => bok (g i j) h
  | some (.str i), some (.str j) => bok (k i.cps.toList j.cps.toList) h
  | _, _ => none
theorem s_lt {g : Int → Int → Bool} {k : List Nat → List Nat → Bool} : Sem2 (fun x y H Q => rI0 (fun i j => .bl (g i j)) x y H Q ∨ ∃ i j, x = .str i ∧ y = .str j ∧ Q (.bl (k i.cps.toList j.cps.toList)) H) (ltW g k) := by
  intro M H h x y wx wy Q rep rx ry c
  unfold ltW at c
  split at c
  · rename_i i j h1 h2
    obtain rfl := rr_int (deref_rr rep rx h1)
    obtain rfl := rr_int (deref_rr rep ry h2)
    exact .inl ⟨i, j, rfl, rfl, c.here rep (.bl _)⟩
  · rename_i i j h1 h2
    obtain rfl := rr_str (deref_rr rep rx h1)
    obtain rfl := rr_str (deref_rr rep ry h2)
    exact .inr ⟨i, j, rfl, rfl, c.here rep (.bl _)⟩
  · exact c.no.elim
def lt_W := ltW (fun i j => decide (i < j)) fun i j => decide (i < j)
def gt_W := ltW (fun i j => decide (j < i)) fun i j => decide (j < i)
def le_W := ltW (fun i j => decide (i ≤ j)) fun i j => !decide (j < i)
def ge_W := ltW (fun i j => decide (j ≤ i)) fun i j => !decide (i < j)
theorem d_lt {a b : Expr} {pos : Pos} {f g : EM} (ha : DE X a f) (hb : DE X b g) : DE X (.Compare a [.Lt] [b] pos) (f2 lt_W f g) := d_cmp (op_lt.or op_lt_str) s_lt ha hb (nomark _)
theorem d_ge {a b : Expr} {pos : Pos} {f g : EM} (ha : DE X a f) (hb : DE X b g) : DE X (.Compare a [.GtE] [b] pos) (f2 ge_W f g) := d_cmp (op_ge.or op_ge_str) s_lt ha hb (nomark _)
end
mutual
theorem RD.dp {K : PySem.W.Frag} {M : Mm} {H : Hp} : ∀ {v : V} {d : D}, RD M H v d → d.canLay0 = true → Dp K H v d
  | _, _, .non, _ => .non
  | _, _, .bl b, _ => .bl b
  | _, _, .int i, _ => .int i
  | _, _, .str x, _ => .str x
  | _, _, .tup _ e r, h => .tup e.sq (RDs.dp r (by simpa [PyData.canLay0] using h))
  | _, _, .lst _ e r, h => .lst (.of e) (RDs.dp r (by simpa [PyData.canLay0] using h))
  | _, _, .dic _ _ _, h => by simp [PyData.canLay0] at h
  | _, _, .dit _ _ _, h => by simp [PyData.canLay0] at h
theorem RDs.dp {K : PySem.W.Frag} {M : Mm} {H : Hp} : ∀ {v : List V} {d : List D}, RDs M H v d → PyData.canLayAll0 d = true → DpAll K H v d
  | _, _, .nil, _ => .nil
  | _, _, .cons a r, h => by
    simp only [PyData.canLayAll0, Bool.and_eq_true] at h
    exact .cons (RD.dp a h.1) (RDs.dp r h.2)
end
theorem rr_dp {K : PySem.W.Frag} {M : Mm} {H : Hp} {v : V} : ∀ {d : D}, RR M H v d → d.canLay0 = true → Dp K H v d
  | .none, r, h => RD.dp r h
  | .bool _, r, h => RD.dp r h
  | .int _, r, h => RD.dp r h
  | .str _, r, h => RD.dp r h
  | .tuple _, r, h => RD.dp r h
  | .list _, ⟨_, _, e, h1, h2⟩, h => by subst e; exact .lst (.of h1) (h2.dp (by simpa [PyData.canLay0] using h))
  | .dict _, _, h => by simp [PyData.canLay0] at h
def eqS : D → D → Option Bool
  | .int i, .int j => some (decide (i = j))
  | .str i, .str j => some (decide (i = j))
  | .bool i, .bool j => some (decide (i = j))
  | .none, .none => some true
  | .none, .int _ => some false
  | .none, .str _ => some false
  | .none, .bool _ => some false
  | .int _, .none => some false
  | .str _, .none => some false
  | .bool _, .none => some false
  | .int _, .str _ => some false
  | .str _, .int _ => some false
  | .bool _, .str _ => some false
  | .str _, .bool _ => some false
  | _, _ => none
theorem eqS_ok {M : Mm} {H : Hp} {x y : V} {a b : D} {r : Bool} (ra : RR M H x a) (rb : RR M H y b) (e : eqS a b = some r) : scal x y = true ∧ r = decide (x = y) := by
  cases a <;> cases b <;> simp only [eqS, Option.some.injEq, reduceCtorEq] at e <;> subst e <;> cases (show RD M H x _ from ra) <;> cases (show RD M H y _ from rb) <;> simp [scal]
def shp (d : D) : Bool := d.canLay0 && decide (d.depth ≤ 64)
def eqW (neg : Bool) (x y : W) (h : Hh) : Option (W × Hh) := match deref h x, deref h y with
  | some a, some b => match eqS a b with
    | some r => bok (if neg = true then !r else r) h
    | none => if shp a && shp b then bok (if neg = true then !PyData.eqv a b else PyData.eqv a b) h else none
  | _, _ => none
section
variable {X : Cx}
theorem s_eq : Sem2 (fun x y H Q => rEq x y H Q ∨ rEqD X.K x y H Q) (eqW false) := by
  intro M H h x y wx wy Q rep rx ry c
  unfold eqW at c
  split at c
  · rename_i a b h1 h2
    have ra := deref_rr rep rx h1
    have rb := deref_rr rep ry h2
    split at c
    · rename_i r e
      obtain ⟨e1, e2⟩ := eqS_ok ra rb e
      subst e2
      exact .inl ⟨e1, c.here rep (.bl _)⟩
    · split at c
      · rename_i hz
        rw [Bool.and_eq_true] at hz
        exact .inr ⟨a, b, rr_dp ra (SeqAt.canLay_of_shaped hz.1), rr_dp rb (SeqAt.canLay_of_shaped hz.2), hz.1, hz.2, c.here rep (.bl _)⟩
      · exact c.no.elim
  · exact c.no.elim
theorem s_ne : Sem2 (fun x y H Q => rNe x y H Q ∨ rNeD X.K x y H Q) (eqW true) := by
  intro M H h x y wx wy Q rep rx ry c
  unfold eqW at c
  split at c
  · rename_i a b h1 h2
    have ra := deref_rr rep rx h1
    have rb := deref_rr rep ry h2
    split at c
    · rename_i r e
      obtain ⟨e1, e2⟩ := eqS_ok ra rb e
      subst e2
      exact .inl ⟨e1, c.here rep (.bl _)⟩
    · split at c
      · rename_i hz
        rw [Bool.and_eq_true] at hz
        exact .inr ⟨a, b, rr_dp ra (SeqAt.canLay_of_shaped hz.1), rr_dp rb (SeqAt.canLay_of_shaped hz.2), hz.1, hz.2, c.here rep (.bl _)⟩
      · exact c.no.elim
  · exact c.no.elim
theorem d_eq {k : Nat} (hr : Room k X.A) {a b : Expr} {pos : Pos} {f g : EM} (ha : DE X a f) (hb : DE X b g) : DE X (.Compare a [.Eq] [b] pos) (f2 (eqW false) f g) := d_cmp (op_eq.or (op_eqD hr.units)) s_eq ha hb (nomark _)
def isW (neg : Bool) (x y : W) (h : Hh) : Option (W × Hh) := match x, y with
  | .dat (.bool a), .dat (.bool b) => bok (if neg = true then !decide (a = b) else decide (a = b)) h
  | .dat .none, .dat .none => bok (!neg) h
  | _, .dat .none => bok neg h
  | _, _ => none
theorem rv_non {M : Mm} {H : Hp} {w : W} (r : RV M H .non w) : w = .dat .none := by
  cases w with
  | dat d => cases (show RD M H _ d from r); rfl
  | ref n => obtain ⟨_, _, e⟩ := r; cases e
  | scr n => obtain ⟨_, _, e, _⟩ := r; cases e
  | pack its => obtain ⟨_, _, e, _⟩ := r; cases e
  | lock its => obtain ⟨_, _, _, e, _⟩ := r; cases e
  | ins C fs => obtain ⟨_, _, _, e, _⟩ := r; cases e
  | exc k C fs => obtain ⟨_, _, _, e, _⟩ := r; cases e
  | row ds => obtain ⟨_, _, _, e, _⟩ := r; cases e
theorem s_is : Sem2 (fun x y H Q => (y = .non ∧ Q (.bl (decide (x = .non))) H) ∨ ∃ a b, x = .bl a ∧ y = .bl b ∧ Q (.bl (decide (a = b))) H) (isW false) := by
  intro M H h x y wx wy Q rep rx ry c
  unfold isW at c
  split at c
  · cases (show RD M H _ _ from rx); cases (show RD M H _ _ from ry)
    exact .inr ⟨_, _, rfl, rfl, c.here rep (.bl _)⟩
  · cases (show RD M H _ _ from rx); cases (show RD M H _ _ from ry)
    exact .inl ⟨rfl, c.here rep (.bl _)⟩
  · rename_i hn
    cases (show RD M H _ _ from ry)
    refine .inl ⟨rfl, ?_⟩
    have e : decide (x = V.non) = false := decide_eq_false fun z => by subst z; exact hn (rv_non rx)
    rw [e]
    exact c.here rep (.bl _)
  · exact c.no.elim
def fB (f : EM) : BM := fun ρ h => obnd (f ρ h) fun w h1 => match w with
  | .dat (.bool b) => some (b, h1)
  | _ => none
theorem test_imp {f : EM} : ∀ σ H Q, tT (fB f) σ H Q → tTest (tE f) σ H Q := fun σ H Q => by
  rintro ⟨M, h, ρ, r, rs, c⟩
  obtain ⟨w, h1, e1, c1⟩ := Cont.bind (δ := Unit) c
  refine ⟨M, h, ρ, r, rs, w, h1, e1, fun M1 H1 v x1 r1 v1 => ?_⟩
  have c2 := c1 M1 H1 x1
  split at c2
  · cases v1; exact ⟨_, rfl, c2.fin (.refl _ _) r1 rfl⟩
  · exact c2.no.elim
theorem dt_val {e : Expr} {f : EM} (h : DE X e f) (he : ∀ whole, isTrue e X.env whole = (do let v ← whole; standAt e.pos; holding [v] (truthy v)) := by intro _; rfl) : DT X e (fB f) := (pt_val h he).weak test_imp
theorem dt_of_cmp {a b : Expr} {op : CmpOp} {pos : Pos} {r : R2} {sem : W → W → Hh → Option (W × Hh)} {f g : EM} (ho : OpR X (compareOp op) r) (hs : Sem2 r sem) (ha : DE X a f) (hb : DE X b g) (hm : behindInMarks op b = false) : DT X (.Compare a [op] [b] pos) (fB (f2 sem f g)) :=
  (pt_cmpR ho ha hb hm).weak fun σ H Q q => by
    obtain ⟨M, h, ρ, r, rs, c⟩ := q
    obtain ⟨w, h1, e1, c1⟩ := Cont.bind (δ := Unit) c
    refine op_imp hs σ H _ ⟨M, h, ρ, r, rs, w, h1, e1, fun M1 H1 v x1 r1 v1 => ?_⟩
    have c2 := c1 M1 H1 x1
    split at c2
    · cases v1; exact ⟨_, rfl, c2.fin (.refl _ _) r1 rfl⟩
    · exact c2.no.elim
theorem t_lt {a b : Expr} {pos : Pos} {f g : EM} (ha : DE X a f) (hb : DE X b g) : DT X (.Compare a [.Lt] [b] pos) (fB (f2 lt_W f g)) := dt_of_cmp (op_lt.or op_lt_str) s_lt ha hb (nomark _)
theorem t_gt {a b : Expr} {pos : Pos} {f g : EM} (ha : DE X a f) (hb : DE X b g) : DT X (.Compare a [.Gt] [b] pos) (fB (f2 gt_W f g)) := dt_of_cmp (op_gt.or op_gt_str) s_lt ha hb (nomark _)
theorem t_eq {k : Nat} (hr : Room k X.A) {a b : Expr} {pos : Pos} {f g : EM} (ha : DE X a f) (hb : DE X b g) : DT X (.Compare a [.Eq] [b] pos) (fB (f2 (eqW false) f g)) := dt_of_cmp (op_eq.or (op_eqD hr.units)) s_eq ha hb (nomark _)
theorem t_ne {k : Nat} (hr : Room k X.A) {a b : Expr} {pos : Pos} {f g : EM} (ha : DE X a f) (hb : DE X b g) : DT X (.Compare a [.NotEq] [b] pos) (fB (f2 (eqW true) f g)) := dt_of_cmp (op_ne.or (op_neD hr.units)) s_ne ha hb (nomark _)
theorem t_is {a b : Expr} {pos : Pos} {f g : EM} (ha : DE X a f) (hb : DE X b g) : DT X (.Compare a [.Is] [b] pos) (fB (f2 (isW false) f g)) := dt_of_cmp (op_isN.or op_is_bl) s_is ha hb (nomark _)
def bAnd (f g : BM) : BM := fun ρ h => obnd (f ρ h) fun b h1 => if b = true then g ρ h1 else some (false, h1)
def bOr (f g : BM) : BM := fun ρ h => obnd (f ρ h) fun b h1 => if b = true then some (true, h1) else g ρ h1
def bNot (f : BM) : BM := fun ρ h => obnd (f ρ h) fun b h1 => some (!b, h1)
abbrev DW (X : Cx) (e : Expr) (f : BM) : Prop := PW X e (tT f)
theorem _root_.L2.PW.weak {X : Cx} {e : Expr} {t t' : TT} (h : PW X e t) (i : ∀ σ H Q, t' σ H Q → t σ H Q) : PW X e t' := ⟨fun wh pins s σ H Q I q => h.run wh pins s σ H Q I (i σ H Q q)⟩
theorem dw_and1 {a : Expr} {pos : Pos} {f : BM} (ha : DT X a f) : DW X (.BoolOp .And [a] pos) f := pw_and1 ha
theorem dw_or1 {a : Expr} {pos : Pos} {f : BM} (ha : DT X a f) : DW X (.BoolOp .Or [a] pos) f := pw_or1 ha
theorem dw_and {a b : Expr} {rest : List Expr} {pos : Pos} {f g : BM} (ha : DT X a f) (hb : DW X (.BoolOp .And (b :: rest) pos) g) : DW X (.BoolOp .And (a :: b :: rest) pos) (bAnd f g) := (pw_and ha hb).weak fun σ H Q => by
  rintro ⟨M, h, ρ, r, rs, c⟩
  obtain ⟨w, h1, e1, c1⟩ := Cont.bind (δ := Unit) c
  refine ⟨M, h, ρ, r, rs, w, h1, e1, fun M1 H1 v x1 r1 v1 => ?_⟩
  subst v1
  have c2 := c1 M1 H1 x1
  cases v with
  | true => exact iteT ⟨M1, h1, ρ, r1, rs.mono x1, c2⟩
  | false => exact iteF (c2.fin (.refl _ _) r1 rfl)
theorem dw_or {a b : Expr} {rest : List Expr} {pos : Pos} {f g : BM} (ha : DT X a f) (hb : DW X (.BoolOp .Or (b :: rest) pos) g) : DW X (.BoolOp .Or (a :: b :: rest) pos) (bOr f g) := (pw_or ha hb).weak fun σ H Q => by
  rintro ⟨M, h, ρ, r, rs, c⟩
  obtain ⟨w, h1, e1, c1⟩ := Cont.bind (δ := Unit) c
  refine ⟨M, h, ρ, r, rs, w, h1, e1, fun M1 H1 v x1 r1 v1 => ?_⟩
  subst v1
  have c2 := c1 M1 H1 x1
  cases v with
  | true => exact iteT (c2.fin (.refl _ _) r1 rfl)
  | false => exact iteF ⟨M1, h1, ρ, r1, rs.mono x1, c2⟩
theorem dt_not {a : Expr} {pos : Pos} {f : BM} (ha : DT X a f) : DT X (.UnaryOp .Not a pos) (bNot f) := (pt_not ha).weak fun σ H Q => by
  rintro ⟨M, h, ρ, r, rs, c⟩
  obtain ⟨w, h1, e1, c1⟩ := Cont.bind (δ := Unit) c
  refine ⟨M, h, ρ, r, rs, w, h1, e1, fun M1 H1 v x1 r1 v1 => ?_⟩
  subst v1
  exact (c1 M1 H1 x1).fin (.refl _ _) r1 rfl
def fAnd (f g : EM) : EM := fun ρ h => obnd (f ρ h) fun w h1 => match w with
  | .dat (.bool true) => g ρ h1
  | .dat (.bool false) => bok false h1
  | _ => none
def fOr (f g : EM) : EM := fun ρ h => obnd (f ρ h) fun w h1 => match w with
  | .dat (.bool true) => bok true h1
  | .dat (.bool false) => g ρ h1
  | _ => none
def fNot (f : EM) : EM := fun ρ h => obnd (f ρ h) fun w h1 => match w with
  | .dat (.bool b) => bok (!b) h1
  | _ => none
theorem d_one {op} {a : Expr} {pos : Pos} {f : EM} (ha : DE X a f) : DE X (.BoolOp op [a] pos) f := pe_one ha
theorem d_and {a b : Expr} {rest : List Expr} {pos : Pos} {f g : EM} (ha : DE X a f) (hb : DE X (.BoolOp .And (b :: rest) pos) g) : DE X (.BoolOp .And (a :: b :: rest) pos) (fAnd f g) := (pe_and ha hb).weak fun σ H Q => by
  rintro ⟨M, h, ρ, r, rs, c⟩
  obtain ⟨w, h1, e1, c1⟩ := Cont.bind (δ := Unit) c
  refine ⟨M, h, ρ, r, rs, w, h1, e1, fun M1 H1 v x1 r1 v1 => ?_⟩
  have c2 := c1 M1 H1 x1
  split at c2
  · cases v1; exact ⟨true, rfl, iteT ⟨M1, h1, ρ, r1, rs.mono x1, c2⟩⟩
  · cases v1; exact ⟨false, rfl, iteF (c2.here r1 (.bl _))⟩
  · exact c2.no.elim
theorem d_not {a : Expr} {pos : Pos} {f : EM} (ha : DE X a f) : DE X (.UnaryOp .Not a pos) (fNot f) := (pe_not ha).weak fun σ H Q => by
  rintro ⟨M, h, ρ, r, rs, c⟩
  obtain ⟨w, h1, e1, c1⟩ := Cont.bind (δ := Unit) c
  refine ⟨M, h, ρ, r, rs, w, h1, e1, fun M1 H1 v x1 r1 v1 => ?_⟩
  have c2 := c1 M1 H1 x1
  split at c2
  · cases v1; exact ⟨_, rfl, c2.here r1 (.bl _)⟩
  · exact c2.no.elim
def fIf (t : BM) (f g : EM) : EM := fun ρ h => obnd (t ρ h) fun b h1 => if b = true then f ρ h1 else g ρ h1
theorem d_if {c a b : Expr} {pos : Pos} {t : BM} {f g : EM} (hc : DT X c t) (ha : DE X a f) (hb : DE X b g) : DE X (.IfExp c a b pos) (fIf t f g) := (pe_ifExp hc ha hb).weak fun σ H Q => by
  rintro ⟨M, h, ρ, r, rs, c⟩
  obtain ⟨w, h1, e1, c1⟩ := Cont.bind (δ := Unit) c
  refine ⟨M, h, ρ, r, rs, w, h1, e1, fun M1 H1 v x1 r1 v1 => ?_⟩
  subst v1
  have c2 := c1 M1 H1 x1
  cases v with
  | true => exact iteT ⟨M1, h1, ρ, r1, rs.mono x1, c2⟩
  | false => exact iteF ⟨M1, h1, ρ, r1, rs.mono x1, c2⟩
end
end DL
set_option maxRecDepth 100000
set_option maxHeartbeats 4000000
namespace DL
open PySem PySem.Spec PyProof.Rows L2
def dKey : D → Option Key
  | .int i => some (.inl i)
  | .str s => some (.inr s)
  | _ => none
def dKeys : List D → Option (List Key)
  | [] => some []
  | d :: ds => match dKey d, dKeys ds with
    | some k, some ks => some (k :: ks)
    | _, _ => none
def tKey : D → Option (List Key)
  | .tuple ds => dKeys ds
  | _ => none
def getK (es : List (D × D)) (k : Key) : Option D := (es.find? fun e => decide (dKey e.1 = some k)).map (·.2)
def getT (es : List (D × D)) (k : List Key) : Option D := (es.find? fun e => decide (tKey e.1 = some k)).map (·.2)
def isT : List (D × D) → Bool
  | (.none, .none) :: _ => true
  | _ => false
def getD (es : List (D × D)) (k : D) : Option (Option D) := if isT es = true then none else (dKey k).map (getK es)
theorem dKey_kP (k : Key) : dKey (kP k) = some k := by cases k <;> rfl
theorem dKeys_kP : ∀ ks : List Key, dKeys (ks.map kP) = some ks
  | [] => rfl
  | k :: ks => by simp only [List.map_cons, dKeys, dKey_kP, dKeys_kP ks]
theorem kP_dKey {d : D} {k : Key} (e : dKey d = some k) : d = kP k := by
  cases d <;> simp only [dKey, Option.some.injEq, reduceCtorEq] at e <;> subst e <;> rfl
section
variable {M : Mm} {H : Hp}
theorem rd_kP {v : V} {k : Key} (r : RD M H v (kP k)) : v = kV k := by
  cases k <;> (cases r; rfl)
def RDo (M : Mm) (H : Hp) : Option V → Option D → Prop
  | some v, some d => RD M H v d
  | none, none => True
  | _, _ => False
theorem RDk.val (k : Key) : ∀ {kvs : List (Key × V)} {es : List (D × D)}, RDk M H kvs es → RDo M H (valV kvs k) (getK es k)
  | _, _, .nil => trivial
  | _, _, .cons (k := j) r t => by
    by_cases e : j = k
    · subst e
      rw [valV_pos rfl]
      unfold getK
      simp only [List.find?_cons, dKey_kP, decide_true, Option.map_some]
      exact r
    · rw [valV_neg e]
      have ih := RDk.val k t
      unfold getK at ih ⊢
      simp only [List.find?_cons, dKey_kP, Option.some.injEq, e, decide_false]
      exact ih
theorem RDt.val (k : List Key) : ∀ {kvs : List (List Key × V)} {es : List (D × D)}, RDt M H kvs es → RDo M H (valV kvs k) (getT es k)
  | _, _, .nil => trivial
  | _, _, .cons (k := j) r t => by
    by_cases e : j = k
    · subst e
      rw [valV_pos rfl]
      unfold getT
      simp only [List.find?_cons, tKey, dKeys_kP, decide_true, Option.map_some]
      exact r
    · rw [valV_neg e]
      have ih := RDt.val k t
      unfold getT at ih ⊢
      simp only [List.find?_cons, tKey, dKeys_kP, Option.some.injEq, e, decide_false]
      exact ih
theorem isT_rdk : ∀ {kvs : List (Key × V)} {es : List (D × D)}, RDk M H kvs es → isT es = false
  | _, _, .nil => rfl
  | _, _, .cons (k := k) r t => by cases k <;> rfl
theorem get_ok {x y : V} {es : List (D × D)} {k : D} {o : Option D} (rx : RR M H x (.dict es)) (ry : RD M H y k) (e : getD es k = some o) : ∃ a ov, x = .ref a ∧ DGet H a y ov ∧ RDo M H ov o := by
  rcases rx with ⟨a, kvs, rfl, ha, r⟩ | ⟨a, kvs, es', rfl, rfl, ha, r⟩
  · unfold getD at e
    rw [isT_rdk r] at e
    simp only [Bool.false_eq_true, if_false, Option.map_eq_some_iff] at e
    obtain ⟨k', e1, e2⟩ := e
    have := kP_dKey e1
    subst this
    rw [rd_kP ry]
    exact ⟨a, _, rfl, DGet.k ha, e2 ▸ r.val k'⟩
  · unfold getD at e
    simp [isT] at e
end
def idxW (x y : W) (h : Hh) : Option (W × Hh) := match x, y with
  | .scr ns, .dat (.int i) => match atI ns i with
    | some n => ok (.int n) h
    | none => none
  | x, .dat k => match deref h x, k with
    | some (.list ds), .int i => match atI ds i with
      | some d => ok d h
      | none => none
    | some (.tuple ds), .int i => match atI ds i with
      | some d => ok d h
      | none => none
    | some (.str z), .int i => if z.length ≤ sizeLine then match atI z.cps.toList i with
        | some c => ok (.str ⟨#[c]⟩) h
        | none => none
      else none
    | some (.dict es), k => match getD es k with
      | some (some d) => ok d h
      | _ => none
    | _, _ => none
  | _, _ => none
section
variable {X : Cx}
def rIxDict : R2 := fun x y H Q => ∃ a v, x = .ref a ∧ DGet H a y (some v) ∧ Q v H
theorem ix_dict (hu : X.A.units + 1 < cLine) : IxR X rIxDict := by
  intro value slice pins s σ H x y v u Q I rx ry q hs
  obtain ⟨a, z, rfl, g, q⟩ := q
  obtain rfl : v = Value.ref a := rx
  have tis := dict_typeIs I g
  unfold subscriptTail
  refine wpAny_bind ?_
  rw [getitemInPython_of_ne tis.not_modules]
  refine wpAny_bind (wpAny_specialOf tis F.slot_dict_getitem.lookup ?_)
  have gi := d_getItem (A := X.A) (E := X.xe) hu I g ry fun w' s3 I3 rw' => (⟨z, H, I3, rw', q⟩ : EP X pins σ Q w' s3)
  have done : wpAny (model X.prog X.w) X.A (subscripted slice false (.ref a) u) (fun r s₃ => wpAny (model X.prog X.w) X.A (letTemporaryGo value (.ref a) r >>= fun _ => pure r) (EP X pins σ Q) X.xe s₃) X.xe s := by
    rw [hs]; exact wpAny_operating (wpAny_mono gi (fun r s₃ k => wpAny_bind (wpAny_letTemporaryGo (wpAny_pure k))) fun _ _ k => k)
  first | exact wpAny_pure (wpAny_bind done) | exact wpAny_bind (wpAny_pure (wpAny_bind done)) | exact wpAny_bind done
theorem scr_atI {ns : List Int} {i : Int} {n : Int} (e : atI ns i = some n) : atI (ns.map V.int) i = some (.int n) := by
  unfold atI at e ⊢
  rw [List.length_map]
  cases q : ixN ns.length i with
  | none => rw [q] at e; cases e
  | some j => rw [q] at e; simp only [Option.bind_some] at e ⊢; rw [List.getElem?_map, e]; rfl
theorem s_idx : Sem2 (fun x y H Q => rIx X.K x y H Q ∨ rIxDict x y H Q) idxW := by
  intro M H h x y wx wy Q rep rx ry c
  unfold idxW at c
  split at c
  · rename_i ns i
    obtain ⟨a, o, rfl, _, ha⟩ := rx
    cases (show RD M H _ _ from ry)
    split at c
    · rename_i n e
      exact .inl (.inl ⟨a, _, i, _, rfl, rfl, .inl (.inr ⟨o, ha⟩), scr_atI e, c.here rep (.int _)⟩)
    · exact c.no.elim
  · split at c
    · rename_i ds i e1 hn
      obtain ⟨a, xs, rfl, ha, qa⟩ := deref_rr rep rx e1
      cases (show RD M H _ _ from ry)
      split at c
      · rename_i d e
        obtain ⟨v, ev, rv⟩ := qa.atI e
        exact .inl (.inl ⟨a, _, i, v, rfl, rfl, .of ha, ev, c.here rep rv⟩)
      · exact c.no.elim
    · rename_i ds i e1 hn
      obtain ⟨a, xs, rfl, _, ha, qa⟩ := rr_tup (deref_rr rep rx e1)
      cases (show RD M H _ _ from ry)
      split at c
      · rename_i d e
        obtain ⟨v, ev, rv⟩ := qa.atI e
        exact .inl (.inr (.inl ⟨a, _, i, v, rfl, rfl, ha.sq, ev, c.here rep rv⟩))
      · exact c.no.elim
    · rename_i z i e1 hn
      obtain rfl := rr_str (deref_rr rep rx e1)
      cases (show RD M H _ _ from ry)
      split at c
      · rename_i hz
        split at c
        · rename_i d e
          exact .inl (.inr (.inr ⟨z, i, d, rfl, rfl, hz, e, c.here rep (.str _)⟩))
        · exact c.no.elim
      · exact c.no.elim
    · rename_i es e1 hn
      split at c
      · rename_i d e
        obtain ⟨a, ov, rfl, g, ro⟩ := get_ok (deref_rr rep rx e1) ry e
        cases ov with
        | none => exact ro.elim
        | some v => exact .inr ⟨a, v, rfl, g, c.here rep ro⟩
      · exact c.no.elim
    · exact c.no.elim
  · exact c.no.elim
theorem d_idx {k : Nat} (hr : Room k X.A) {a b : Expr} {pos : Pos} {f g : EM} (ha : DE X a f) (hb : DE X b g) (hs : PlainIx b) : DE X (.Subscript a b pos) (f2 idxW f g) :=
  (pe_ix (ix_seq.or (ix_dict (hu_of hr))) ha hb hs).weak (op_imp s_idx)
def cutG {α : Type} (xs : List α) (lo hi : Option Int) : List α := (xs.drop (HT.sIx xs.length 0 lo)).take (HT.sIx xs.length xs.length hi - HT.sIx xs.length 0 lo)
theorem RDs.cut {M : Mm} {H : Hp} {xs : List V} {ds : List D} (r : RDs M H xs ds) (lo hi : Option Int) : RDs M H (cutV xs lo hi) (cutG ds lo hi) := by
  unfold cutV cutG
  rw [r.length]
  exact (r.drop _).take _
def oNone : OM := fun _ h => some (none, h)
def oSome (f : EM) : OM := fun ρ h => obnd (f ρ h) fun w h1 => match w with
  | .dat (.int i) => some (some i, h1)
  | _ => none
abbrev DO (X : Cx) (e : Option Expr) (f : OM) : Prop := PO X e (tO f)
theorem _root_.L2.PO.weak {X : Cx} {e : Option Expr} {t t' : TO} (h : PO X e t) (i : ∀ σ H Q, t' σ H Q → t σ H Q) : PO X e t' := ⟨fun pins s σ H Q I q => h.run pins s σ H Q I (i σ H Q q)⟩
theorem do_none : DO X none oNone := po_none.weak fun σ H Q => by
  rintro ⟨M, h, ρ, r, rs, c⟩
  exact c.fin (.refl _ _) r rfl
theorem do_some {e : Expr} {f : EM} (he : DE X e f) : DO X (some e) (oSome f) := (po_some he).weak fun σ H Q => by
  rintro ⟨M, h, ρ, r, rs, c⟩
  obtain ⟨w, h1, e1, c1⟩ := Cont.bind (δ := Unit) c
  refine ⟨M, h, ρ, r, rs, w, h1, e1, fun M1 H1 v x1 r1 v1 => ?_⟩
  have c2 := c1 M1 H1 x1
  split at c2
  · cases v1; exact ⟨_, rfl, c2.fin (.refl _ _) r1 rfl⟩
  · exact c2.no.elim
def cutW (m : Bool) (x : W) (lo hi : Option Int) (h : Hh) : Option (W × Hh) := match x with
  | .scr ns => mkL m ((cutG ns lo hi).map .int) h
  | x => match deref h x with
    | some (.list ds) => mkL m (cutG ds lo hi) h
    | some (.tuple ds) => ok (.tuple (cutG ds lo hi)) h
    | some (.str z) => if z.length ≤ sizeLine then ok (.str (cutS z lo hi)) h else none
    | _ => none
def fSl (m : Bool) (f : EM) (lo hi : OM) : EM := fun ρ h => obnd (f ρ h) fun w h1 => obnd (lo ρ h1) fun a h2 => obnd (hi ρ h2) fun b h3 => cutW m w a b h3
theorem cut_ints (ns : List Int) (lo hi : Option Int) {M : Mm} {H : Hp} : RDs M H (cutV (ns.map V.int) lo hi) ((cutG ns lo hi).map .int) := by
  have e : cutV (ns.map V.int) lo hi = (cutG ns lo hi).map V.int := by
    unfold cutV cutG
    rw [List.length_map, List.map_take, List.map_drop]
  rw [e]
  generalize cutG ns lo hi = l
  induction l with
  | nil => exact .nil
  | cons a t ih => exact .cons (.int a) ih
theorem cut_whole {α : Type} {xs : List α} {lo hi : Option Int} (e : HT.sIx xs.length 0 lo = 0 ∧ HT.sIx xs.length xs.length hi = xs.length) : cutG xs lo hi = xs := by
  unfold cutG
  rw [e.1, e.2]
  simp
def rSlB (K : PySem.W.Frag) : V → Option Int → Option Int → Hp → VK → Prop := fun x lo hi H Q => ∃ a vs, x = .ref a ∧ SqT K H a vs ∧
  ((HT.sIx vs.length 0 lo = 0 ∧ HT.sIx vs.length vs.length hi = vs.length → Q (.ref a) H) ∧ ∃ bb : Bool, ∀ p o, H p = none → o.dict = none → Q (.ref p) (upd H p (bareO bb o (cutV vs lo hi))))
theorem sl_tupB : SlR X (rSlB X.K) := by
  rintro pins s σ H x v vl vu lo hi sl Q I rx hs pl pu ⟨a, vs, rfl, hx, f1, bb, f2⟩
  by_cases hw : HT.sIx vs.length 0 lo = 0 ∧ HT.sIx vs.length vs.length hi = vs.length
  · exact sl_tupA pins s σ H _ v vl vu lo hi sl Q I rx hs pl pu ⟨a, vs, rfl, hx, f1, fun n => absurd hw n⟩
  · cases rx
    obtain ⟨l, r, ht, hz⟩ := I.tuple hx
    have hn : l.toArray.size = vs.length := by rw [List.size_toArray, r.length]
    refine ⟨"tuple", _, PyProof.Rows.slot_tuple_getitem.lookup, ht.typeIs, HT.getItem_tuple_cut ht hs pl pu (by rwa [hn]) ?_ (by rwa [hn])⟩
    rw [hn]
    exact ⟨.ref s.heap.objs.size, _, I.laid (t' := s.toks) (o := bareO bb _ (cutV vs lo hi)) (fun _ _ q => Heap.get?_push_of_some _ q) (Nat.le_refl _)
      (bare_ok bb (Heap.get?_push_size _ rfl) fun G => ⟨Nat.le_trans (cutV_length vs lo hi) hz, _, (r.drop _).take _, IsTup.new _ _⟩), rfl, f2 _ _ (I.hok.fresh (Nat.le_refl _)) rfl⟩
theorem d_slice (m : Bool) {a : Expr} {lo hi : Option Expr} {p2 pos : Pos} {f : EM} {fl fh : OM} (ha : DE X a f) (hl : DO X lo fl) (hh : DO X hi fh) : DE X (.Subscript a (.Slice lo hi none p2) pos) (fSl m f fl fh) :=
  (pe_slice (sl_list.or (sl_tupB.or sl_str)) ha hl hh).weak fun σ H Q => by
    rintro ⟨M, h, ρ, r, rs, c⟩
    obtain ⟨w, h1, e1, c1⟩ := Cont.bind (δ := Unit) c
    refine ⟨M, h, ρ, r, rs, w, h1, e1, fun M1 H1 v x1 r1 v1 => ⟨M1, h1, ρ, r1, rs.mono x1, ?_⟩⟩
    obtain ⟨w2, h2, e2, c2⟩ := Cont.bind (δ := Unit) (c1 M1 H1 x1)
    refine ⟨w2, h2, e2, fun M2 H2 v2 x2 r2 q2 => ⟨M2, h2, ρ, r2, (rs.mono x1).mono x2, ?_⟩⟩
    subst q2
    obtain ⟨w3, h3, e3, c3⟩ := Cont.bind (δ := Unit) (c2 M2 H2 x2)
    refine ⟨w3, h3, e3, fun M3 H3 v3 x3 r3 q3 => ?_⟩
    subst q3
    have c4 := c3 M3 H3 x3
    have v3' := (v1.mono x2).mono x3
    unfold cutW at c4
    split at c4
    · obtain ⟨b, o, rfl, _, hb⟩ := v3'
      exact .inl ⟨b, _, rfl, .inl (.inr ⟨o, hb⟩), fun p np => mkL_fin r3 np (cut_ints _ _ _) c4⟩
    · split at c4
      · rename_i ds e4
        obtain ⟨b, xs, rfl, hb, qb⟩ := deref_rr r3 v3' e4
        exact .inl ⟨b, xs, rfl, .of hb, fun p np => mkL_fin r3 np (qb.cut _ _) c4⟩
      · rename_i ds e4
        obtain ⟨b, xs, rfl, nb, hb, qb⟩ := rr_tup (deref_rr r3 v3' e4)
        refine .inr (.inl ⟨b, xs, rfl, hb.sq, fun e => ?_, _, fun p o np ho => mkB_fin r3 np (qb.cut _ _) ho c4⟩)
        rw [qb.length] at e
        rw [cut_whole e] at c4
        exact c4.here r3 (.tup nb hb qb)
      · rename_i z e4
        obtain rfl := rr_str (deref_rr r3 v3' e4)
        split at c4
        · rename_i hz
          exact .inr (.inr ⟨z, rfl, hz, c4.here r3 (.str _)⟩)
        · exact c4.no.elim
      · exact c4.no.elim
def dats : List W → Option (List D)
  | [] => some []
  | .dat d :: ws => (dats ws).map (d :: ·)
  | _ :: _ => none
@[simp] theorem dats_nil : dats [] = some [] := rfl
@[simp] theorem dats_cons (d : D) (ws : List W) : dats (.dat d :: ws) = (dats ws).map (d :: ·) := rfl
theorem rvs_dats {M : Mm} {H : Hp} : ∀ {vs : List V} {ws : List W} {ds : List D}, RVs M H vs ws → dats ws = some ds → RDs M H vs ds
  | _, _, _, .nil, e => by cases e; exact .nil
  | _, .dat d :: ws, _, .cons a t, e => by
    simp only [dats_cons, Option.map_eq_some_iff] at e
    obtain ⟨ds', e1, rfl⟩ := e
    exact .cons a (rvs_dats t e1)
  | _, .ref n :: ws, _, .cons a t, e => by cases e
  | _, .scr n :: ws, _, .cons a t, e => by cases e
  | _, .pack n :: ws, _, .cons a t, e => by cases e
  | _, .lock n :: ws, _, .cons a t, e => by cases e
  | _, .ins C fs :: ws, _, .cons a t, e => by cases e
  | _, .exc k C fs :: ws, _, .cons a t, e => by cases e
  | _, .row ds :: ws, _, .cons a t, e => by cases e
def lstW (m : Bool) (ws : List W) (h : Hh) : Option (W × Hh) := match dats ws with
  | some ds => if ds.length ≤ sizeLine then mkL m ds h else none
  | none => none
def tupW (ws : List W) (h : Hh) : Option (W × Hh) := match dats ws with
  | some ds => if ds.length ≤ sizeLine then ok (.tuple ds) h else none
  | none => none
def fA (sem : List W → Hh → Option (W × Hh)) (g : AM) : EM := fun ρ h => obnd (g ρ h) sem
theorem d_lst (m : Bool) {es : List Expr} {pos : Pos} {g : AM} (hg : DA X es g) : DE X (.List es pos) (fA (lstW m) g) := (pe_lst hg).weak fun σ H Q => by
  rintro ⟨M, h, ρ, r, rs, c⟩
  obtain ⟨w, h1, e1, c1⟩ := Cont.bind (δ := Unit) c
  refine ⟨M, h, ρ, r, rs, w, h1, e1, fun M1 H1 v x1 r1 v1 => ?_⟩
  have c2 := c1 M1 H1 x1
  unfold lstW at c2
  split at c2
  · rename_i ds e
    have q := rvs_dats v1 e
    split at c2
    · rename_i hz
      exact ⟨by rw [q.length]; exact hz, fun p np => mkL_fin r1 np q c2⟩
    · exact c2.no.elim
  · exact c2.no.elim
def tTupB (t : TA) : TE := fun σ H Q => t σ H fun xs H1 => xs.length ≤ sizeLine ∧ ∃ b : Bool, ∀ p o, H1 p = none → o.dict = none → Q (.ref p) (upd H1 p (bareO b o xs))
theorem pe_tupB {x1} {es : List Expr} {t : TA} {pos : Pos} (h : PA X es t) : PE X (.Tuple es x1 pos) (tTupB t) := by
  constructor
  intro pins s σ H Q I hq
  apply wpAny_Tuple_spliced
  refine thn (h.run pos pins s σ H _ I hq) fun us s1 ⟨xs, H1, I1, r, z, b, q⟩ => ⟨r.length ▸ z, ?_⟩
  have hn := I1.hok.fresh (Nat.le_refl s1.heap.objs.size)
  exact ⟨.ref s1.heap.objs.size, _, I1.laid (t' := s1.toks) (o := bareO b _ xs) (fun _ _ e => Heap.get?_push_of_some _ e) (Nat.le_refl _) (bare_ok b (Heap.get?_push_size _ rfl) fun G => ⟨z, us, r, IsTup.new _ _⟩), rfl, q _ _ hn rfl⟩
theorem d_tup {x1} {es : List Expr} {pos : Pos} {g : AM} (hg : DA X es g) : DE X (.Tuple es x1 pos) (fA tupW g) := (pe_tupB hg).weak fun σ H Q => by
  rintro ⟨M, h, ρ, r, rs, c⟩
  obtain ⟨w, h1, e1, c1⟩ := Cont.bind (δ := Unit) c
  refine ⟨M, h, ρ, r, rs, w, h1, e1, fun M1 H1 v x1 r1 v1 => ?_⟩
  have c2 := c1 M1 H1 x1
  unfold tupW at c2
  split at c2
  · rename_i ds e
    have q := rvs_dats v1 e
    split at c2
    · rename_i hz
      exact ⟨by rw [q.length]; exact hz, callD ds, fun p o np ho => mkB_fin r1 np q ho c2⟩
    · exact c2.no.elim
  · exact c2.no.elim
end
end DL
set_option maxRecDepth 100000
set_option maxHeartbeats 4000000
namespace DL
open PySem PySem.Spec PyProof.Rows L2
def SemA (r : List V → Hp → VK → Prop) (sem : List W → Hh → Option (W × Hh)) : Prop := ∀ (M : Mm) (H : Hp) (h : Hh) (vs : List V) (ws : List W) (Q : VK), Rep M H h → RVs M H vs ws → Cont RV (sem ws h) M H Q → r vs H Q
theorem call_imp {r : List V → Hp → VK → Prop} {sem : List W → Hh → Option (W × Hh)} {g : AM} (hs : SemA r sem) : ∀ σ H Q, tE (fA sem g) σ H Q → tCB r (tA g) σ H Q := fun σ H Q => by
  rintro ⟨M, h, ρ, r, rs, c⟩
  obtain ⟨w, h1, e1, c1⟩ := Cont.bind (δ := Unit) c
  exact ⟨M, h, ρ, r, rs, w, h1, e1, fun M1 H1 v x1 r1 v1 => hs M1 H1 h1 v w Q r1 v1 (c1 M1 H1 x1)⟩
section
variable {X : Cx}
theorem d_callB {x : Str} {p pos : Pos} {e : Expr} {es : List Expr} {id : String} {r : List V → Hp → VK → Prop} {sem : List W → Hh → Option (W × Hh)} {g : AM} (hc : CallR X (.builtin id) r) (hs : SemA r sem) (hm : X.mg x = none) (hv : bootBuiltins x = some (.builtin id)) (ha : DA X (e :: es) g)
    (hg : Gl X x := by rfl) (hn : x ≠ "__name__" := by decide) (hdb : (x == ("__debug__" : Str)) = false := by decide) (he : starEach (e :: es) X.env = (false, eval e X.env) :: starEach es X.env := by rfl) (hpl : (backTo pos (starEach es X.env)).any (·.1) = false := by rfl) :
    DE X (.Call (.Name x p) (e :: es) [] pos) (fA sem g) := (pe_callB hc hg hm hv ha hn hdb he hpl).weak (call_imp hs)
theorem d_callT {x : Str} {p pos : Pos} {e : Expr} {es : List Expr} {T : String} {r : List V → Hp → VK → Prop} {sem : List W → Hh → Option (W × Hh)} {g : AM} (hc : CallR X (.type T) r) (hs : SemA r sem) (hm : X.mg x = none) (hv : bootBuiltins x = some (.type T)) (ha : DA X (e :: es) g)
    (hg : Gl X x := by rfl) (hn : x ≠ "__name__" := by decide) (hdb : (x == ("__debug__" : Str)) = false := by decide) (he : starEach (e :: es) X.env = (false, eval e X.env) :: starEach es X.env := by rfl) (hpl : (backTo pos (starEach es X.env)).any (·.1) = false := by rfl) :
    DE X (.Call (.Name x p) (e :: es) [] pos) (fA sem g) := (pe_callTy hc hg hm hv ha hn hdb he hpl).weak (call_imp hs)
theorem rvs1 {M : Mm} {H : Hp} {vs : List V} {w : W} (r : RVs M H vs [w]) : ∃ v, vs = [v] ∧ RV M H v w := by
  cases r with
  | cons a t => cases t; exact ⟨_, rfl, a⟩
theorem rvs2 {M : Mm} {H : Hp} {vs : List V} {w u : W} (r : RVs M H vs [w, u]) : ∃ v v', vs = [v, v'] ∧ RV M H v w ∧ RV M H v' u := by
  cases r with
  | cons a t => cases t with
    | cons b t => cases t; exact ⟨_, _, rfl, a, b⟩
def lenW (ws : List W) (h : Hh) : Option (W × Hh) := match ws with
  | [.scr ns] => ok (.int ns.length) h
  | [w] => match deref h w with
    | some (.list ds) => ok (.int ds.length) h
    | some (.tuple ds) => ok (.int ds.length) h
    | some (.str z) => if z.length ≤ sizeLine then ok (.int z.length) h else none
    | some (.dict es) => if isT es = true then none else ok (.int es.length) h
    | _ => none
  | _ => none
theorem RDk.length {M : Mm} {H : Hp} : ∀ {kvs : List (Key × V)} {es : List (D × D)}, RDk M H kvs es → kvs.length = es.length
  | _, _, .nil => rfl
  | _, _, .cons _ r => by rw [List.length_cons, List.length_cons, r.length]
theorem s_len : SemA (fun xs H Q => (∃ x n, xs = [x] ∧ LenV X.K x H n ∧ Q (.int n) H) ∨ ∃ d kvs, xs = [.ref d] ∧ H d = some (.dK kvs) ∧ Q (.int (kvs.length : Nat)) H) lenW := by
  intro M H h vs ws Q rep rv c
  unfold lenW at c
  split at c
  · rename_i ns
    obtain ⟨v, rfl, r⟩ := rvs1 rv
    obtain ⟨a, o, rfl, _, ha⟩ := r
    exact .inl ⟨_, ns.length, rfl, .inl ⟨_, .inl (.inr ⟨o, ha⟩), by simp⟩, c.here rep (.int _)⟩
  · obtain ⟨v, rfl, r⟩ := rvs1 rv
    split at c
    · rename_i ds e
      obtain ⟨a, xs, rfl, ha, q⟩ := deref_rr rep r e
      exact .inl ⟨_, ds.length, rfl, .inl ⟨_, .of ha, q.length.symm⟩, c.here rep (.int _)⟩
    · rename_i ds e
      obtain ⟨a, xs, rfl, _, ha, q⟩ := rr_tup (deref_rr rep r e)
      exact .inl ⟨_, ds.length, rfl, .inr ⟨_, ha.sq, q.length.symm⟩, c.here rep (.int _)⟩
    · rename_i z e
      obtain rfl := rr_str (deref_rr rep r e)
      split at c
      · rename_i hz
        exact .inl ⟨_, z.length, rfl, ⟨hz, rfl⟩, c.here rep (.int _)⟩
      · exact c.no.elim
    · rename_i es e
      split at c
      · exact c.no.elim
      · rename_i ht
        rcases deref_rr rep r e with ⟨a, kvs, rfl, ha, q⟩ | ⟨a, kvs, es', rfl, rfl, ha, q⟩
        · rw [← q.length] at c
          exact .inr ⟨a, kvs, rfl, ha, c.here rep (.int _)⟩
        · exact absurd rfl ht
    · exact c.no.elim
  · exact c.no.elim
theorem d_len (hm : X.mg "len" = none) {p pos : Pos} {e : Expr} {g : AM} (ha : DA X [e] g) (hg : Gl X "len" := by rfl) (he : starEach [e] X.env = (false, eval e X.env) :: starEach [] X.env := by rfl) (hpl : (backTo pos (starEach [] X.env)).any (·.1) = false := by rfl) : DE X (.Call (.Name "len" p) [e] [] pos) (fA lenW g) :=
  d_callB (call_len.or call_lenD) s_len hm boot_len ha hg (by decide) (by decide) he hpl
def absW (ws : List W) (h : Hh) : Option (W × Hh) := match ws with
  | [.dat (.int i)] => ok (.int (if i < 0 then -i else i)) h
  | _ => none
theorem s_abs : SemA (fun xs H Q => ∃ i, xs = [.int i] ∧ Q (.int (if i < 0 then -i else i)) H) absW := by
  intro M H h vs ws Q rep rv c
  unfold absW at c
  split at c
  · obtain ⟨v, rfl, r⟩ := rvs1 rv
    cases (show RD M H _ _ from r)
    exact ⟨_, rfl, c.here rep (.int _)⟩
  · exact c.no.elim
def intC (ws : List W) (h : Hh) : Option (W × Hh) := match ws with
  | [.dat (.int i)] => ok (.int i) h
  | [.dat (.bool b)] => ok (.int (if b = true then 1 else 0)) h
  | _ => none
theorem s_intC : SemA (fun xs H Q => (∃ i, xs = [.int i] ∧ Q (.int i) H) ∨ ∃ k, xs = [.bl k] ∧ Q (.int (if k then 1 else 0)) H) intC := by
  intro M H h vs ws Q rep rv c
  unfold intC at c
  split at c
  · obtain ⟨v, rfl, r⟩ := rvs1 rv
    cases (show RD M H _ _ from r)
    exact .inl ⟨_, rfl, c.here rep (.int _)⟩
  · obtain ⟨v, rfl, r⟩ := rvs1 rv
    cases (show RD M H _ _ from r)
    exact .inr ⟨_, rfl, c.here rep (.int _)⟩
  · exact c.no.elim
def maxW (ws : List W) (h : Hh) : Option (W × Hh) := match ws with
  | [.dat (.int i), .dat (.int j)] => ok (.int (if j > i then j else i)) h
  | _ => none
def minW (ws : List W) (h : Hh) : Option (W × Hh) := match ws with
  | [.dat (.int i), .dat (.int j)] => ok (.int (if j < i then j else i)) h
  | _ => none
theorem s_max : SemA (fun xs H Q => ∃ i j, xs = [.int i, .int j] ∧ Q (.int (if j > i then j else i)) H) maxW := by
  intro M H h vs ws Q rep rv c
  unfold maxW at c
  split at c
  · obtain ⟨v, v', rfl, r, r'⟩ := rvs2 rv
    cases (show RD M H _ _ from r)
    cases (show RD M H _ _ from r')
    exact ⟨_, _, rfl, c.here rep (.int _)⟩
  · exact c.no.elim
theorem s_min : SemA (fun xs H Q => ∃ i j, xs = [.int i, .int j] ∧ Q (.int (if j < i then j else i)) H) minW := by
  intro M H h vs ws Q rep rv c
  unfold minW at c
  split at c
  · obtain ⟨v, v', rfl, r, r'⟩ := rvs2 rv
    cases (show RD M H _ _ from r)
    cases (show RD M H _ _ from r')
    exact ⟨_, _, rfl, c.here rep (.int _)⟩
  · exact c.no.elim
def bools : List D → Option (List Bool)
  | [] => some []
  | .bool b :: ds => (bools ds).map (b :: ·)
  | _ :: _ => none
def intsD : List D → Option (List Int)
  | [] => some []
  | .int b :: ds => (intsD ds).map (b :: ·)
  | _ :: _ => none
theorem rds_bools {M : Mm} {H : Hp} : ∀ {vs : List V} {ds : List D} {bs : List Bool}, RDs M H vs ds → bools ds = some bs → vs = bs.map V.bl
  | _, _, _, .nil, e => by cases e; rfl
  | _, .bool b :: ds, _, .cons a t, e => by
    simp only [bools, Option.map_eq_some_iff] at e
    obtain ⟨bs', e1, rfl⟩ := e
    cases a
    rw [List.map_cons, ← rds_bools t e1]
  | _, .none :: ds, _, .cons a t, e => by cases e
  | _, .int _ :: ds, _, .cons a t, e => by cases e
  | _, .str _ :: ds, _, .cons a t, e => by cases e
  | _, .list _ :: ds, _, .cons a t, e => by cases e
  | _, .tuple _ :: ds, _, .cons a t, e => by cases e
  | _, .dict _ :: ds, _, .cons a t, e => by cases e
def lW {α : Type} (cv : List D → Option (List α)) (k : List α → D) (ws : List W) (h : Hh) : Option (W × Hh) := match ws with
  | [w] => match deref h w with
    | some (.list ds) => match cv ds with
      | some bs => ok (k bs) h
      | none => none
    | _ => none
  | _ => none
def allW := lW bools fun bs => .bool (bs.all id)
def anyW := lW bools fun bs => .bool (bs.any id)
def sumW := lW intsD fun bs => .int bs.sum
theorem s_lW {α : Type} {cv : List D → Option (List α)} {k : List α → D} {kv : List α → V} {em : α → V} (h1 : ∀ {M : Mm} {H : Hp} {vs : List V} {ds : List D} {bs : List α}, RDs M H vs ds → cv ds = some bs → vs = bs.map em) (h2 : ∀ M H bs, RD M H (kv bs) (k bs)) :
    SemA (fun vs H Q => ∃ (a : Addr) (bs : List α), vs = [V.ref a] ∧ SqL X.K H a (bs.map em) ∧ Q (kv bs) H) (lW cv k) := by
  intro M H h vs ws Q rep rv c
  unfold lW at c
  split at c
  · obtain ⟨v, rfl, r⟩ := rvs1 rv
    split at c
    · rename_i ds e
      obtain ⟨a, xs, rfl, ha, q⟩ := deref_rr rep r e
      split at c
      · rename_i bs e2
        have e3 := h1 q e2
        subst e3
        exact ⟨a, bs, rfl, .of ha, c.here rep (h2 _ _ _)⟩
      · exact c.no.elim
    · exact c.no.elim
  · exact c.no.elim
theorem s_all : SemA (rAll X.K) allW := s_lW rds_bools fun _ _ _ => .bl _
def tupleW (ws : List W) (h : Hh) : Option (W × Hh) := match ws with
  | [w] => match deref h w with
    | some (.list ds) => ok (.tuple ds) h
    | some (.tuple ds) => ok (.tuple ds) h
    | _ => none
  | _ => none
def rTupB (K : PySem.W.Frag) : List V → Hp → VK → Prop := fun xs H Q => ∃ p ys, xs = [.ref p] ∧ ((SqL K H p ys ∧ ∃ b : Bool, ∀ l o, H l = none → o.dict = none → Q (.ref l) (upd H l (bareO b o ys))) ∨ (SqT K H p ys ∧ Q (.ref p) H))
theorem call_tupB : CallR X (.type "tuple") (rTupB X.K) := by
  intro pins s σ H xs us Q I r h
  obtain ⟨p, ys, rfl, h⟩ := h
  obtain ⟨u, rfl, rx⟩ := vals1 r
  cases rx
  rcases h with ⟨hq, b, q⟩ | ⟨hq, q⟩
  · obtain ⟨its, r', pl, hz⟩ := I.list hq
    have hlen := r'.length
    apply call_tuple_list pl.isList _ (by simp only [List.size_toArray] <;> omega)
    intro h' kp
    have I1 : Inv X pins σ H { s with heap := h' } := I.kept (t' := s.toks) kp
    exact ⟨.ref h'.objs.size, _, I1.laid (t' := s.toks) (o := bareO b _ ys) (fun _ _ e => Heap.get?_push_of_some _ e) (Nat.le_refl _) (bare_ok b (Heap.get?_push_size _ rfl) fun G => ⟨hz, its, r', IsTup.new _ _⟩), rfl, q _ _ (I1.hok.fresh (Nat.le_refl _)) rfl⟩
  · obtain ⟨its, r', pl, hz⟩ := I.tuple hq
    exact call_tuple_same pl ⟨.ref p, H, I, rfl, q⟩
theorem s_tuple : SemA (rTupB X.K) tupleW := by
  intro M H h vs ws Q rep rv c
  unfold tupleW at c
  split at c
  · obtain ⟨v, rfl, r⟩ := rvs1 rv
    split at c
    · rename_i ds e
      obtain ⟨a, xs, rfl, ha, q⟩ := deref_rr rep r e
      exact ⟨a, xs, rfl, .inl ⟨.of ha, callD ds, fun l o nl ho => mkB_fin rep nl q ho c⟩⟩
    · rename_i ds e
      obtain ⟨a, xs, rfl, na, ha, q⟩ := rr_tup (deref_rr rep r e)
      exact ⟨a, xs, rfl, .inr ⟨ha.sq, c.here rep (.tup na ha q)⟩⟩
    · exact c.no.elim
  · exact c.no.elim
def listW (m : Bool) (ws : List W) (h : Hh) : Option (W × Hh) := match ws with
  | [w] => match deref h w with
    | some (.list ds) => mkL m ds h
    | some (.tuple ds) => mkL m ds h
    | _ => none
  | _ => none
theorem s_list (m : Bool) : SemA (fun xs H Q => ∃ p ys, xs = [.ref p] ∧ (SqL X.K H p ys ∨ SqT X.K H p ys) ∧ ∀ l, H l = none → Q (.ref l) (upd H l (.lst ys))) (listW m) := by
  intro M H h vs ws Q rep rv c
  unfold listW at c
  split at c
  · obtain ⟨v, rfl, r⟩ := rvs1 rv
    split at c
    · rename_i ds e
      obtain ⟨a, xs, rfl, ha, q⟩ := deref_rr rep r e
      exact ⟨a, xs, rfl, .inl (.of ha), fun l nl => mkL_fin rep nl q c⟩
    · rename_i ds e
      obtain ⟨a, xs, rfl, na, ha, q⟩ := rr_tup (deref_rr rep r e)
      exact ⟨a, xs, rfl, .inr ha.sq, fun l nl => mkL_fin rep nl q c⟩
    · exact c.no.elim
  · exact c.no.elim
def putK' (es : List (D × D)) (k : Key) (v : D) : List (D × D) := if (getK es k).isSome = true then es.map (fun e => if dKey e.1 = some k then (e.1, v) else e) else es ++ [(kP k, v)]
def pairsK : List D → Option (List (Key × D))
  | [] => some []
  | .tuple [k, v] :: ds => match dKey k, pairsK ds with
    | some k, some r => some ((k, v) :: r)
    | _, _ => none
  | _ :: _ => none
def mergeD (es : List (D × D)) (ps : List (Key × D)) : List (D × D) := ps.foldl (fun acc p => putK' acc p.1 p.2) es
section
variable {M : Mm} {H : Hp}
theorem RDo.some_iff {o : Option V} {p : Option D} (r : RDo M H o p) : o.isSome = p.isSome := by
  cases o <;> cases p <;> first | rfl | exact r.elim
theorem RDk.snoc {k : Key} {v : V} {d : D} (q : RD M H v d) : ∀ {kvs : List (Key × V)} {es : List (D × D)}, RDk M H kvs es → RDk M H (kvs ++ [(k, v)]) (es ++ [(kP k, d)])
  | _, _, .nil => .cons q .nil
  | _, _, .cons a t => .cons a (RDk.snoc q t)
theorem RDk.repl {k : Key} {v : V} {d : D} (q : RD M H v d) : ∀ {kvs : List (Key × V)} {es : List (D × D)}, RDk M H kvs es → RDk M H (kvs.map fun kv => if kv.1 = k then (kv.1, v) else kv) (es.map fun e => if dKey e.1 = some k then (e.1, d) else e)
  | _, _, .nil => .nil
  | _, _, .cons (k := j) a t => by
    simp only [List.map_cons, dKey_kP, Option.some.injEq]
    by_cases e : j = k
    · rw [if_pos e, if_pos e]; exact .cons q (RDk.repl q t)
    · rw [if_neg e, if_neg e]; exact .cons a (RDk.repl q t)
theorem RDk.put {kvs : List (Key × V)} {es : List (D × D)} (r : RDk M H kvs es) (k : Key) {v : V} {d : D} (q : RD M H v d) : RDk M H (putK kvs k v) (putK' es k d) := by
  unfold putK putK'
  rw [valV_any, (r.val k).some_iff]
  split
  · exact r.repl q
  · exact r.snoc q
theorem RDk.merge : ∀ {ps : List (Key × V)} {qs : List (Key × D)} {kvs : List (Key × V)} {es : List (D × D)}, Paired (fun p q => p.1 = q.1 ∧ RD M H p.2 q.2) ps qs → RDk M H kvs es → RDk M H (mergeK kvs ps) (mergeD es qs)
  | _, _, _, _, .nil, r => r
  | (k, v) :: ps, (k', d) :: qs, kvs, es, .cons ⟨e, q⟩ t, r => by
    have e' : k = k' := e
    subst e'
    show RDk M H (mergeK (putK kvs k v) ps) (mergeD (putK' es k d) qs)
    exact RDk.merge t (r.put k q)
theorem pairs_ok : ∀ {xs : List V} {ds : List D} {qs : List (Key × D)}, RDs M H xs ds → pairsK ds = some qs → ∃ (ps : List Addr) (kvs : List (Key × V)), xs = ps.map V.ref ∧ Paired (fun p kv => Rd H p (.tup [kV kv.1, kv.2])) ps kvs ∧ Paired (fun (p : Key × V) (q : Key × D) => p.1 = q.1 ∧ RD M H p.2 q.2) kvs qs
  | _, [], _, r, e => by
    cases e; cases r
    exact ⟨[], [], rfl, .nil, .nil⟩
  | _, d :: ds, qs, r, e => by
    unfold pairsK at e
    split at e
    · cases e
      rename_i h1
      cases h1
    · rename_i k v ds' h0
      cases h0
      split at e
      · rename_i k' r' e1 e2
        cases e
        cases r with
        | cons a t =>
          obtain ⟨ps, kvs, hx, h1, h2⟩ := pairs_ok t e2
          have := kP_dKey e1
          subst this
          cases a with
          | tup n ha ra =>
            cases ra with
            | cons rk rr =>
              cases rr with
              | cons rv rr =>
                cases rr
                have ha := ha.rd
                rw [rd_kP rk] at ha
                exact ⟨_ :: ps, (k', _) :: kvs, by rw [hx]; rfl, .cons ha h1, .cons ⟨rfl, rv⟩ h2⟩
      · cases e
    · cases e
end
def mkK (m : Bool) (es : List (D × D)) (h : Hh) : Option (W × Hh) := if m = true then some (.ref h.length, h ++ [some (.dic es)]) else some (.dat (.dict es), h)
theorem mkK_fin {m : Bool} {es : List (D × D)} {h : Hh} {M : Mm} {H : Hp} {Q : VK} {p : Addr} {kvs : List (Key × V)} (rep : Rep M H h) (n : H p = none) (r : RDk M H kvs es) (c : Cont RV (mkK m es h) M H Q) : Q (.ref p) (upd H p (.dK kvs)) := by
  cases m with
  | false => exact c.fin (ext_new n) (rep.upd_new n) (RD.dic (rep.new n) upd_same (r.mono (ext_new n).ext))
  | true => exact c.fin (ext_add n) (rep.add n ⟨kvs, upd_same, r.mono (ext_add n).ext⟩) ⟨p, by simp [Mm.more, ← rep.len], rfl⟩
def dictW (m : Bool) (ws : List W) (h : Hh) : Option (W × Hh) := match ws with
  | [w] => match deref h w with
    | some (.list ds) => match pairsK ds with
      | some qs => mkK m (mergeD [] qs) h
      | none => none
    | some (.dict es) => if isT es = true then none else mkK m es h
    | _ => none
  | _ => none
section
variable {X : Cx}
theorem s_dict (m : Bool) : SemA (fun xs H Q => (∃ (a : Addr) (ps : List Addr) (kvs : List (Key × V)), xs = [.ref a] ∧ SqL X.K H a (ps.map V.ref) ∧ Paired (fun p kv => SqT X.K H p [kV kv.1, kv.2]) ps kvs ∧
    ∀ p, H p = none → Q (.ref p) (upd H p (.dK (mergeK [] kvs)))) ∨ ∃ (a : Addr) (kvs : List (Key × V)), xs = [.ref a] ∧ Rd H a (.dK kvs) ∧ ∀ p, H p = none → Q (.ref p) (upd H p (.dK kvs))) (dictW m) := by
  intro M H h vs ws Q rep rv c
  unfold dictW at c
  split at c
  · obtain ⟨v, rfl, r⟩ := rvs1 rv
    split at c
    · rename_i ds e
      obtain ⟨a, xs, rfl, ha, q⟩ := deref_rr rep r e
      split at c
      · rename_i qs e2
        obtain ⟨ps, kvs, rfl, h1, h2⟩ := pairs_ok q e2
        exact .inl ⟨a, ps, kvs, rfl, .of ha, Paired.mapP h1 fun _ _ z => .inl z, fun p np => mkK_fin rep np (RDk.merge h2 .nil) c⟩
      · exact c.no.elim
    · rename_i es e
      split at c
      · exact c.no.elim
      · rename_i ht
        rcases deref_rr rep r e with ⟨a, kvs, rfl, ha, q⟩ | ⟨a, kvs, es', rfl, rfl, ha, q⟩
        · exact .inr ⟨a, kvs, rfl, .of ha, fun p np => mkK_fin rep np q c⟩
        · exact absurd rfl ht
    · exact c.no.elim
  · exact c.no.elim
def tyN : D → String
  | .none => "NoneType"
  | .bool _ => "bool"
  | .int _ => "int"
  | .str _ => "str"
  | .list _ => "list"
  | .tuple _ => "tuple"
  | .dict _ => "dict"
def isN (n t : String) : Bool := decide (n = t) || (decide (n = "bool") && decide (t = "int"))
def isT1 (t : String) (d : D) : Bool := isN (tyN d) t
theorem kitN : ∀ n ∈ ["NoneType", "bool", "int", "str", "list", "tuple", "dict"], ∀ t ∈ ["bool", "int", "str", "list", "tuple", "dict"], kitB n t = some (isN n t) := by decide +kernel
theorem rr_ty {K : PySem.W.Frag} {M : Mm} {H : Hp} {v : V} : ∀ {d : D}, (∀ es, d = .dict ((.none, .none) :: es) → False) → RR M H v d → TyX K H v (.type (tyN d))
  | .none, _, r => by rw [rr_non r]; exact .base .non
  | .bool b, _, r => by rw [rr_bl r]; exact .base (.bl b)
  | .int b, _, r => by rw [rr_int r]; exact .base (.int b)
  | .str b, _, r => by rw [rr_str r]; exact .base (.str b)
  | .list b, _, ⟨a, xs, e, h, _⟩ => by rw [e]; exact .base (.lst h)
  | .tuple b, _, r => by
    obtain ⟨a, xs, e, _, h, _⟩ := rr_tup r
    rw [e]
    rcases h with ⟨_, h⟩ | ⟨_, o, _, h⟩
    · exact .base (.tup h)
    · exact .fTuple h
  | .dict b, _, .inl ⟨a, xs, e, h, _⟩ => by rw [e]; exact .base (.dK h)
  | .dict b, n0, .inr ⟨a, xs, es, e0, e, h, _⟩ => by subst e0; exact (n0 _ rfl).elim
theorem kit1 (t : String) (ht : t = "int" ∨ t = "bool" ∨ t = "str" ∨ t = "list" ∨ t = "tuple" ∨ t = "dict") (d : D) : kitB (tyN d) t = some (isT1 t d) := by
  refine kitN (tyN d) ?_ t ?_
  · cases d <;> simp [tyN]
  · rcases ht with rfl | rfl | rfl | rfl | rfl | rfl <;> simp
def isiW (ts : List String) (w : W) (h : Hh) : Option (W × Hh) := match deref h w with
  | some (.dict ((.none, .none) :: _)) => none
  | some d => bok (ts.any fun t => isT1 t d) h
  | none => none
def f1 (sem : W → Hh → Option (W × Hh)) (f : EM) : EM := fun ρ h => obnd (f ρ h) sem
theorem d_isi (hm : X.mg "isinstance" = none) {t : Str} {T : String} (hmt : X.mg t = none) (hv : bootBuiltins t = some (.type T)) (ht : T = "int" ∨ T = "bool" ∨ T = "str" ∨ T = "list" ∨ T = "tuple" ∨ T = "dict") {p pt pos : Pos} {e : Expr} {f : EM} (he : DE X e f)
    (hg : Gl X "isinstance" := by rfl) (hgt : Gl X t := by rfl) (hnt : t ≠ "__name__" := by decide) (hdt : (t == ("__debug__" : Str)) = false := by decide)
    (h1 : starEach [e, .Name t pt] X.env = (false, eval e X.env) :: starEach [.Name t pt] X.env := by rfl) (h2 : starEach [.Name t pt] X.env = (false, eval (.Name t pt) X.env) :: starEach [] X.env := by rfl)
    (hpl : (backTo pos (starEach [.Name t pt] X.env)).any (·.1) = false := by rfl) : DE X (.Call (.Name "isinstance" p) [e, .Name t pt] [] pos) (f1 (isiW [T]) f) :=
  (pe_callB call_isi hg hm boot_isinstance (pa_cons he (pa_cons (pe_bltn (v := .ty T) hgt hmt hv rfl hnt hdt) pa_nil h2) h1) (by decide) (by decide) h1 hpl).weak fun σ H Q => by
    rintro ⟨M, h, ρ, r, rs, c⟩
    obtain ⟨w, h1, e1, c1⟩ := Cont.bind (δ := Unit) c
    refine ⟨M, h, ρ, r, rs, w, h1, e1, fun M1 H1 v x1 r1 v1 => ?_⟩
    have c2 := c1 M1 H1 x1
    unfold isiW at c2
    split at c2
    · exact c2.no.elim
    · rename_i d n0 e
      have q := c2.here r1 (.bl _)
      refine ⟨v, .ty T, _, _, _, rfl, .ty T, (rr_ty n0 (deref_rr r1 v1 e)), kit_ty (kit1 T ht d), ?_⟩
      simpa using q
    · exact c2.no.elim
theorem d_isi2 (hm : X.mg "isinstance" = none) {t t' : Str} {T T' : String} (hmt : X.mg t = none) (hv : bootBuiltins t = some (.type T)) (ht : T = "int" ∨ T = "bool" ∨ T = "str" ∨ T = "list" ∨ T = "tuple" ∨ T = "dict") (hmt' : X.mg t' = none) (hv' : bootBuiltins t' = some (.type T')) (ht' : T' = "int" ∨ T' = "bool" ∨ T' = "str" ∨ T' = "list" ∨ T' = "tuple" ∨ T' = "dict") {p pt pt' ptt pos : Pos} {kt} {e : Expr} {f : EM} (he : DE X e f)
    (hg : Gl X "isinstance" := by rfl) (hgt : Gl X t := by rfl) (hnt : t ≠ "__name__" := by decide) (hdt : (t == ("__debug__" : Str)) = false := by decide) (hgt' : Gl X t' := by rfl) (hnt' : t' ≠ "__name__" := by decide) (hdt' : (t' == ("__debug__" : Str)) = false := by decide)
    (h1 : starEach [e, .Tuple [.Name t pt, .Name t' pt'] kt ptt] X.env = (false, eval e X.env) :: starEach [.Tuple [.Name t pt, .Name t' pt'] kt ptt] X.env := by rfl)
    (h2 : starEach [.Tuple [.Name t pt, .Name t' pt'] kt ptt] X.env = (false, eval (.Tuple [.Name t pt, .Name t' pt'] kt ptt) X.env) :: starEach [] X.env := by rfl)
    (h3 : starEach [.Name t pt, .Name t' pt'] X.env = (false, eval (.Name t pt) X.env) :: starEach [.Name t' pt'] X.env := by rfl) (h4 : starEach [.Name t' pt'] X.env = (false, eval (.Name t' pt') X.env) :: starEach [] X.env := by rfl)
    (hpl : (backTo pos (starEach [.Tuple [.Name t pt, .Name t' pt'] kt ptt] X.env)).any (·.1) = false := by rfl) : DE X (.Call (.Name "isinstance" p) [e, .Tuple [.Name t pt, .Name t' pt'] kt ptt] [] pos) (f1 (isiW [T, T']) f) :=
  (pe_callB call_isiT hg hm boot_isinstance (pa_cons he (pa_cons (pe_tup (pa_cons (pe_bltn (v := .ty T) hgt hmt hv rfl hnt hdt) (pa_cons (pe_bltn (v := .ty T') hgt' hmt' hv' rfl hnt' hdt') pa_nil h4) h3)) pa_nil h2) h1) (by decide) (by decide) h1 hpl).weak fun σ H Q => by
    rintro ⟨M, h, ρ, r, rs, c⟩
    obtain ⟨w, h1, e1, c1⟩ := Cont.bind (δ := Unit) c
    refine ⟨M, h, ρ, r, rs, w, h1, e1, fun M1 H1 v x1 r1 v1 => ⟨by show 2 ≤ sizeLine; decide, fun tp ntp => ?_⟩⟩
    have c2 := c1 M1 H1 x1
    unfold isiW at c2
    split at c2
    · exact c2.no.elim
    · rename_i d n0 e
      have r2 := r1.upd_new (o := .tup [.ty T, .ty T']) ntp
      have q := c2.fin (v := .bl _) (ext_new ntp) r2 (.bl _)
      refine ⟨v, tp, [.ty T, .ty T'], _, [.type T, .type T'], _, rfl, upd_same, .cons (.ty T) (.cons (.ty T') .nil), (rr_ty n0 (deref_rr r2 (v1.mono (ext_new ntp)) e)), ?_, q⟩
      refine kitAny_cons (kit_ty (kit1 T ht d)) (fun hb => kitAny_cons (r := isT1 T' d) (kit_ty (kit1 T' ht' d)) (fun hb' => by rw [hb']; rfl) (fun hb' => hb') |>.trans ?_) (fun hb => ?_)
      · simp [hb]
      · simp [hb]
    · exact c2.no.elim
end
end
end DL
set_option maxRecDepth 100000
set_option maxHeartbeats 4000000
namespace DL
open PySem PySem.Spec PyProof.Rows L2
def flatD : D → Bool
  | .none => true
  | .bool _ => true
  | .int _ => true
  | .str _ => true
  | _ => false
theorem rd_flat {M : Mm} {H : Hp} {v : V} {d : D} (r : RD M H v d) (f : flatD d = true) : flatV v = true := by
  cases d <;> first | (cases r; rfl) | cases f
theorem rds_flat {M : Mm} {H : Hp} : ∀ {vs : List V} {ds : List D}, RDs M H vs ds → ds.all flatD = true → vs.all flatV = true
  | _, _, .nil, _ => rfl
  | _, _, .cons a t, f => by
    rw [List.all_cons, Bool.and_eq_true] at f
    rw [List.all_cons, rd_flat a f.1, rds_flat t f.2]; rfl
theorem eqV_eqv {M : Mm} {H : Hp} {x y : V} {a b : D} (ra : RD M H x a) (rb : RD M H y b) (fa : flatD a = true) (fb : flatD b = true) : eqV x y = PyData.eqv a b := by
  cases a <;> cases b <;> first | (exfalso; simp [flatD] at fa; done) | (exfalso; simp [flatD] at fb; done) | (cases ra; cases rb; simp [eqV, PyData.eqv])
theorem inV_eq {M : Mm} {H : Hp} {x : V} {d : D} (r : RD M H x d) (f : flatD d = true) : ∀ {vs : List V} {ds : List D}, RDs M H vs ds → ds.all flatD = true → inV x vs = ds.any fun y => PyData.eqv y d
  | _, _, .nil, _ => rfl
  | _, _, .cons a t, q => by
    rw [List.all_cons, Bool.and_eq_true] at q
    have ih := inV_eq r f t q.2
    unfold inV at ih ⊢
    rw [List.any_cons, List.any_cons, ih, eqV_eqv a r q.1 f]
def inW (neg : Bool) (x y : W) (h : Hh) : Option (W × Hh) := match x with
  | .dat d => match deref h y with
    | some (.dict es) => match getD es d with
      | some o => bok (if neg = true then !o.isSome else o.isSome) h
      | none => none
    | some (.list ds) => if (flatD d && ds.all flatD) = true then bok (if neg = true then !ds.any (fun z => PyData.eqv z d) else ds.any fun z => PyData.eqv z d) h
      else if (shp d && shp (.list ds)) = true then bok (if neg = true then !ds.any (fun z => PyData.eqv z d) else ds.any fun z => PyData.eqv z d) h else none
    | some (.tuple ds) => if (flatD d && ds.all flatD) = true then bok (if neg = true then !ds.any (fun z => PyData.eqv z d) else ds.any fun z => PyData.eqv z d) h else none
    | some (.str z) => match d with
      | .str ⟨⟨[c]⟩⟩ => bok (if neg = true then !decide (c ∈ z.cps.toList) else decide (c ∈ z.cps.toList)) h
      | _ => none
    | _ => none
  | _ => none
section
variable {X : Cx}
def rInDict (neg : Bool) : R2 := fun y x H Q => ∃ a o, x = .ref a ∧ DGet H a y o ∧ Q (.bl (if neg = true then !o.isSome else o.isSome)) H
theorem op_notInDict (hu : X.A.units + 1 < cLine) : OpR X (compareOp .NotIn) (rInDict true) := by
  intro pins s σ H x y v u Q I rx ry q
  obtain ⟨a, o, rfl, g, q⟩ := q
  obtain rfl : u = Value.ref a := ry
  exact d_notIn hu I g rx fun s' I' => ⟨.bl _, H, I', rfl, q⟩
def rInA (K : PySem.W.Frag) (neg : Bool) : R2 := fun x y H Q => rIn K neg x y H Q ∨ rInDict neg x y H Q ∨
  (∃ d ds, Dp K H x d ∧ Dp K H y (.list ds) ∧ SeqAt.shaped d = true ∧ SeqAt.shaped (.list ds) = true ∧ Q (.bl (if neg = true then !ds.any (fun z => PyData.eqv z d) else ds.any fun z => PyData.eqv z d)) H) ∨
  ∃ c z, x = .str ⟨#[c]⟩ ∧ y = .str z ∧ Q (.bl (if neg = true then !decide (c ∈ z.cps.toList) else decide (c ∈ z.cps.toList))) H
theorem o_notin {k : Nat} (hr : Room k X.A) : OpR X (compareOp .NotIn) (rInA X.K true) :=
  op_notIn_seq.or ((op_notInDict (hu_of hr)).or ((op_notInD (Nat.lt_of_le_of_lt (Nat.add_le_add_left (by decide) _) (show X.A.units + 200 < cLine by have := hr.un; omega))).or op_notIn_sign))
theorem s_in (neg : Bool) : Sem2 (rInA X.K neg) (inW neg) := by
  intro M H h x y wx wy Q rep rx ry c
  unfold inW at c
  split at c
  · rename_i d
    split at c
    · rename_i es e
      split at c
      · rename_i o eo
        obtain ⟨a, ov, rfl, g, ro⟩ := get_ok (deref_rr rep ry e) rx eo
        refine .inr (.inl ⟨a, ov, rfl, g, ?_⟩)
        rw [ro.some_iff]
        exact c.here rep (.bl _)
      · exact c.no.elim
    · rename_i ds e
      obtain ⟨a, xs, rfl, ha, q⟩ := deref_rr rep ry e
      split at c
      · rename_i hz
        rw [Bool.and_eq_true] at hz
        refine .inl ⟨a, xs, rfl, .inl (.of ha), rd_flat rx hz.1, rds_flat q hz.2, ?_⟩
        rw [inV_eq rx hz.1 q hz.2]
        cases neg <;> exact c.here rep (.bl _)
      · split at c
        · rename_i hz
          rw [Bool.and_eq_true] at hz
          exact .inr (.inr (.inl ⟨d, ds, RD.dp rx (SeqAt.canLay_of_shaped hz.1), rr_dp (deref_rr rep ry e) (SeqAt.canLay_of_shaped hz.2), hz.1, hz.2, c.here rep (.bl _)⟩))
        · exact c.no.elim
    · rename_i ds e
      obtain ⟨a, xs, rfl, _, ha, q⟩ := rr_tup (deref_rr rep ry e)
      split at c
      · rename_i hz
        rw [Bool.and_eq_true] at hz
        refine .inl ⟨a, xs, rfl, .inr ha.sq, rd_flat rx hz.1, rds_flat q hz.2, ?_⟩
        rw [inV_eq rx hz.1 q hz.2]
        cases neg <;> exact c.here rep (.bl _)
      · exact c.no.elim
    · rename_i z e
      obtain rfl := rr_str (deref_rr rep ry e)
      split at c
      · rename_i ch
        cases (show RD M H _ _ from rx)
        exact .inr (.inr (.inr ⟨ch, z, rfl, rfl, c.here rep (.bl _)⟩))
      · exact c.no.elim
    · exact c.no.elim
  · exact c.no.elim
theorem t_notin {k : Nat} (hr : Room k X.A) {a b : Expr} {pos : Pos} {f g : EM} (ha : DE X a f) (hb : DE X b g) (hm : behindInMarks .NotIn b = false := by rfl) : DT X (.Compare a [.NotIn] [b] pos) (fB (f2 (inW true) f g)) := dt_of_cmp (o_notin hr) (s_in true) ha hb hm
theorem collect_grown {prog : Program} {w : World} {A : Around} {E : Value → Shared → Prop} {s : Shared} {Q : List Value → Shared → Prop} (it : Addr) {T : String} {o : Obj} {its : Array Value} {n : Nat} (hT : T = "list" ∨ T = "tuple") (ho : s.heap.get? it = some o) (hc : o.cls = .type T) (hd : o.data = .seq its n) (hsz : its.size ≤ sizeLine)
    (hQ : ∀ h', s.heap.objs.size ≤ h'.objs.size → (∀ b o', s.heap.get? b = some o' → h'.get? b = some o') → Q its.toList { s with heap := h' }) : wpAny (model prog w) A (collect (.ref it)) Q E s := by
  let g0 : Heap := s.heap.push { cls := .type "list", data := .seq ([] : List Value).toArray }
  let g1 : Heap := g0.update s.heap.objs.size (Obj.mapSeq (· ++ its))
  have a0 : g0.get? s.heap.objs.size = some { cls := .type "list", data := .seq #[] 0 } := Heap.get?_push_size _ rfl
  have a1 : g1.get? s.heap.objs.size = _ := Heap.get?_update_self (Obj.mapSeq (· ++ its)) a0 rfl
  have last : wpAny (model prog w) A (match Value.ref s.heap.objs.size with
      | Value.ref a => do
        match (← load a).data with
          | Data.seq xs _ => pure xs.toList
          | _ => unsupported "internal:collect"
      | _ => unsupported "internal:collect") Q E { s with heap := g1 } := by
    show wpAny _ A (load s.heap.objs.size >>= _) _ _ _
    refine wpAny_bind (wpAny_load a1 (wpAny_pure ?_))
    have e : ((#[] : Array Value) ++ its).toList = its.toList := by simp
    show Q ((#[] : Array Value) ++ its).toList _
    rw [e]
    refine hQ g1 ?_ fun b o' hb => (Heap.get?_update_other _ _ (Nat.ne_of_gt (Heap.lt_size hb))).trans (Heap.get?_push_of_some _ hb)
    show _ ≤ (g0.update s.heap.objs.size (Obj.mapSeq (· ++ its))).objs.size
    rw [Heap.size_update, size_push']
    exact Nat.le_succ _
  unfold collect
  refine wpAny_bind (wpAny_runValue (codeAny_builtin F.entry_proto_collect ?_))
  rw [Around.under_plainId F.plain_proto_collect _]
  show wpAny _ A.in1 (newList [] >>= fun l => again (.builtin "list.__iadd__" ⟨[l, .ref it], []⟩)) _ _ s
  refine wpAny_bind (wpAny_newObj_type (wpAny_pure ⟨plainId_quiet F.plain_list_iadd _, codeAny_builtin F.entry_list_iadd ?_⟩))
  rw [Around.under_plainId F.plain_list_iadd _]
  show wpAny _ A.in1 (Builtin.List.listExtendWith (.ref s.heap.objs.size) (.ref it) (.ref s.heap.objs.size)) _ _ _
  refine wpAny_mono (wpAny_extend_seq (hsz := hsz) (A := A) (R := fun r s' => r = .ok (.ret (.ref s.heap.objs.size)) ∧ s' = { s with heap := g1 }) (s := { s with heap := g0 }) _ it _ 0 hT a0 (Heap.get?_push_of_some _ ho) hc hd ⟨rfl, rfl⟩) (fun fin s' q => ?_) fun e s' q => absurd q.1 (by simp)
  cases fin with
  | done f => obtain ⟨e, rfl⟩ := q; cases e; exact last
  | again c' => exact ⟨q.1, codeAny_mono q.2 fun r s2 hr => by obtain ⟨rfl, rfl⟩ := hr; exact last⟩
theorem sorted_any {prog : Program} {w : World} {A : Around} {E : Value → Shared → Prop} {s : Shared} {x : Value} {β : Type} {R : Value → β → Prop} {vs : List Value} {bs : List β} {enc : β → PyData} {Q : Value → Shared → Prop}
    (hcol : ∀ (Q' : List Value → Shared → Prop), (∀ h', s.heap.objs.size ≤ h'.objs.size → (∀ b o, s.heap.get? b = some o → h'.get? b = some o) → Q' vs { s with heap := h' }) → wpAny (model prog w) A.in1 (collect x) Q' E s)
    (e : PySem.W.EachIs R vs bs) (er : PySem.W.EachIs (fun v b => ∃ as, Reads s.heap v (enc b) as) vs bs) (hal : PySem.W.AllAlike (bs.map enc)) (hk : PySem.W.Sortable (bs.map enc)) (hL : bs.length ≤ sizeLine) (hu : ∀ b, b ∈ bs → A.units + 2 + (enc b).depth < cLine)
    (h : ∀ out p c h', (∀ b o, s.heap.get? b = some o → h'.get? b = some o) → s.heap.objs.size ≤ p → h'.get? p = some (seqObj "list" (List.toArray out) c) → PySem.W.EachIs R out (bs.mergeSort (PySem.W.dataLe false enc)) → Q (.ref p) { s with heap := h' }) :
    wpAny (model prog w) A (call (.builtin "sorted") [x]) Q E s := by
  refine call_function_entry_kw kind_sorted plain_sorted entry_sorted (args_sorted1 _) ?_
  have hv : vs.length ≤ sizeLine := by rw [e.length]; exact hL
  unfold Builtin.«sorted»
  refine wpAny_bind (m := checkCount "sorted" 1 1 _) (wpAny_pure (wpAny_bind (hcol _ fun g hg kg => wpAny_bind (wpAny_newList ?_ hv))))
  have at_ : (g.push (seqObj "list" vs.toArray 0)).get? g.objs.size = some (seqObj "list" vs.toArray 0) := Heap.get?_push_size _ rfl
  have up : ∀ b o, s.heap.get? b = some o → b ≠ g.objs.size ∧ (g.push (seqObj "list" vs.toArray 0)).get? b = some o := fun b o q => ⟨Nat.ne_of_lt (Heap.lt_size (kg b o q)), Heap.get?_push_of_some _ (kg b o q)⟩
  have er' : PySem.W.EachIs (fun v b => ∃ as, Reads (PySem.W.sortingHeap (g.push (seqObj "list" vs.toArray 0)) g.objs.size vs) v (enc b) as) vs bs := er.mono fun _ _ ⟨as, r⟩ => ⟨as, PyProof.Rows.Reads.keeps (fun b o q => PySem.W.sortingHeap_old (up b o q).1 (up b o q).2) r⟩
  refine wpAny_bind (wpAny_holding (wpAny_call_entry_kw slot_list_sort ⟨_, at_, rfl⟩ entry_list_sort ?_ (args_list_sort _)))
  refine PySem.W.list_sort_vals (s := { s with heap := g.push (seqObj "list" vs.toArray 0) }) at_ (PySem.W.SortsAt.data (s := { s with heap := PySem.W.sortingHeap (g.push (seqObj "list" vs.toArray 0)) g.objs.size vs }) (PySem.W.each_map (R := fun v d => ∃ as, Reads (PySem.W.sortingHeap (g.push (seqObj "list" vs.toArray 0)) g.objs.size vs) v d as) enc er') hal hk (PySem.W.bound_map (A := A.in1.in1) hu)) hv ?_
  refine ⟨_, rfl, wpAny_pure ⟨_, rfl, ?_⟩⟩
  obtain ⟨c, hc⟩ := sortedHeap_at (vs := vs) (out := (PySem.W.sortVals (PySem.W.dataKind (PySem.W.sortingHeap (g.push (seqObj "list" vs.toArray 0)) g.objs.size vs) (bs.map enc)) false vs vs).toArray) at_
  exact h _ _ c _ (fun b o q => by rw [sortedHeap_old (up b o q).1 (Heap.lt_size (up b o q).2)]; exact (up b o q).2) hg hc (PySem.W.sortVals_data false e er' hal)
def rSortedA (K : PySem.W.Frag) : List V → Hp → VK → Prop := fun vs H Q => ∃ (a : Addr) (bs : List (V × D)), vs = [.ref a] ∧ (SqL K H a (bs.map (·.1)) ∨ SqT K H a (bs.map (·.1))) ∧ (∀ b ∈ bs, Dp K H b.1 b.2) ∧ PySem.W.AllAlike (bs.map (·.2)) ∧ PySem.W.Sortable (bs.map (·.2)) ∧
  (∀ b ∈ bs, b.2.depth ≤ 64) ∧ ∀ p, H p = none → Q (.ref p) (upd H p (.lst ((bs.mergeSort (PySem.W.dataLe false (·.2))).map (·.1))))
theorem each_zip {I : Prop} {s : Shared} {K : PySem.W.Frag} {H : Hp} (rd : ∀ (d : D) (v : V) (u : Value), Dp K H v d → RelV v u → ∃ as, Reads s.heap u d as) : ∀ {bs : List (V × D)} {its : List Value}, Vals (bs.map (·.1)) its → (∀ b ∈ bs, Dp K H b.1 b.2) →
    PySem.W.EachIs (fun (u : Value) (b : V × D) => RelV b.1 u) its bs ∧ PySem.W.EachIs (fun (u : Value) (b : V × D) => ∃ as, Reads s.heap u b.2 as) its bs
  | [], _, r, _ => by cases r; exact ⟨.nil, .nil⟩
  | b :: bs, _, r, q => by
    cases r with
    | cons r1 r2 =>
      obtain ⟨h1, h2⟩ := each_zip (I := I) rd r2 fun b hb => q b (List.mem_cons_of_mem _ hb)
      exact ⟨.cons r1 h1, .cons (rd _ _ _ (q b List.mem_cons_self) r1) h2⟩
theorem each_vals : ∀ {out : List Value} {bs : List (V × D)}, PySem.W.EachIs (fun (u : Value) (b : V × D) => RelV b.1 u) out bs → Vals (bs.map (·.1)) out
  | _, _, .nil => .nil
  | _, _, .cons a t => .cons a (each_vals t)
theorem cr_sortedA {k : Nat} (hr : Room k X.A) : CallR X (.builtin "sorted") (rSortedA X.K) := by
  intro pins s σ H vs us Q I rv q
  obtain ⟨a, bs, rfl, hs, hd, hal, hk, hdep, q⟩ := q
  obtain rfl := Vals.ref1 rv
  obtain ⟨its, T, o, n, vl, ho, hc, hdat, hT, hz⟩ : ∃ (its : List Value) (T : String) (o : Obj) (n : Nat), Vals (bs.map (·.1)) its ∧ s.heap.get? a = some o ∧ o.cls = .type T ∧ o.data = .seq its.toArray n ∧ (T = "list" ∨ T = "tuple") ∧ (bs.map (·.1)).length ≤ sizeLine := by
    rcases hs with hs | hs
    · obtain ⟨its, vl, ⟨o, n, h1, h2, _, h3⟩, hz⟩ := I.list hs
      exact ⟨its, "list", o, n, vl, h1, h2, h3, .inl rfl, hz⟩
    · obtain ⟨its, vl, ⟨o, h1, h2, n, h3⟩, hz⟩ := I.tuple hs
      exact ⟨its, "tuple", o, n, vl, h1, h2, h3, .inr rfl, hz⟩
  have hl : bs.length ≤ sizeLine := by rw [List.length_map] at hz; exact hz
  obtain ⟨e1, e2⟩ := each_zip (I := True) (fun d v u => Dp.reads I d v u) vl hd
  refine sorted_any (x := .ref a) (vs := its) (bs := bs) (enc := (·.2)) (fun Q' k => collect_grown a hT ho hc hdat (by have := vl.length; simp only [List.size_toArray]; omega) fun h' hz kh => k h' hz kh) e1 e2 hal hk hl (fun b hb => by have := hr.un; have := hdep b hb; show X.A.units + 2 + b.2.depth < cLine; omega) fun out p c h' kp hp hD eo => ?_
  have vo := each_vals eo
  have hlen : ((bs.mergeSort (PySem.W.dataLe false (·.2))).map (·.1)).length ≤ sizeLine := by rw [List.length_map, List.length_mergeSort]; exact hl
  exact ⟨.ref p, upd H p (.lst ((bs.mergeSort (PySem.W.dataLe false (·.2))).map (·.1))), I.laid (t' := s.toks) kp hp ⟨hlen, out, c, vo, hD⟩, rfl, q p (I.hok.fresh hp)⟩
noncomputable def sortD (ds : List D) : List D := ds.mergeSort (PySem.W.dataLe false fun d => d)
def sortable (ds : List D) : Bool := (ds.all fun d => ds.all fun e => PySem.W.alike d e) && ((ds.all fun d => match d with | .tuple (_ :: _) => true | _ => false) || (ds.all fun d => match d with | .none => false | .tuple _ => false | _ => true)) && ds.all shp
noncomputable def sortW (m : Bool) (ws : List W) (h : Hh) : Option (W × Hh) := match ws with
  | [w] => match deref h w with
    | some (.list ds) => if sortable ds = true then mkL m (sortD ds) h else none
    | some (.tuple ds) => if sortable ds = true then mkL m (sortD ds) h else none
    | _ => none
  | _ => none
theorem rds_zip {M : Mm} {H : Hp} : ∀ {xs : List V} {ds : List D}, RDs M H xs ds → ∃ bs : List (V × D), xs = bs.map (·.1) ∧ ds = bs.map (·.2) ∧ ∀ b ∈ bs, RD M H b.1 b.2
  | _, _, .nil => ⟨[], rfl, rfl, fun b hb => by cases hb⟩
  | x :: xs, d :: ds, .cons a t => by
    obtain ⟨bs, e1, e2, q⟩ := rds_zip t
    refine ⟨(x, d) :: bs, by rw [e1]; rfl, by rw [e2]; rfl, fun b hb => ?_⟩
    rcases List.mem_cons.mp hb with rfl | hb
    · exact a
    · exact q b hb
theorem zip_rds {M : Mm} {H : Hp} : ∀ {bs : List (V × D)}, (∀ b ∈ bs, RD M H b.1 b.2) → RDs M H (bs.map (·.1)) (bs.map (·.2))
  | [], _ => .nil
  | b :: bs, q => .cons (q b List.mem_cons_self) (zip_rds fun c hc => q c (List.mem_cons_of_mem _ hc))
theorem sortable_ok {ds : List D} (h : sortable ds = true) : PySem.W.AllAlike ds ∧ PySem.W.Sortable ds ∧ ∀ d ∈ ds, shp d = true := by
  unfold sortable at h
  simp only [Bool.and_eq_true, Bool.or_eq_true, List.all_eq_true] at h
  obtain ⟨⟨h1, h2⟩, h3⟩ := h
  refine ⟨fun d hd d' hd' => h1 d hd d' hd', ?_, h3⟩
  rcases h2 with h2 | h2
  · refine .inl fun d hd => ?_
    have q := h2 d hd
    split at q
    · exact ⟨_, _, rfl⟩
    · cases q
  · refine .inr fun d hd => ⟨fun e => ?_, fun xs e => ?_⟩
    · subst e; exact absurd (h2 _ hd) (by simp)
    · subst e; exact absurd (h2 _ hd) (by simp)
theorem sort_imp {M : Mm} {H : Hp} {xs : List V} {ds : List D} {a : Addr} {m : Bool} {h : Hh} {Q : VK} (rep : Rep M H h) (q : RDs M H xs ds) (hs : SqL X.K H a xs ∨ SqT X.K H a xs) (hz : sortable ds = true) (c : Cont RV (mkL m (sortD ds) h) M H Q) : rSortedA X.K [.ref a] H Q := by
  obtain ⟨bs, rfl, rfl, qb⟩ := rds_zip q
  obtain ⟨h1, h2, h3⟩ := sortable_ok hz
  have h3' : ∀ b ∈ bs, shp b.2 = true := fun b hb => h3 _ (List.mem_map.mpr ⟨b, hb, rfl⟩)
  refine ⟨a, bs, rfl, hs, fun b hb => RD.dp (qb b hb) (SeqAt.canLay_of_shaped (h3' b hb)), h1, h2, fun b hb => SeqAt.depth_of_shaped (h3' b hb), fun p np => ?_⟩
  have e : sortD (bs.map (·.2)) = (bs.mergeSort (PySem.W.dataLe false (·.2))).map (·.2) := (PySem.W.sort_maps (r := PySem.W.dataLe false fun b : V × D => b.2) (s := PySem.W.dataLe false fun d : D => d) (fun b : V × D => b.2) (l := bs) fun _ _ _ _ => rfl).symm
  rw [e] at c
  exact mkL_fin rep np (zip_rds fun b hb => qb b ((List.mergeSort_perm bs _).mem_iff.mp hb)) c
theorem s_sorted (m : Bool) : SemA (rSortedA X.K) (sortW m) := by
  intro M H h vs ws Q rep rv c
  unfold sortW at c
  split at c
  · obtain ⟨v, rfl, r⟩ := rvs1 rv
    split at c
    · rename_i ds e
      obtain ⟨a, xs, rfl, ha, q⟩ := deref_rr rep r e
      split at c
      · rename_i hz
        exact sort_imp rep q (.inl (.of ha)) hz c
      · exact c.no.elim
    · rename_i ds e
      obtain ⟨a, xs, rfl, _, ha, q⟩ := rr_tup (deref_rr rep r e)
      split at c
      · rename_i hz
        exact sort_imp rep q (.inr ha.sq) hz c
      · exact c.no.elim
    · exact c.no.elim
  · exact c.no.elim
def isL (w : W) (h : Hh) : Bool := match deref h w with
  | some (.list _) => true
  | _ => false
def fM (chk : W → Hh → Bool) (sem : W → List W → Hh → Option (W × Hh)) (f : EM) (g : AM) : EM := fun ρ h => obnd (f ρ h) fun w h1 => if chk w h1 = true then obnd (g ρ h1) fun ws h2 => sem w ws h2 else none
def SemM (r : V → List V → Hp → VK → Prop) (sem : W → List W → Hh → Option (W × Hh)) : Prop := ∀ (M : Mm) (H : Hp) (h : Hh) (x : V) (w : W) (vs : List V) (ws : List W) (Q : VK), Rep M H h → RV M H x w → RVs M H vs ws → Cont RV (sem w ws h) M H Q → r x vs H Q
theorem isL_ty {K : PySem.W.Frag} {M : Mm} {H : Hp} {h : Hh} {v : V} {w : W} (rep : Rep M H h) (r : RV M H v w) (e : isL w h = true) : tyV K "list" v H := by
  unfold isL at e
  split at e
  · rename_i ds q
    obtain ⟨a, xs, rfl, ha, _⟩ := deref_rr rep r q
    exact .inl ⟨rfl, _, .of ha⟩
  · cases e
theorem meth_imp {K : PySem.W.Frag} {r : V → List V → Hp → VK → Prop} {sem : W → List W → Hh → Option (W × Hh)} {f : EM} {g : AM} (hs : SemM r sem) : ∀ σ H Q, tE (fM isL sem f g) σ H Q → tBM K "list" r (tE f) (tA g) σ H Q := fun σ H Q => by
  rintro ⟨M, h, ρ, r, rs, c⟩
  obtain ⟨w, h1, e1, c1⟩ := Cont.bind (δ := Unit) c
  refine ⟨M, h, ρ, r, rs, w, h1, e1, fun M1 H1 v x1 r1 v1 => ?_⟩
  have c2 := c1 M1 H1 x1
  split at c2
  · rename_i hl
    refine ⟨isL_ty r1 v1 hl, M1, h1, ρ, r1, rs.mono x1, ?_⟩
    obtain ⟨w2, h2, e2, c3⟩ := Cont.bind (δ := Unit) c2
    exact ⟨w2, h2, e2, fun M2 H2 v2 x2 r2 q2 => hs M2 H2 h2 _ w _ w2 Q r2 (v1.mono x2) q2 (c3 M2 H2 x2)⟩
  · exact c2.no.elim
theorem meth0_imp {K : PySem.W.Frag} {r : V → List V → Hp → VK → Prop} {sem : W → List W → Hh → Option (W × Hh)} {f : EM} (hs : SemM r sem) : ∀ σ H Q, tE (fM isL sem f fNil) σ H Q → tBM0 K "list" r (tE f) σ H Q := fun σ H Q => by
  rintro ⟨M, h, ρ, r, rs, c⟩
  obtain ⟨w, h1, e1, c1⟩ := Cont.bind (δ := Unit) c
  refine ⟨M, h, ρ, r, rs, w, h1, e1, fun M1 H1 v x1 r1 v1 => ?_⟩
  have c2 := c1 M1 H1 x1
  split at c2
  · rename_i hl
    exact ⟨isL_ty r1 v1 hl, hs M1 H1 h1 _ w _ [] Q r1 v1 .nil c2⟩
  · exact c2.no.elim
def lstAt (h : Hh) (n : Nat) : Option (List D) := match h[n]? with
  | some (some (.lst ds)) => some ds
  | _ => none
theorem lstAt_ok {M : Mm} {H : Hp} {h : Hh} {n : Nat} {ds : List D} {a : Addr} (rep : Rep M H h) (e : lstAt h n = some ds) (ea : M.m[n]? = some (some a)) : ∃ xs, H a = some (.lst xs) ∧ RDs M H xs ds := by
  obtain ⟨o, ho, ro⟩ := rep.at_ n a ea
  unfold lstAt at e
  rw [ho] at e
  cases o with
  | lst ds' => cases e; exact ro
  | dic _ => cases e
  | dit _ => cases e
  | tab _ _ => cases e
  | ins _ _ => cases e
def setL (h : Hh) (n : Nat) (ds : List D) (r : D) : Option (W × Hh) := some (.dat r, h.set n (some (.lst ds)))
theorem setL_fin {M : Mm} {H : Hp} {h : Hh} {n : Nat} {a : Addr} {ds : List D} {d : D} {ys : List V} {v : V} {Q : VK} (rep : Rep M H h) (ea : M.m[n]? = some (some a)) (q : RDs M H ys ds) (rv : RD M H v d) (c : Cont RV (setL h n ds d) M H Q) : Q v (upd H a (.lst ys)) :=
  c.fin (ext_set ea) (rep.set ea ⟨ys, upd_same, q.mono (ext_set ea).ext⟩) (rv.mono (ext_set ea).ext)
def appendW (w : W) (ws : List W) (h : Hh) : Option (W × Hh) := match w, ws with
  | .ref n, [.dat d] => match lstAt h n with
    | some ds => if ds.length < sizeLine then setL h n (ds ++ [d]) .none else none
    | none => none
  | _, _ => none
theorem s_append : SemM rAppend appendW := by
  intro M H h x w vs ws Q rep rx rv c
  unfold appendW at c
  split at c
  · rename_i n d
    obtain ⟨a, ea, rfl⟩ := rx
    obtain ⟨v, rfl, r⟩ := rvs1 rv
    split at c
    · rename_i ds e
      obtain ⟨xs, ha, q⟩ := lstAt_ok rep e ea
      split at c
      · rename_i hz
        exact ⟨a, xs, v, rfl, rfl, ha, by rw [q.length]; exact hz, setL_fin rep ea (q.app (.cons r .nil)) .non c⟩
      · exact c.no.elim
    · exact c.no.elim
  · exact c.no.elim
def insertW (w : W) (ws : List W) (h : Hh) : Option (W × Hh) := match w, ws with
  | .ref n, [.dat (.int i), .dat d] => match lstAt h n with
    | some ds => if ds.length < sizeLine ∧ 0 ≤ i ∧ i < 1000000 then setL h n (ds.take i.toNat ++ [d] ++ ds.drop i.toNat) .none else none
    | none => none
  | _, _ => none
theorem s_insert : SemM (fun x vs H Q => ∃ (l : Addr) (xs : List V) (i : Int) (y : V), x = .ref l ∧ vs = [.int i, y] ∧ H l = some (.lst xs) ∧ xs.length < sizeLine ∧ 0 ≤ i ∧ i < 2 ^ 63 ∧ Q .non (upd H l (.lst (xs.take i.toNat ++ [y] ++ xs.drop i.toNat)))) insertW := by
  intro M H h x w vs ws Q rep rx rv c
  unfold insertW at c
  split at c
  · rename_i n i d
    obtain ⟨a, ea, rfl⟩ := rx
    obtain ⟨v, v', rfl, r, r'⟩ := rvs2 rv
    cases (show RD M H _ _ from r)
    split at c
    · rename_i ds e
      obtain ⟨xs, ha, q⟩ := lstAt_ok rep e ea
      split at c
      · rename_i hz
        exact ⟨a, xs, i, v', rfl, rfl, ha, by rw [q.length]; exact hz.1, hz.2.1, by omega, setL_fin rep ea (((q.take _).app (.cons r' .nil)).app (q.drop _)) .non c⟩
      · exact c.no.elim
    · exact c.no.elim
  · exact c.no.elim
def popAtW (w : W) (ws : List W) (h : Hh) : Option (W × Hh) := match w, ws with
  | .ref n, [.dat (.int i)] => match lstAt h n with
    | some ds => if 0 ≤ i ∧ i < 1000000 then match ds[i.toNat]? with
        | some d => setL h n (ds.eraseIdx i.toNat) d
        | none => none
      else none
    | none => none
  | _, _ => none
theorem s_popAt : SemM rPopAt popAtW := by
  intro M H h x w vs ws Q rep rx rv c
  unfold popAtW at c
  split at c
  · rename_i n i
    obtain ⟨a, ea, rfl⟩ := rx
    obtain ⟨v, rfl, r⟩ := rvs1 rv
    cases (show RD M H _ _ from r)
    split at c
    · rename_i ds e
      obtain ⟨xs, ha, q⟩ := lstAt_ok rep e ea
      split at c
      · rename_i hz
        split at c
        · rename_i d ed
          obtain ⟨y, ey, ry⟩ := q.get ed
          have hlt : i < xs.length := by have := lt_of_get ey; omega
          exact ⟨a, xs, i, i.toNat, y, rfl, rfl, ha, by omega, by omega, seqIndex_of hz.1 hlt, ey, setL_fin rep ea (q.erase _) ry c⟩
        · exact c.no.elim
      · exact c.no.elim
    · exact c.no.elim
  · exact c.no.elim
def reverseW (w : W) (ws : List W) (h : Hh) : Option (W × Hh) := match w, ws with
  | .ref n, [] => match lstAt h n with
    | some ds => setL h n ds.reverse .none
    | none => none
  | _, _ => none
theorem s_reverse : SemM rReverse reverseW := by
  intro M H h x w vs ws Q rep rx rv c
  unfold reverseW at c
  split at c
  · rename_i n
    obtain ⟨a, ea, rfl⟩ := rx
    cases rv
    split at c
    · rename_i ds e
      obtain ⟨xs, ha, q⟩ := lstAt_ok rep e ea
      exact ⟨a, xs, rfl, rfl, ha, setL_fin rep ea q.rev .non c⟩
    · exact c.no.elim
  · exact c.no.elim
end
end DL
set_option maxRecDepth 100000
set_option maxHeartbeats 4000000
namespace DL
open PySem PySem.Spec PyProof.Rows L2
abbrev TM := W → Env → Hh → Option Env
abbrev TMs := List D → Env → Hh → Option Env
def tGd (ts : List Nat) (g : TM) : TG := fun v σ H Q => ∃ M h ρ w ρ', Rep M H h ∧ RS M H ρ σ ∧ RV M H v w ∧ g w ρ h = some ρ' ∧ ∀ σ' : L2.St, RS M H ρ' σ' → σ'.length = σ.length → (∀ j, j ∉ ts → σ'[j]? = σ[j]?) → Q σ' H
def tGds (ts : List Nat) (g : TMs) : TGs := fun vs σ H Q => ∃ M h ρ ds ρ', Rep M H h ∧ RS M H ρ σ ∧ RDs M H vs ds ∧ g ds ρ h = some ρ' ∧ ∀ σ' : L2.St, RS M H ρ' σ' → σ'.length = σ.length → (∀ j, j ∉ ts → σ'[j]? = σ[j]?) → Q σ' H
abbrev DG (X : Cx) (tg : Expr) (ts : List Nat) (g : TM) : Prop := PG X tg (tGd ts g)
abbrev DGs (X : Cx) (tgs : List Expr) (ts : List Nat) (g : TMs) : Prop := PGs X tgs (tGds ts g)
theorem _root_.L2.PGs.weak {X : Cx} {e : List Expr} {t t' : TGs} (h : PGs X e t) (i : ∀ v σ H Q, t' v σ H Q → t v σ H Q) : PGs X e t' := ⟨fun pins s σ H v u Q I r q => h.run pins s σ H v u Q I r (i v σ H Q q)⟩
def gN (i : Nat) : TM := fun w ρ _ => some (ρ.set i (some w))
def gE : TMs := fun ds ρ _ => match ds with
  | [] => some ρ
  | _ => none
def gC (g : TM) (k : TMs) : TMs := fun ds ρ h => match ds with
  | d :: ds => match g (.dat d) ρ h with
    | some ρ' => k ds ρ' h
    | none => none
  | [] => none
def gT (n : Nat) (k : TMs) : TM := fun w ρ h => match deref h w with
  | some (.tuple ds) => if ds.length = n then k ds ρ h else none
  | some (.list ds) => if ds.length = n then k ds ρ h else none
  | _ => none
section
variable {X : Cx}
theorem dg_name (i : Nat) {x : Str} {pos : Pos} (h : PG X (.Name x pos) (gName i)) : DG X (.Name x pos) [i] (gN i) := h.weak fun v σ H Q => by
  rintro ⟨M, h, ρ, w, ρ', r, rs, rv, e, q⟩
  cases e
  exact q _ (rs.set rv) (by simp) fun j hj => List.getElem?_set_ne (fun z => hj (by simp [z]))
theorem dgs_nil : DGs X [] [] gE := pgs_nil.weak fun v σ H Q => by
  rintro ⟨M, h, ρ, ds, ρ', r, rs, rv, e, q⟩
  unfold gE at e
  split at e
  · cases e; cases rv; exact ⟨rfl, q σ rs rfl fun _ _ => rfl⟩
  · cases e
theorem dgs_cons {tg : Expr} {tgs : List Expr} {ts ts' : List Nat} {g : TM} {k : TMs} (h1 : DG X tg ts g) (h2 : DGs X tgs ts' k) (hs : (assignEach (tg :: tgs) X.env).map (·.2) = assign tg X.env :: (assignEach tgs X.env).map (·.2) := by rfl) : DGs X (tg :: tgs) (ts ++ ts') (gC g k) :=
  (pgs_cons h1 h2 hs).weak fun v σ H Q => by
    rintro ⟨M, h, ρ, ds, ρ', r, rs, rv, e, q⟩
    unfold gC at e
    split at e
    · rename_i d ds'
      split at e
      · rename_i ρ1 e1
        cases rv with
        | cons a t =>
          refine ⟨_, _, rfl, M, h, ρ, .dat d, ρ1, r, rs, a, e1, fun σ1 rs1 l1 o1 => ⟨M, h, ρ1, ds', ρ', r, rs1, t, e, fun σ2 rs2 l2 o2 => q σ2 rs2 (l2.trans l1) fun j hj => ?_⟩⟩
          rw [o2 j (fun z => hj (List.mem_append_right _ z)), o1 j (fun z => hj (List.mem_append_left _ z))]
      · cases e
    · cases e
theorem _root_.L2.PG.or {tg : Expr} {t t' : TG} (h : PG X tg t) (h' : PG X tg t') : PG X tg (fun v σ H Q => t v σ H Q ∨ t' v σ H Q) := ⟨fun pins s σ H v u Q I r q => q.elim (h.run pins s σ H v u Q I r) (h'.run pins s σ H v u Q I r)⟩
theorem dg_tup {tgs : List Expr} {k : Nat} {pos : Pos} {ts : List Nat} {g : TMs} {n : Nat} (hc : X.calm = true) (h : DGs X tgs ts g) (hn : (assignEach tgs X.env).length = n := by rfl) (hst : (assignEach tgs X.env).findIdx? (·.1) = none := by rfl) : DG X (.Tuple tgs k pos) ts (gT n g) :=
  ((pg_tup hc h hn hst).or (pg_unl hc h hn hst)).weak fun v σ H Q => by
    rintro ⟨M, h, ρ, w, ρ', r, rs, rv, e, q⟩
    unfold gT at e
    split at e
    · rename_i ds ed
      obtain ⟨a, xs, rfl, _, ha, qa⟩ := rr_tup (deref_rr r rv ed)
      split at e
      · rename_i hz
        exact .inl ⟨a, xs, rfl, ha.sq, by rw [qa.length]; exact hz, M, h, ρ, ds, ρ', r, rs, qa, e, q⟩
      · cases e
    · rename_i ds ed
      obtain ⟨a, xs, rfl, ha, qa⟩ := deref_rr r rv ed
      split at e
      · rename_i hz
        exact .inr ⟨a, xs, rfl, .of ha, by rw [qa.length]; exact hz, M, h, ρ, ds, ρ', r, rs, qa, e, q⟩
      · cases e
    · cases e
end
theorem Rep.grow {M : Mm} {H H' : Hp} {h : Hh} (r : Rep M H h) (s : Same H H') : Rep M H' h ∧ ExtE M M H H' := by
  have x : ExtE M M H H' := ⟨rfl, fun a o e => ⟨o, s a o e⟩, fun a o e _ => s a o e, fun _ m => .inl m, Nat.le_refl _, fun _ _ => rfl⟩
  refine ⟨⟨fun a m => ?_, r.len, r.inj, fun i a e => ?_, r.dead⟩, x⟩
  · obtain ⟨h1, o, e, ht⟩ := r.us a m
    exact ⟨h1, o, s a o e, ht⟩
  · obtain ⟨u, hu, ro⟩ := r.at_ i a e
    obtain ⟨z, hz⟩ := ro.some_
    exact ⟨u, hu, ro.move x.ext (by rw [hz]; exact s a z hz)⟩
theorem new_out {M : Mm} {H : Hp} (tr : ∀ a, M.Has a → ∃ o, H a = some o ∧ tpO o = false) {T : Addr} (n : H T = none) : ¬ M.Has T := fun z => by
  obtain ⟨o, e, _⟩ := tr T z
  rw [n] at e; cases e
theorem grow_ext {M : Mm} {H H' : Hp} (s : Same H H') : Ext M M H H' := ⟨fun _ m => .inl m, fun a o e => ⟨o, s a o e⟩, fun a o e _ => s a o e, fun _ m => .inl m, Nat.le_refl _, fun _ _ => .inl rfl⟩
def ItD (M : Mm) (H : Hp) (J : It) (ds : List D) : Prop := ∀ M1 H1, Ext M M1 H H1 → (∀ a, M1.Has a → ∃ o, H1 a = some o ∧ tpO o = false) → (∀ (i : Nat) (d : D), ds[i]? = some d → J.go i H1 ∧ ∀ x H2, J.yld i H1 x H2 → Same H1 H2 ∧ RD M1 H2 x d) ∧ J.stop ds.length H1
abbrev IM := Env → Hh → Option (List D × Hh)
def tI (g : IM) : TI := fun σ H R => ∃ M h ρ ds h', Rep M H h ∧ RS M H ρ σ ∧ g ρ h = some (ds, h') ∧ ∀ M' H' J, ExtE M M' H H' → Rep M' H' h' → ItD M' H' J ds → R J H'
abbrev DI (X : Cx) (tg it : Expr) (g : IM) : Prop := PI X tg it (tI g)
theorem _root_.L2.PI.or {X : Cx} {tg e : Expr} {t t' : TI} (h : PI X tg e t) (h' : PI X tg e t') : PI X tg e (fun σ H R => t σ H R ∨ t' σ H R) := ⟨fun pins s σ H R I q => q.elim (h.run pins s σ H R I) (h'.run pins s σ H R I)⟩
theorem same_refl' {H : Hp} : Same H H := fun _ _ e => e
theorem same_new {H : Hp} {p : Addr} {o : HO} (n : H p = none) : Same H (upd H p o) := fun b x e => by rw [upd_ne (ne_of_none e n)]; exact e
theorem itd_list {K : PySem.W.Frag} {M : Mm} {H : Hp} {a : Addr} {xs : List V} {ds : List D} (n : ¬ M.Has a) (ha : H a = some (.lst xs)) (q : RDs M H xs ds) : ItD M H (Itl K a) ds := fun M1 H1 x tr => by
  have ha1 := x.st n ha
  have q1 := q.mono x
  refine ⟨fun i d e => ?_, ⟨xs, .of ha1, by rw [q.length]; exact Nat.le_refl _⟩⟩
  obtain ⟨v, ev, rv⟩ := q1.get e
  refine ⟨⟨xs, v, .of ha1, ev⟩, fun y H2 hy => ?_⟩
  obtain ⟨e2, hy⟩ := hy
  subst e2
  have := hy xs (.of ha1)
  rw [ev] at this; cases this
  exact ⟨same_refl', rv⟩
theorem itd_tup {K : PySem.W.Frag} {M : Mm} {H : Hp} {a : Addr} {xs : List V} {ds : List D} (n : ¬ M.Has a) (ha : TupAt H a xs ds) (q : RDs M H xs ds) : ItD M H (Itt K a) ds := fun M1 H1 x tr => by
  have ha1 := (ha.to fun _ z => x.st n z).sq (K := K)
  have q1 := q.mono x
  refine ⟨fun i d e => ?_, ⟨xs, ha1, by rw [q.length]; exact Nat.le_refl _⟩⟩
  obtain ⟨v, ev, rv⟩ := q1.get e
  refine ⟨⟨xs, v, ha1, ev⟩, fun y H2 hy => ?_⟩
  obtain ⟨e2, hy⟩ := hy
  subst e2
  have := hy xs ha1
  rw [ev] at this; cases this
  exact ⟨same_refl', rv⟩
def seqI (f : EM) : IM := fun ρ h => obnd (f ρ h) fun w h1 => match w with
  | .dat (.list ds) => some (ds, h1)
  | .dat (.tuple ds) => some (ds, h1)
  | _ => none
section
variable {X : Cx} {tg : Expr}
theorem di_seq {e : Expr} {f : EM} (he : DE X e f) : DI X tg e (seqI f) := ((pi_list he).or (pi_tup he)).weak fun σ H R => by
  rintro ⟨M, h, ρ, ds, h', r, rs, e, q⟩
  unfold seqI at e
  cases ef : f ρ h with
  | none => rw [ef] at e; cases e
  | some p =>
    obtain ⟨w, h1⟩ := p
    rw [ef] at e
    simp only [obnd_some] at e
    split at e
    · cases e
      refine .inl ⟨M, h, ρ, r, rs, _, _, ef, fun M1 H1 v x1 r1 v1 => ?_⟩
      cases (show RD M1 H1 v _ from v1) with
      | lst n ha qa => exact ⟨_, rfl, ⟨_, .of ha⟩, q M1 H1 _ x1 r1 (itd_list n ha qa)⟩
    · cases e
      refine .inr ⟨M, h, ρ, r, rs, _, _, ef, fun M1 H1 v x1 r1 v1 => ?_⟩
      cases (show RD M1 H1 v _ from v1) with
      | tup n ha qa => exact ⟨_, rfl, ⟨_, ha.sq⟩, q M1 H1 _ x1 r1 (itd_tup n ha qa)⟩
    · cases e
def rngD (lo : Int) (n : Nat) : List D := (List.range n).map fun (i : Nat) => .int (lo + (i : Int))
theorem rngD_get {lo : Int} {n i : Nat} {d : D} (e : (rngD lo n)[i]? = some d) : i < n ∧ d = .int (lo + i) := by
  unfold rngD at e
  rw [List.getElem?_map] at e
  cases q : (List.range n)[i]? with
  | none => rw [q] at e; cases e
  | some j =>
    rw [q] at e
    obtain ⟨h1, h2⟩ := List.getElem?_eq_some_iff.mp q
    rw [List.length_range] at h1
    rw [List.getElem_range] at h2
    subst h2
    exact ⟨h1, by simpa using e.symm⟩
theorem itd_rng {M : Mm} {H : Hp} {lo : Int} {n : Nat} : ItD M H (Itr lo n) (rngD lo n) := fun M1 H1 x tr => by
  refine ⟨fun i d e => ?_, ?_⟩
  · obtain ⟨h1, rfl⟩ := rngD_get e
    exact ⟨h1, fun y H2 hy => by obtain ⟨e1, e2⟩ := hy; subst e1 e2; exact ⟨same_refl', .int _⟩⟩
  · show n ≤ _
    simp [rngD]
def rng1I (g : AM) : IM := fun ρ h => obnd (g ρ h) fun ws h1 => match ws with
  | [.dat (.int j)] => if -1000000000 ≤ j ∧ j ≤ 1000000000 then some (rngD 0 j.toNat, h1) else none
  | _ => none
def rng2I (g : AM) : IM := fun ρ h => obnd (g ρ h) fun ws h1 => match ws with
  | [.dat (.int i), .dat (.int j)] => if -1000000000 ≤ i ∧ i ≤ 1000000000 ∧ -1000000000 ≤ j ∧ j ≤ 1000000000 then some (rngD i (j - i).toNat, h1) else none
  | _ => none
theorem di_rng1 (hm : X.mg "range" = none) {a : Expr} {p pos : Pos} {g : AM} (ha : DA X [a] g) (hg : Gl X "range" := by rfl) (hs : starEach [a] X.env = [(false, eval a X.env)] := by rfl) : DI X tg (.Call (.Name "range" p) [a] [] pos) (rng1I g) := (pi_range1 hg hm ha hs).weak fun σ H R => by
  rintro ⟨M, h, ρ, ds, h', r, rs, e, q⟩
  unfold rng1I at e
  cases ef : g ρ h with
  | none => rw [ef] at e; cases e
  | some p =>
    obtain ⟨ws, h1⟩ := p
    rw [ef] at e
    simp only [obnd_some] at e
    split at e
    · split at e
      · rename_i hz
        cases e
        refine ⟨M, h, ρ, r, rs, _, _, ef, fun M1 H1 v x1 r1 v1 => ?_⟩
        obtain ⟨v, rfl, rv⟩ := rvs1 v1
        cases (show RD M1 H1 v _ from rv)
        exact ⟨_, rfl, by omega, by omega, q M1 H1 _ x1 r1 itd_rng⟩
      · cases e
    · cases e
def enumD : Nat → List D → List D
  | _, [] => []
  | i, d :: ds => .tuple [.int (i : Int), d] :: enumD (i + 1) ds
theorem enumD_get : ∀ {ds : List D} {k i : Nat} {d : D}, (enumD k ds)[i]? = some d → ∃ e, ds[i]? = some e ∧ d = .tuple [.int ((k + i : Nat) : Int), e]
  | [], _, _, _, e => by simp [enumD] at e
  | e :: ds, k, 0, d, h => by simp [enumD] at h; exact ⟨e, rfl, by rw [← h]; rfl⟩
  | e :: ds, k, i + 1, d, h => by
    obtain ⟨e', h1, h2⟩ := enumD_get (ds := ds) (k := k + 1) (i := i) (d := d) (by simpa [enumD] using h)
    exact ⟨e', by simpa using h1, by rw [h2, show k + 1 + i = k + (i + 1) by omega]⟩
theorem enumD_len : ∀ (k : Nat) (ds : List D), (enumD k ds).length = ds.length
  | _, [] => rfl
  | k, d :: ds => by simp [enumD, enumD_len (k + 1) ds]
theorem itd_enum {K : PySem.W.Frag} {M : Mm} {H : Hp} {a : Addr} {xs : List V} {ds : List D} (n : ¬ M.Has a) (ha : H a = some (.lst xs)) (q : RDs M H xs ds) : ItD M H (Ite K a) (enumD 0 ds) := fun M1 H1 x tr => by
  have ha1 := x.st n ha
  have q1 := q.mono x
  refine ⟨fun i d e => ?_, ⟨xs, .of ha1, by rw [q.length, enumD_len]; exact Nat.le_refl _⟩⟩
  obtain ⟨d', e', rfl⟩ := enumD_get e
  obtain ⟨v, ev, rv⟩ := q1.get e'
  refine ⟨⟨xs, v, .of ha1, ev⟩, fun y H2 hy => ?_⟩
  obtain ⟨T, z, rfl, nT, rfl, hz⟩ := hy
  have := hz xs (.of ha1)
  rw [ev] at this; cases this
  refine ⟨same_new nT, .tup (fun z => new_out tr nT z) (.inl ⟨rfl, upd_same⟩) (.cons ?_ (.cons (rv.mono (grow_ext (same_new nT))) .nil))⟩
  rw [Nat.zero_add]; exact .int _
def zipD : List D → List D → List D
  | x :: xs, y :: ys => .tuple [x, y] :: zipD xs ys
  | _, _ => []
theorem zipD_get : ∀ {xs ys : List D} {i : Nat} {d : D}, (zipD xs ys)[i]? = some d → ∃ x y, xs[i]? = some x ∧ ys[i]? = some y ∧ d = .tuple [x, y]
  | [], _, _, _, e => by simp [zipD] at e
  | _ :: _, [], _, _, e => by simp [zipD] at e
  | x :: xs, y :: ys, 0, d, e => by simp [zipD] at e; exact ⟨x, y, rfl, rfl, e.symm⟩
  | x :: xs, y :: ys, i + 1, d, e => by
    obtain ⟨a, b, h1, h2, h3⟩ := zipD_get (xs := xs) (ys := ys) (i := i) (d := d) (by simpa [zipD] using e)
    exact ⟨a, b, by simpa using h1, by simpa using h2, h3⟩
def notCall : D → Bool
  | .tuple l => !callD l
  | _ => true
def zipOk (xs ys : List D) : Bool := (zipD xs ys).all notCall
theorem zipD_len : ∀ (xs ys : List D), (zipD xs ys).length = min xs.length ys.length
  | [], _ => by simp [zipD]
  | _ :: _, [] => by simp [zipD]
  | x :: xs, y :: ys => by simp only [zipD, List.length_cons, zipD_len xs ys]; omega
def zipI (g : AM) : IM := fun ρ h => obnd (g ρ h) fun ws h1 => match ws with
  | [.dat (.list ds), .dat (.list es)] => if zipOk ds es = true then some (zipD ds es, h1) else none
  | [.dat (.tuple ds), .dat (.tuple es)] => if zipOk ds es = true then some (zipD ds es, h1) else none
  | _ => none
theorem itd_rev {K : PySem.W.Frag} {M : Mm} {H : Hp} {a : Addr} {xs : List V} {ds : List D} (n : ¬ M.Has a) (ha : H a = some (.lst xs)) (q : RDs M H xs ds) : ItD M H (Itv K a xs.length) ds.reverse := fun M1 H1 x tr => by
  have ha1 := x.st n ha
  refine ⟨fun i d e => ?_, by show xs.length ≤ _; rw [q.length, List.length_reverse]; exact Nat.le_refl _⟩
  have hi := lt_of_get e
  rw [List.length_reverse] at hi
  rw [List.getElem?_reverse hi] at e
  obtain ⟨v, ev, rv⟩ := (q.mono x).get e
  rw [← q.length] at ev
  refine ⟨⟨by rw [q.length]; exact hi, xs, v, .of ha1, ev⟩, fun y H2 hy => ?_⟩
  obtain ⟨e2, hy⟩ := hy
  subst e2
  have := hy xs (.of ha1)
  rw [ev] at this; cases this
  exact ⟨same_refl', rv⟩
theorem itd_revT {K : PySem.W.Frag} {M : Mm} {H : Hp} {a : Addr} {xs : List V} {ds : List D} (n : ¬ M.Has a) (ha : TupAt H a xs ds) (q : RDs M H xs ds) : ItD M H (RT.ItvT K a xs.length) ds.reverse := fun M1 H1 x tr => by
  have ha1 := (ha.to fun _ z => x.st n z).sq (K := K)
  refine ⟨fun i d e => ?_, by show xs.length ≤ _; rw [q.length, List.length_reverse]; exact Nat.le_refl _⟩
  have hi := lt_of_get e
  rw [List.length_reverse] at hi
  rw [List.getElem?_reverse hi] at e
  obtain ⟨v, ev, rv⟩ := (q.mono x).get e
  rw [← q.length] at ev
  refine ⟨⟨by rw [q.length]; exact hi, xs, v, ha1, ev⟩, fun y H2 hy => ?_⟩
  obtain ⟨e2, hy⟩ := hy
  subst e2
  have := hy xs ha1
  rw [ev] at this; cases this
  exact ⟨same_refl', rv⟩
def revI (f : EM) : IM := fun ρ h => obnd (f ρ h) fun w h1 => match w with
  | .dat (.list ds) => some (ds.reverse, h1)
  | .dat (.tuple ds) => some (ds.reverse, h1)
  | _ => none
theorem di_rev (hm : X.mg "reversed" = none) {e : Expr} {p pos : Pos} {f : EM} (he : DE X e f) (hg : Gl X "reversed" := by rfl) (hs : starEach [e] X.env = (false, eval e X.env) :: starEach [] X.env := by rfl) : DI X tg (.Call (.Name "reversed" p) [e] [] pos) (revI f) := (RT.pi_revA hg hm he hs).weak fun σ H R => by
  rintro ⟨M, h, ρ, ds, h', r, rs, e, q⟩
  unfold revI at e
  cases ef : f ρ h with
  | none => rw [ef] at e; cases e
  | some p =>
    obtain ⟨w, h1⟩ := p
    rw [ef] at e
    simp only [obnd_some] at e
    split at e
    · cases e
      refine ⟨M, h, ρ, r, rs, _, _, ef, fun M1 H1 v x1 r1 v1 => ?_⟩
      cases (show RD M1 H1 v _ from v1) with
      | lst n ha qa => exact ⟨_, _, rfl, .inl ⟨.of ha, q M1 H1 _ x1 r1 (itd_rev n ha qa)⟩⟩
    · cases e
      refine ⟨M, h, ρ, r, rs, _, _, ef, fun M1 H1 v x1 r1 v1 => ?_⟩
      cases (show RD M1 H1 v _ from v1) with
      | tup n ha qa => exact ⟨_, _, rfl, .inr ⟨ha.sq, q M1 H1 _ x1 r1 (itd_revT n ha qa)⟩⟩
    · cases e
def signs (z : Str) : List D := z.cps.toList.map fun c => .str ⟨#[c]⟩
def strI (f : EM) : IM := fun ρ h => obnd (f ρ h) fun w h1 => match w with
  | .dat (.str z) => some (signs z, h1)
  | _ => none
end
end DL
set_option maxRecDepth 100000
set_option maxHeartbeats 4000000
namespace DL
open PySem PySem.Spec PyProof.Rows L2
def wipeE (ρ : Env) : List Nat → Env
  | [] => ρ
  | v :: vs => (wipeE ρ vs).set v none
theorem RS.none_at {M : Mm} {H : Hp} {ρ : Env} {σ : L2.St} (r : RS M H ρ σ) (i : Nat) : RS M H (ρ.set i none) (σ.set i none) := by
  refine ⟨by simp [r.1], fun j u e => ?_⟩
  by_cases hj : i = j
  · subst hj
    by_cases hi : i < ρ.length
    · rw [List.getElem?_set_self hi] at e; cases e
    · rw [List.getElem?_eq_none (by simpa using hi)] at e; cases e
  · rw [List.getElem?_set_ne hj] at e ⊢
    exact r.2 j u e
theorem RS.wipe {M : Mm} {H : Hp} {ρ : Env} {σ : L2.St} (r : RS M H ρ σ) : ∀ vs : List Nat, RS M H (wipeE ρ vs) (L2.wipe σ vs)
  | [] => r
  | v :: vs => (RS.wipe r vs).none_at v
theorem wipe_get (σ : L2.St) : ∀ (vs : List Nat) (j : Nat), (L2.wipe σ vs)[j]? = if j ∈ vs ∧ j < σ.length then some none else σ[j]?
  | [], j => by simp [L2.wipe]
  | v :: vs, j => by
    unfold L2.wipe
    by_cases hj : v = j
    · subst hj
      by_cases hl : v < σ.length
      · rw [List.getElem?_set_self (by rw [L2.wipe_length]; exact hl), if_pos ⟨List.mem_cons_self, hl⟩]
      · rw [List.getElem?_eq_none (by rw [List.length_set, L2.wipe_length]; omega), if_neg (fun z => hl z.2), List.getElem?_eq_none (by omega)]
    · rw [List.getElem?_set_ne hj, wipe_get σ vs j]
      have : j ∈ v :: vs ↔ j ∈ vs := by simp [Ne.symm hj]
      simp only [this]
theorem wipe_of {σ σ2 : L2.St} {ts vs : List Nat} (hl : σ2.length = σ.length) (ho : ∀ j, j ∉ ts → σ2[j]? = (L2.wipe σ vs)[j]?) (hs : ∀ j ∈ ts, j ∈ vs) : L2.wipe σ2 vs = L2.wipe σ vs := by
  refine List.ext_getElem? fun j => ?_
  rw [wipe_get, wipe_get, hl]
  by_cases h : j ∈ vs ∧ j < σ.length
  · rw [if_pos h, if_pos h]
  · rw [if_neg h, if_neg h]
    by_cases hj : j ∈ vs
    · have : σ.length ≤ j := Nat.le_of_not_lt fun z => h ⟨hj, z⟩
      rw [List.getElem?_eq_none (by omega), List.getElem?_eq_none this]
    · rw [ho j fun z => hj (hs j z), wipe_get, if_neg h]
def lcL (k : TM) (t : BM) (f : EM) (ρ : Env) : List D → Hh → Option (List D × Hh)
  | [], h => some ([], h)
  | d :: ds, h => match k (.dat d) ρ h with
    | some ρ1 => obnd (t ρ1 h) fun b h2 => if b = true then obnd (f ρ1 h2) fun w h3 => match w with
        | .dat d' => obnd (lcL k t f ρ ds h3) fun r h4 => some (d' :: r, h4)
        | _ => none
      else lcL k t f ρ ds h2
    | none => none
def fLc (m : Bool) (gi : IM) (k : TM) (t : BM) (f : EM) (vs : List Nat) : EM := fun ρ h => obnd (gi ρ h) fun ds h1 => obnd (lcL k t f (wipeE ρ vs) ds h1) fun r h2 => if r.length ≤ sizeLine then mkL m r h2 else none
def bYes : BM := fun _ h => some (true, h)
abbrev DTs (X : Cx) (ifs : List Expr) (t : BM) : Prop := PTs X ifs (tT t)
section
variable {X : Cx}
theorem _root_.L2.PTs.weak {X : Cx} {e : List Expr} {t t' : TT} (h : PTs X e t) (i : ∀ σ H Q, t' σ H Q → t σ H Q) : PTs X e t' := ⟨fun pins s σ H Q I q => h.run pins s σ H Q I (i σ H Q q)⟩
theorem dts_nil : DTs X [] bYes := pts_nil.weak fun σ H Q => by
  rintro ⟨M, h, ρ, r, rs, c⟩
  exact c.fin (.refl _ _) r rfl
end
def Mm.made (M : Mm) (p : Addr) : Mm := ⟨p :: M.u, M.m⟩
theorem ext_made {M : Mm} {H : Hp} {p : Addr} {o : HO} (n : H p = none) : Ext M (M.made p) H (upd H p o) :=
  ⟨fun a m => by
    rcases List.mem_cons.mp m with rfl | m
    · exact .inr n
    · exact .inl m, trk_upd, fun a u e _ => by rw [upd_ne (ne_of_none e n)]; exact e, fun _ m => .inl m, Nat.le_refl _, fun _ _ => .inl rfl⟩
theorem Rep.make {M : Mm} {H : Hp} {h : Hh} (r : Rep M H h) {p : Addr} {o : HO} (n : H p = none) (ho : tpO o = false := by rfl) : Rep (M.made p) (upd H p o) h := by
  refine ⟨fun a m => ?_, r.len, r.inj, fun i a e => ?_, r.dead⟩
  · rcases List.mem_cons.mp m with rfl | m
    · exact ⟨fun z => r.new n (.inr z), o, upd_same, ho⟩
    · obtain ⟨h1, u, e, ht⟩ := r.us a m
      exact ⟨h1, u, by rw [upd_ne (ne_of_none e n)]; exact e, ht⟩
  · obtain ⟨u, hu, ro⟩ := r.at_ i a e
    obtain ⟨z, hz⟩ := ro.some_
    exact ⟨u, hu, ro.move (ext_made n) (upd_ne (ne_of_none hz n))⟩
mutual
theorem RD.off {M : Mm} {H : Hp} {p : Addr} {o : HO} (hp : p ∈ M.u) : ∀ {v : V} {d : D}, RD M H v d → RD M (upd H p o) v d
  | _, _, .non => .non
  | _, _, .bl b => .bl b
  | _, _, .int i => .int i
  | _, _, .str s => .str s
  | _, _, .tup n e r => .tup n (e.to fun _ q => by rw [upd_ne (fun z => n (.inl (by rw [z]; exact hp)))]; exact q) (RDs.off hp r)
  | _, _, .lst n e r => .lst n (by rw [upd_ne (fun z => n (.inl (by rw [z]; exact hp)))]; exact e) (RDs.off hp r)
  | _, _, .dic n e r => .dic n (by rw [upd_ne (fun z => n (.inl (by rw [z]; exact hp)))]; exact e) (RDk.off hp r)
  | _, _, .dit n e r => .dit n (by rw [upd_ne (fun z => n (.inl (by rw [z]; exact hp)))]; exact e) (RDt.off hp r)
theorem RDs.off {M : Mm} {H : Hp} {p : Addr} {o : HO} (hp : p ∈ M.u) : ∀ {v : List V} {d : List D}, RDs M H v d → RDs M (upd H p o) v d
  | _, _, .nil => .nil
  | _, _, .cons a r => .cons (RD.off hp a) (RDs.off hp r)
theorem RDk.off {M : Mm} {H : Hp} {p : Addr} {o : HO} (hp : p ∈ M.u) : ∀ {v : List (Key × V)} {d : List (D × D)}, RDk M H v d → RDk M (upd H p o) v d
  | _, _, .nil => .nil
  | _, _, .cons a r => .cons (RD.off hp a) (RDk.off hp r)
theorem RDt.off {M : Mm} {H : Hp} {p : Addr} {o : HO} (hp : p ∈ M.u) : ∀ {v : List (List Key × V)} {d : List (D × D)}, RDt M H v d → RDt M (upd H p o) v d
  | _, _, .nil => .nil
  | _, _, .cons a r => .cons (RD.off hp a) (RDt.off hp r)
end
theorem RO.off {M : Mm} {H : Hp} {p a : Addr} {o : HO} {m : MO} (hp : p ∈ M.u) (hn : a ≠ p) (r : RO M H a m) : RO M (upd H p o) a m := by
  cases m with
  | lst ds => obtain ⟨xs, h, r⟩ := r; exact ⟨xs, by rw [upd_ne hn]; exact h, r.off hp⟩
  | dic ds => obtain ⟨xs, h, r⟩ := r; exact ⟨xs, by rw [upd_ne hn]; exact h, r.off hp⟩
  | dit ds => obtain ⟨xs, h, r⟩ := r; exact ⟨xs, by rw [upd_ne hn]; exact h, r.off hp⟩
  | ins C fs => obtain ⟨dx, gs, h, r⟩ := r; exact ⟨dx, gs, by rw [upd_ne hn]; exact h, r.to fun _ _ => RD.off hp⟩
  | tab q P =>
    obtain ⟨z, ps, h, t, r⟩ := r
    refine ⟨z, ps, by rw [upd_ne hn]; exact h, t, fun pos cv hc => ?_⟩
    obtain ⟨c, e1, n, e2⟩ := r pos cv hc
    exact ⟨c, e1, n, by rw [upd_ne (fun z => n (.inl (by rw [z]; exact hp)))]; exact e2⟩
theorem Rep.off {M : Mm} {H : Hp} {h : Hh} (r : Rep M H h) {p : Addr} {o : HO} (hp : p ∈ M.u) (ho : tpO o = false := by rfl) : Rep M (upd H p o) h := by
  refine ⟨fun a m => ?_, r.len, r.inj, fun i a e => ?_, r.dead⟩
  · obtain ⟨h1, u, e, ht⟩ := r.us a m
    refine ⟨h1, ?_⟩
    by_cases z : a = p
    · subst z; exact ⟨o, upd_same, ho⟩
    · exact ⟨u, by rw [upd_ne z]; exact e, ht⟩
  · obtain ⟨u, hu, ro⟩ := r.at_ i a e
    exact ⟨u, hu, ro.off hp fun z => (r.us p hp).1 (by rw [← z]; exact List.mem_of_getElem? e)⟩
theorem RV.off {M : Mm} {H : Hp} {p : Addr} {o : HO} {v : V} (hp : p ∈ M.u) : ∀ {w : W}, RV M H v w → RV M (upd H p o) v w
  | .dat _, r => RD.off hp r
  | .ref _, r => r
  | .scr _, ⟨a, u, e, n, q⟩ => ⟨a, u, e, n, by rw [upd_ne (fun z => n (.inl (by rw [z]; exact hp)))]; exact q⟩
  | .pack _, ⟨a, u, e, n, q, r⟩ => ⟨a, u, e, n, by rw [upd_ne (fun z => n (.inl (by rw [z]; exact hp)))]; exact q, r.move (fun _ _ z => z) fun _ _ => RD.off hp⟩
  | .lock _, ⟨a, u, kvs, e, n, q, r⟩ => ⟨a, u, kvs, e, n, by rw [upd_ne (fun z => n (.inl (by rw [z]; exact hp)))]; exact q, r.off hp⟩
  | .ins _ _, ⟨a, u, gs, e, n, q, r⟩ => ⟨a, u, gs, e, n, by rw [upd_ne (fun z => n (.inl (by rw [z]; exact hp)))]; exact q, r.to fun _ _ => RD.off hp⟩
  | .row _, ⟨a, o, xs, e, n, d, q, r⟩ => ⟨a, o, xs, e, n, d, by rw [upd_ne (fun z => n (.inl (by rw [z]; exact hp)))]; exact q, RDs.off hp r⟩
  | .exc _ _ _, ⟨a, d, gs, e, r⟩ => ⟨a, d, gs, e, r.to (fun _ _ _ n => n) (fun b _ q _ n => by rw [upd_ne (fun z => n (.inl (by rw [z]; exact hp)))]; exact q) fun _ _ => RD.off hp⟩
theorem RS.off {M : Mm} {H : Hp} {ρ : Env} {σ : L2.St} {p : Addr} {o : HO} (hp : p ∈ M.u) (r : RS M H ρ σ) : RS M (upd H p o) ρ σ := ⟨r.1, fun i w e => by
  obtain ⟨v, e1, q⟩ := r.2 i w e
  exact ⟨v, e1, q.off hp⟩⟩
theorem RV.moveu {M M' : Mm} {H H' : Hp} (x : Ext M M' H H') (hm : M'.m = M.m) {v : V} : ∀ {w : W}, RV M H v w → RV M' H' v w
  | .dat _, r => RD.mono x r
  | .ref n, ⟨a, e, r⟩ => ⟨a, by rw [hm]; exact e, r⟩
  | .scr ns, ⟨a, o, e, n, q⟩ => ⟨a, o, e, x.out n q, x.st n q⟩
  | .pack its, ⟨a, xs, e, n, q, r⟩ => ⟨a, xs, e, x.out n q, x.st n q, r.move (fun i b z => by rw [hm]; exact z) fun _ _ => RD.mono x⟩
  | .lock es, ⟨a, o, kvs, e, n, q, r⟩ => ⟨a, o, kvs, e, x.out n q, x.st n q, r.mono x⟩
  | .ins _ _, ⟨a, o, gs, e, n, q, r⟩ => ⟨a, o, gs, e, x.out n q, x.st n q, r.to fun _ _ => RD.mono x⟩
  | .row _, ⟨a, o, xs, e, n, d, q, r⟩ => ⟨a, o, xs, e, x.out n q, d, x.st n q, RDs.mono x r⟩
  | .exc _ _ _, ⟨a, d, gs, e, r⟩ => ⟨a, d, gs, e, r.to (fun _ _ q n => x.out n q) (fun _ _ q _ n => x.st n q) fun _ _ => RD.mono x⟩
theorem RS.moveu {M M' : Mm} {H H' : Hp} (x : Ext M M' H H') (hm : M'.m = M.m) {ρ : Env} {σ : L2.St} (r : RS M H ρ σ) : RS M' H' ρ σ := ⟨r.1, fun i w e => by
  obtain ⟨v, e1, q⟩ := r.2 i w e
  exact ⟨v, e1, q.moveu x hm⟩⟩
mutual
theorem RD.sub {M M' : Mm} {H : Hp} (x : ∀ a, M'.Has a → M.Has a) : ∀ {v : V} {d : D}, RD M H v d → RD M' H v d
  | _, _, .non => .non
  | _, _, .bl b => .bl b
  | _, _, .int i => .int i
  | _, _, .str s => .str s
  | _, _, .tup n e r => .tup (fun z => n (x _ z)) e (RDs.sub x r)
  | _, _, .lst n e r => .lst (fun z => n (x _ z)) e (RDs.sub x r)
  | _, _, .dic n e r => .dic (fun z => n (x _ z)) e (RDk.sub x r)
  | _, _, .dit n e r => .dit (fun z => n (x _ z)) e (RDt.sub x r)
theorem RDs.sub {M M' : Mm} {H : Hp} (x : ∀ a, M'.Has a → M.Has a) : ∀ {v : List V} {d : List D}, RDs M H v d → RDs M' H v d
  | _, _, .nil => .nil
  | _, _, .cons a r => .cons (RD.sub x a) (RDs.sub x r)
theorem RDk.sub {M M' : Mm} {H : Hp} (x : ∀ a, M'.Has a → M.Has a) : ∀ {v : List (Key × V)} {d : List (D × D)}, RDk M H v d → RDk M' H v d
  | _, _, .nil => .nil
  | _, _, .cons a r => .cons (RD.sub x a) (RDk.sub x r)
theorem RDt.sub {M M' : Mm} {H : Hp} (x : ∀ a, M'.Has a → M.Has a) : ∀ {v : List (List Key × V)} {d : List (D × D)}, RDt M H v d → RDt M' H v d
  | _, _, .nil => .nil
  | _, _, .cons a r => .cons (RD.sub x a) (RDt.sub x r)
end
theorem RO.sub {M M' : Mm} {H : Hp} {a : Addr} {m : MO} (x : ∀ a, M'.Has a → M.Has a) (r : RO M H a m) : RO M' H a m := by
  cases m with
  | lst ds => obtain ⟨xs, h, r⟩ := r; exact ⟨xs, h, r.sub x⟩
  | dic ds => obtain ⟨xs, h, r⟩ := r; exact ⟨xs, h, r.sub x⟩
  | dit ds => obtain ⟨xs, h, r⟩ := r; exact ⟨xs, h, r.sub x⟩
  | ins C fs => obtain ⟨dx, gs, h, r⟩ := r; exact ⟨dx, gs, h, r.to fun _ _ => RD.sub x⟩
  | tab q P =>
    obtain ⟨z, ps, h, t, r⟩ := r
    refine ⟨z, ps, h, t, fun pos cv hc => ?_⟩
    obtain ⟨c, e1, n, e2⟩ := r pos cv hc
    exact ⟨c, e1, fun z => n (x _ z), e2⟩
theorem less_has {u : List Addr} {m : List (Option Addr)} {p : Addr} : ∀ b, Mm.Has ⟨u, m⟩ b → Mm.Has ⟨p :: u, m⟩ b := fun b z => by
  rcases z with z | z
  · exact .inl (List.mem_cons_of_mem _ z)
  · exact .inr z
theorem Rep.told {u : List Addr} {m : List (Option Addr)} {p : Addr} {H : Hp} {h : Hh} (r : Rep ⟨p :: u, m⟩ H h) : Rep ⟨u, m⟩ H h :=
  ⟨fun a z => r.us a (List.mem_cons_of_mem _ z), r.len, r.inj, fun i a e => by
    obtain ⟨o, h1, h2⟩ := r.at_ i a e
    exact ⟨o, h1, h2.sub less_has⟩, r.dead⟩
theorem Rep.owned {u : List Addr} {m : List (Option Addr)} {p : Addr} {H : Hp} {h : Hh} {o : MO} (r : Rep ⟨p :: u, m⟩ H h) (hp : p ∉ u) (ro : RO ⟨p :: u, m⟩ H p o) : Rep ⟨u, m ++ [some p]⟩ H (h ++ [some o]) := by
  have hpm : some p ∉ m := (r.us p List.mem_cons_self).1
  have hsub : ∀ b, Mm.Has ⟨u, m ++ [some p]⟩ b → Mm.Has ⟨p :: u, m⟩ b := fun b z => by
    rcases z with z | z
    · exact .inl (List.mem_cons_of_mem _ z)
    · rcases List.mem_append.mp z with z | z
      · exact .inr z
      · have : b = p := by simpa using z
        rw [this]; exact .inl List.mem_cons_self
  have rl : m.length = h.length := r.len
  have cases_ : ∀ (i : Nat) (z : Option Addr), (m ++ [some p])[i]? = some z → (i < m.length ∧ m[i]? = some z) ∨ (i = m.length ∧ z = some p) := fun i z e => by
    by_cases hi : i < m.length
    · rw [List.getElem?_append_left hi] at e
      exact .inl ⟨hi, e⟩
    · rw [List.getElem?_append_right (by omega)] at e
      by_cases h0 : i - m.length = 0
      · rw [h0] at e
        exact .inr ⟨by omega, by simpa using e.symm⟩
      · rw [List.getElem?_eq_none (by simp; omega)] at e
        cases e
  refine ⟨fun a z => ?_, by simp [rl], fun i j a e1 e2 => ?_, fun i a e => ?_, fun i e => ?_⟩
  · obtain ⟨h1, q⟩ := r.us a (List.mem_cons_of_mem _ z)
    refine ⟨fun y => ?_, q⟩
    rcases List.mem_append.mp y with y | y
    · exact h1 y
    · have : a = p := by simpa using y
      rw [this] at z; exact hp z
  · rcases cases_ i _ e1 with ⟨h1, e1⟩ | ⟨h1, e1⟩ <;> rcases cases_ j _ e2 with ⟨h2, e2⟩ | ⟨h2, e2⟩
    · exact r.inj i j a e1 e2
    · cases e2; exact absurd (List.mem_of_getElem? e1) hpm
    · cases e1; exact absurd (List.mem_of_getElem? e2) hpm
    · omega
  · rcases cases_ i _ e with ⟨h1, e1⟩ | ⟨h1, e1⟩
    · obtain ⟨z, hz, q⟩ := r.at_ i a e1
      exact ⟨z, by rw [List.getElem?_append_left (by rw [← rl]; exact h1)]; exact hz, q.sub hsub⟩
    · cases e1
      subst h1
      exact ⟨o, by rw [rl]; simp, ro.sub hsub⟩
  · rcases cases_ i _ e with ⟨h1, e1⟩ | ⟨h1, e1⟩
    · rw [List.getElem?_append_left (by rw [← rl]; exact h1)]
      exact r.dead i e1
    · cases e1
theorem ExtE.reu {M M' : Mm} {H H' : Hp} (x : ExtE M M' H H') (u : List Addr) : ExtE ⟨u, M.m⟩ ⟨u, M'.m⟩ H H' := ⟨rfl, x.trk, x.stab, x.fresh, x.len, x.pre⟩
theorem ExtE.beside {M M' : Mm} {H H' : Hp} {p : Addr} {o : HO} (x : ExtE M M' H H') (n : H p = none) : ExtE M M' H (upd H' p o) :=
  ⟨x.same, fun a u e => by obtain ⟨u', e'⟩ := x.trk a u e; exact trk_upd a u' e', fun a u e na => by rw [upd_ne (ne_of_none e n)]; exact x.stab a u e na, x.fresh, x.len, x.pre⟩
theorem ExtE.into {M : Mm} {m : List (Option Addr)} {H H' : Hp} {p : Addr} (x : ExtE M ⟨M.u, m⟩ H H') (n : H p = none) : Ext M ⟨p :: M.u, m⟩ H H' :=
  ⟨fun a z => by
    rcases List.mem_cons.mp z with rfl | z
    · exact .inr n
    · exact .inl z, x.trk, x.stab, x.fresh, x.len, fun i hi => .inl (x.pre i hi)⟩
theorem lc_imp {gi : IM} {k : TM} {t : BM} {f : EM} {ts vs : List Nat} {m : Bool} (hs : ∀ j ∈ ts, j ∈ vs) : ∀ σ H Q, tE (fLc m gi k t f vs) σ H Q → tLc (tI gi) (tGd ts k) (tT t) (tE f) vs σ H Q := fun σ H Q => by
  rintro ⟨M, h, ρ, r, rs, c⟩
  obtain ⟨ds, h1, e1, c1⟩ := Cont.bind (δ := Unit) c
  refine ⟨M, h, ρ, ds, h1, r, rs, e1, fun M1 H1 J x1 r1 it D nD => ?_⟩
  obtain ⟨out, h2, e2, c2⟩ := Cont.bind (δ := Unit) (c1 M1 H1 x1)
  have x0 := ext_made (M := M1) (o := .lst []) nD
  have r0 := r1.make (o := .lst []) nD
  have rs0 : RS (M1.made D) (upd H1 D (.lst [])) (wipeE ρ vs) (L2.wipe σ vs) := ((rs.mono x1).moveu x0 rfl).wipe vs
  let P : Nat → Hp → Prop := fun i Hi => ∃ mi hi acc dacc rest, ExtE M1 ⟨M1.u, mi⟩ H1 Hi ∧ Rep ⟨D :: M1.u, mi⟩ Hi hi ∧ RS ⟨D :: M1.u, mi⟩ Hi (wipeE ρ vs) (L2.wipe σ vs) ∧ Hi D = some (.lst acc) ∧ RDs ⟨D :: M1.u, mi⟩ Hi acc dacc ∧ lcL k t f (wipeE ρ vs) (ds.drop i) hi = some (rest, h2) ∧ dacc ++ rest = out
  have outlen : out.length ≤ sizeLine := by
    have c3 := c2 M1 H1 (.refl _ _)
    by_cases hz : out.length ≤ sizeLine
    · exact hz
    · rw [if_neg hz] at c3; exact c3.no.elim
  refine ⟨fun i n Hi => n + i = ds.length ∧ P i Hi, ⟨ds.length, by omega, M1.m, h1, [], [], out, (ExtE.refl M1 H1).beside nD, r0, rs0, upd_same, .nil, by rw [List.drop_zero]; exact e2, rfl⟩, fun i n Hi w => ?_⟩
  obtain ⟨hn, mi, hi, acc, dacc, rest, xi, ri, rsi, hD, qa, el, eo⟩ := w
  have inD : D ∈ (⟨D :: M1.u, mi⟩ : Mm).u := List.mem_cons_self
  have itx := xi.into nD
  obtain ⟨ity, its⟩ := it _ Hi itx fun a ha => ri.tracked ha
  by_cases hlt : i < ds.length
  · refine .inr ?_
    have ed : ds[i]? = some ds[i] := List.getElem?_eq_getElem hlt
    obtain ⟨go, yl⟩ := ity i _ ed
    rw [List.drop_eq_getElem_cons hlt] at el
    refine ⟨go, P (i + 1), fun H' p => ⟨n - 1, by omega, by omega, p⟩, fun x H2 hy => ?_⟩
    obtain ⟨sm, rx⟩ := yl x H2 hy
    obtain ⟨ri2, xi2⟩ := ri.grow sm
    unfold lcL at el
    split at el
    · rename_i ρ1 ek
      refine ⟨_, hi, wipeE ρ vs, .dat ds[i], ρ1, ri2, rsi.mono xi2, rx, ek, fun σ2 rs2 l2 o2 => ⟨wipe_of (by rw [l2, L2.wipe_length]) o2 hs, ?_⟩⟩
      cases et : t ρ1 hi with
      | none => rw [et] at el; cases el
      | some pr =>
        obtain ⟨b, h3⟩ := pr
        rw [et] at el
        simp only [obnd_some] at el
        refine ⟨_, hi, ρ1, ri2, rs2, b, h3, et, fun M3 H3 b' x3 r3 eb => ?_⟩
        subst eb
        obtain ⟨u3, m3⟩ := M3
        obtain rfl : u3 = D :: M1.u := x3.same
        have xi3 : ExtE M1 ⟨M1.u, m3⟩ H1 H3 := xi.trans ((xi2.trans x3).reu M1.u)
        have hD3 : H3 D = some (.lst acc) := x3.stab _ _ (sm _ _ hD) fun z => (ri.us D inD).1 z
        cases b' with
        | false =>
          simp only [Bool.false_eq_true, if_false] at el
          exact iteF ⟨m3, h3, acc, dacc, rest, xi3, r3, (rsi.mono xi2).mono x3, hD3, (qa.mono xi2.ext).mono x3.ext, el, eo⟩
        | true =>
          simp only [if_true] at el
          refine iteT ?_
          cases ef : f ρ1 h3 with
          | none => rw [ef] at el; cases el
          | some pr =>
            obtain ⟨w, h4⟩ := pr
            rw [ef] at el
            simp only [obnd_some] at el
            refine ⟨_, h3, ρ1, r3, rs2.mono x3, w, h4, ef, fun M4 H4 y x4 r4 ry => ?_⟩
            obtain ⟨u4, m4⟩ := M4
            obtain rfl : u4 = D :: M1.u := x4.same
            have hD4 : H4 D = some (.lst acc) := x4.stab _ _ hD3 fun z => (r3.us D List.mem_cons_self).1 z
            split at el
            · rename_i d'
              cases er : lcL k t f (wipeE ρ vs) (ds.drop (i + 1)) h4 with
              | none => rw [er] at el; cases el
              | some pr =>
                obtain ⟨rest', h5⟩ := pr
                rw [er] at el
                simp only [obnd_some, Option.some.injEq, Prod.mk.injEq] at el
                obtain ⟨e5, e6⟩ := el
                subst e5 e6
                have q4 := ((qa.mono xi2.ext).mono x3.ext).mono x4.ext
                have hlen : acc.length < sizeLine := by
                  have h7 := congrArg List.length eo
                  rw [List.length_append, List.length_cons] at h7
                  rw [qa.length]; omega
                have in4 : D ∈ (⟨D :: M1.u, m4⟩ : Mm).u := List.mem_cons_self
                exact ⟨acc, hD4, hlen, m4, h4, acc ++ [y], dacc ++ [d'], rest', (xi3.trans (x4.reu M1.u)).beside nD, r4.off in4, (((rsi.mono xi2).mono x3).mono x4).off in4, upd_same, (q4.off in4).app (.cons (RD.off in4 ry) .nil), er, by rw [List.append_assoc]; exact eo⟩
            · cases el
    · cases el
  · refine .inl ?_
    have hi' : i = ds.length := by omega
    subst hi'
    rw [List.drop_length] at el
    cases el
    rw [List.append_nil] at eo
    subst eo
    refine ⟨its, ?_⟩
    have c3 := c2 M1 H1 (.refl _ _)
    rw [if_pos outlen] at c3
    have nu : D ∉ M1.u := fun z => r1.new nD (.inl z)
    have nm : some D ∉ mi := (ri.us D inD).1
    cases m with
    | false =>
      exact c3.fin xi ri.told (RD.lst (fun z => z.elim nu nm) hD (qa.sub less_has))
    | true =>
      refine c3.fin (M' := ⟨M1.u, mi ++ [some D]⟩) ⟨rfl, xi.trk, xi.stab, fun a z => ?_, Nat.le_trans xi.len (by simp), fun j hj => ?_⟩ (ri.owned nu ⟨acc, hD, qa⟩) ⟨D, ?_, rfl⟩
      · rcases List.mem_append.mp z with z | z
        · exact xi.fresh a z
        · have : a = D := by simpa using z
          rw [this]; exact .inr nD
      · have hl : j < mi.length := Nat.lt_of_lt_of_le hj xi.len
        show (mi ++ [some D])[j]? = _
        rw [List.getElem?_append_left hl]; exact xi.pre j hj
      · show (mi ++ [some D])[h2.length]? = _
        rw [← show mi.length = h2.length from ri.len]; simp
section
variable {X : Cx}
theorem d_lc (m : Bool) {elt tg iter : Expr} {ifs : List Expr} {scope : Scope} {own : List (Str × Nat)} {pos : Pos} {gi : IM} {ts : List Nat} {k : TM} {t : BM} {f : EM} (hc : X.calm = true) (hN : X.N.Nodup) (hi : DI X tg iter gi) (ok : BlkOk X.N X.env.scope scope own)
    (hg : ∀ (s : Shared) (H : Hp) (C : Addr) (cl : List (Str × Addr)) (fp : List Addr), DG (X.blk s H scope (compEnvC scope cl C X.env) fp) tg ts k) (ht : ∀ (s : Shared) (H : Hp) (C : Addr) (cl : List (Str × Addr)) (fp : List Addr), DTs (X.blk s H scope (compEnvC scope cl C X.env) fp) ifs t)
    (he : ∀ (s : Shared) (H : Hp) (C : Addr) (cl : List (Str × Addr)) (fp : List Addr), DE (X.blk s H scope (compEnvC scope cl C X.env) fp) elt f) (hsub : ∀ j ∈ ts, j ∈ own.map (·.2)) (hs : ∀ x, foldedSetIterable iter X.env x = pure x := by intro _; rfl) :
    DE X (.ListComp elt [⟨tg, iter, ifs, 0⟩] scope pos) (fLc m gi k t f (own.map (·.2))) := (pe_lc hc hN hi ok hg ht he hs).weak (lc_imp hsub)
end
end DL
set_option maxRecDepth 100000
set_option maxHeartbeats 4000000
namespace DL
open PySem PySem.Spec PyProof.Rows L2
inductive Out where
  | nx (ρ : Env) | rt (w : W) | bk (ρ : Env) | ct (ρ : Env)
abbrev SM := Env → Hh → Option (Out × Hh)
def SPost (D : Ends) (M0 : Mm) (H0 : Hp) (r : Option (Out × Hh)) : Prop := match r with
  | some (.nx ρ, h) => ∀ M H σ, M.u = M0.u → Ext M0 M H0 H → Rep M H h → RS M H ρ σ → D.nx σ H
  | some (.rt w, h) => ∀ M H v, M.u = M0.u → Ext M0 M H0 H → Rep M H h → RV M H v w → D.rt v H
  | some (.bk ρ, h) => ∀ M H σ, M.u = M0.u → Ext M0 M H0 H → Rep M H h → RS M H ρ σ → D.bk σ H
  | some (.ct ρ, h) => ∀ M H σ, M.u = M0.u → Ext M0 M H0 H → Rep M H h → RS M H ρ σ → D.ct σ H
  | none => False
theorem SPost.mono {D : Ends} {M0 M1 : Mm} {H0 H1 : Hp} {r : Option (Out × Hh)} (p : SPost D M0 H0 r) (u : M1.u = M0.u) (x : Ext M0 M1 H0 H1) : SPost D M1 H1 r := by
  match r, p with
  | some (.nx ρ, h), p => exact fun M H σ e y => p M H σ (e.trans u) (x.trans y)
  | some (.rt w, h), p => exact fun M H σ e y => p M H σ (e.trans u) (x.trans y)
  | some (.bk ρ, h), p => exact fun M H σ e y => p M H σ (e.trans u) (x.trans y)
  | some (.ct ρ, h), p => exact fun M H σ e y => p M H σ (e.trans u) (x.trans y)
def tS (f : SM) : TS := fun D σ H => ∃ M h ρ, Rep M H h ∧ RS M H ρ σ ∧ SPost D M H (f ρ h)
abbrev DS (X : Cx) (st : Stmt) (f : SM) : Prop := PS X st (tS f)
abbrev DSs (X : Cx) (sts : List Stmt) (f : SM) : Prop := PSs X sts (tS f)
def sSeq (f g : SM) : SM := fun ρ h => match f ρ h with
  | some (.nx ρ1, h1) => g ρ1 h1
  | r => r
def sSkip : SM := fun ρ h => some (.nx ρ, h)
def sNever : SM := fun _ _ => none
section
variable {X : Cx}
theorem seq_imp {f g : SM} : ∀ D σ H, tS (sSeq f g) D σ H → tSeq (tS f) (tS g) D σ H := fun D σ H => by
  rintro ⟨M, h, ρ, r, rs, p⟩
  refine ⟨M, h, ρ, r, rs, ?_⟩
  unfold sSeq at p
  cases e : f ρ h with
  | none => rw [e] at p; exact p
  | some q =>
    obtain ⟨o, h1⟩ := q
    rw [e] at p
    cases o with
    | nx ρ1 => exact fun M1 H1 σ1 u x r1 rs1 => ⟨M1, h1, ρ1, r1, rs1, p.mono u x⟩
    | rt w => exact p
    | bk ρ1 => exact p
    | ct ρ1 => exact p
theorem ds_cons {st : Stmt} {sts : List Stmt} {f g : SM} (h1 : DS X st f) (h2 : DSs X sts g) : DSs X (st :: sts) (sSeq f g) := (pss_cons h1 h2).weak seq_imp
theorem ds_one {st : Stmt} {f : SM} (h1 : DS X st f) : DSs X [st] f := pss_one h1
theorem ds_nil : DSs X [] sSkip := pss_nil.weak fun D σ H => by
  rintro ⟨M, h, ρ, r, rs, p⟩
  exact p M H σ rfl (.refl _ _) r rs
theorem ds_never {st : Stmt} : DS X st sNever := ps_never.weak fun D σ H => by
  rintro ⟨M, h, ρ, r, rs, p⟩
  exact p
def sbnd {α : Type} (r : Option (α × Hh)) (k : α → Hh → Option (Out × Hh)) : Option (Out × Hh) := match r with
  | some (a, h) => k a h
  | none => none
@[simp] theorem sbnd_some {α : Type} (a : α) (h : Hh) (k : α → Hh → Option (Out × Hh)) : sbnd (some (a, h)) k = k a h := rfl
@[simp] theorem sbnd_none {α : Type} (k : α → Hh → Option (Out × Hh)) : sbnd none k = none := rfl
theorem SPost.bind {α : Type} {D : Ends} {M : Mm} {H : Hp} {r : Option (α × Hh)} {k : α → Hh → Option (Out × Hh)} (p : SPost D M H (sbnd r k)) : ∃ a h1, r = some (a, h1) ∧ SPost D M H (k a h1) := by
  cases r with
  | none => exact p.elim
  | some q => obtain ⟨a, h1⟩ := q; exact ⟨a, h1, rfl, p⟩
def sExpr (f : EM) : SM := fun ρ h => sbnd (f ρ h) fun _ h1 => some (.nx ρ, h1)
theorem ds_expr {e : Expr} {pos : Pos} {f : EM} (he : DE X e f) (hs : swapsWith e none pos.line X.env = pure false := by rfl) : DS X (.Expr e pos) (sExpr f) := (ps_expr he hs).weak fun D σ H => by
  rintro ⟨M, h, ρ, r, rs, p⟩
  obtain ⟨w, h1, e1, p1⟩ := p.bind
  exact ⟨M, h, ρ, r, rs, w, h1, e1, fun M1 H1 v x1 r1 v1 => p1 M1 H1 σ x1.same x1.ext r1 (rs.mono x1)⟩
def sRet (f : EM) : SM := fun ρ h => sbnd (f ρ h) fun w h1 => some (.rt w, h1)
theorem ds_ret {e : Expr} {pos : Pos} {f : EM} (he : DE X e f) : DS X (.Return (some e) pos) (sRet f) := (ps_ret he).weak fun D σ H => by
  rintro ⟨M, h, ρ, r, rs, p⟩
  obtain ⟨w, h1, e1, p1⟩ := p.bind
  exact ⟨M, h, ρ, r, rs, w, h1, e1, fun M1 H1 v x1 r1 v1 => p1 M1 H1 v x1.same x1.ext r1 v1⟩
def sRetN : SM := fun _ h => some (.rt (.dat .none), h)
def sIf (t : BM) (f g : SM) : SM := fun ρ h => sbnd (t ρ h) fun b h1 => if b = true then f ρ h1 else g ρ h1
theorem ds_if {c : Expr} {a b : List Stmt} {pos : Pos} {t : BM} {f g : SM} (hc : DT X c t) (ha : DSs X a f) (hb : DSs X b g) : DS X (.If c a b pos) (sIf t f g) := (ps_if hc ha hb).weak fun D σ H => by
  rintro ⟨M, h, ρ, r, rs, p⟩
  obtain ⟨w, h1, e1, p1⟩ := p.bind
  refine ⟨M, h, ρ, r, rs, w, h1, e1, fun M1 H1 v x1 r1 v1 => ?_⟩
  subst v1
  have p2 := p1.mono x1.same x1.ext
  cases v with
  | true => exact iteT ⟨M1, h1, ρ, r1, rs.mono x1, p2⟩
  | false => exact iteF ⟨M1, h1, ρ, r1, rs.mono x1, p2⟩
def sAsg (f : EM) (g : TM) : SM := fun ρ h => sbnd (f ρ h) fun w h1 => match g w ρ h1 with
  | some ρ1 => some (.nx ρ1, h1)
  | none => none
theorem asg_imp {f : EM} {g : TM} {ts : List Nat} : ∀ D σ H, tS (sAsg f g) D σ H → tAsg (tE f) (tGd ts g) D σ H := fun D σ H => by
  rintro ⟨M, h, ρ, r, rs, p⟩
  obtain ⟨w, h1, e1, p1⟩ := p.bind
  refine ⟨M, h, ρ, r, rs, w, h1, e1, fun M1 H1 v x1 r1 v1 => ?_⟩
  split at p1
  · rename_i ρ1 e2
    exact ⟨M1, h1, ρ, w, ρ1, r1, rs.mono x1, v1, e2, fun σ' rs' _ _ => p1 M1 H1 σ' x1.same x1.ext r1 rs'⟩
  · exact p1.elim
theorem ds_asg {tg e : Expr} {pos : Pos} {f : EM} {g : TM} {ts : List Nat} (he : DE X e f) (hg : DG X tg ts g) (hs : swapsWithSole [tg] e pos.line X.env = pure false := by rfl) (hw : swappedStores [tg] e X.env = pure none := by rfl) (h1 : (assignEach [tg] X.env).map (·.2) = [assign tg X.env] := by rfl) : DS X (.Assign [tg] e pos) (sAsg f g) := (ps_asg he hg hs hw h1).weak asg_imp
theorem ds_set {i : Nat} {x : Str} {e : Expr} {pos pos' : Pos} {f : EM} (h : PS X (.Assign [.Name x pos'] e pos) (tAsg (tE f) (gName i))) : DS X (.Assign [.Name x pos'] e pos) (sAsg f (gN i)) := h.weak fun D σ H => by
  rintro ⟨M, h, ρ, r, rs, p⟩
  obtain ⟨w, h1, e1, p1⟩ := p.bind
  exact ⟨M, h, ρ, r, rs, w, h1, e1, fun M1 H1 v x1 r1 v1 => p1 M1 H1 _ x1.same x1.ext r1 ((rs.mono x1).set v1)⟩
def sPar (g : AM) (is : List Nat) : SM := fun ρ h => sbnd (g ρ h) fun ws h1 => if ws.length = is.length then some (.nx ((is.zip ws).foldl (fun ρ p => ρ.set p.1 (some p.2)) ρ), h1) else none
theorem ds_par2 {i j : Nat} {st : Stmt} {g : AM} (h : PS X st (tPar i j (tA g))) : DS X st (sPar g [i, j]) := h.weak fun D σ H => by
  rintro ⟨M, h, ρ, r, rs, p⟩
  obtain ⟨ws, h1, e1, p1⟩ := p.bind
  refine ⟨M, h, ρ, r, rs, ws, h1, e1, fun M1 H1 vs x1 r1 v1 => ?_⟩
  split at p1
  · rename_i hz
    match ws, hz, v1, p1 with
    | [w1, w2], _, v1, p1 =>
      obtain ⟨a, b, rfl, ra, rb⟩ := rvs2 v1
      exact ⟨a, b, rfl, p1 M1 H1 _ x1.same x1.ext r1 (((rs.mono x1).set ra).set rb)⟩
  · exact p1.elim
def setW (o i : W) (w : W) (h : Hh) : Option Hh := match o, i, w with
  | .ref n, .dat (.int k), .dat d => match lstAt h n with
    | some ds => match ixN ds.length k with
      | some j => some (h.set n (some (.lst (ds.set j d))))
      | none => none
    | none => none
  | _, _, _ => none
def sSub (f o i : EM) : SM := fun ρ h => sbnd (f ρ h) fun w h1 => sbnd (o ρ h1) fun a h2 => sbnd (i ρ h2) fun b h3 => match setW a b w h3 with
  | some h4 => some (.nx ρ, h4)
  | none => none
theorem sub_imp {f o i : EM} : ∀ D σ H, tS (sSub f o i) D σ H → tAsg (tE f) (gSub (tE o) (tE i) rSetL) D σ H := fun D σ H => by
  rintro ⟨M, h, ρ, r, rs, p⟩
  obtain ⟨w, h1, e1, p1⟩ := p.bind
  refine ⟨M, h, ρ, r, rs, w, h1, e1, fun M1 H1 v x1 r1 v1 => ?_⟩
  obtain ⟨a, h2, e2, p2⟩ := p1.bind
  refine ⟨M1, h1, ρ, r1, rs.mono x1, a, h2, e2, fun M2 H2 v' x2 r2 v2 => ?_⟩
  obtain ⟨b, h3, e3, p3⟩ := p2.bind
  refine ⟨M2, h2, ρ, r2, (rs.mono x1).mono x2, b, h3, e3, fun M3 H3 v'' x3 r3 v3 => ?_⟩
  have ra := v2.mono x3
  have rw' := (v1.mono x2).mono x3
  unfold setW at p3
  split at p3
  · rename_i h4 e4
    split at e4
    · rename_i n k d
      obtain ⟨ad, ea, rfl⟩ := ra
      cases (show RD M3 H3 _ _ from v3)
      split at e4
      · rename_i ds el
        obtain ⟨xs, hx, q⟩ := lstAt_ok r3 el ea
        split at e4
        · rename_i j ej
          cases e4
          refine ⟨ad, xs, k, j, rfl, rfl, hx, by rw [q.length]; exact ej, ?_⟩
          have x4 := ext_set (H := H3) (o := .lst (xs.set j v)) ea
          have xx := ((x1.trans x2).trans x3).trans x4
          exact p3 M3 _ σ xx.same xx.ext (r3.set ea ⟨_, upd_same, (q.set j rw').mono x4.ext⟩) (rs.mono xx)
        · cases e4
      · cases e4
    · cases e4
  · exact p3.elim
theorem ds_sub {o i e : Expr} {pos tpos : Pos} {f fo fi : EM} (he : DE X e f) (ho : DE X o fo) (hi : DE X i fi) (h : PS X (.Assign [.Subscript o i tpos] e pos) (tAsg (tE f) (gSub (tE fo) (tE fi) rSetL))) : DS X (.Assign [.Subscript o i tpos] e pos) (sSub f fo fi) := h.weak sub_imp
def forL (k : TM) (body : SM) : List D → Env → Hh → Option (Out × Hh)
  | [], ρ, h => some (.nx ρ, h)
  | d :: ds, ρ, h => match k (.dat d) ρ h with
    | some ρ1 => match body ρ1 h with
      | some (.nx ρ2, h2) => forL k body ds ρ2 h2
      | some (.ct ρ2, h2) => forL k body ds ρ2 h2
      | some (.bk ρ2, h2) => some (.nx ρ2, h2)
      | some (.rt w, h2) => some (.rt w, h2)
      | none => none
    | none => none
def sFor (gi : IM) (k : TM) (body : SM) : SM := fun ρ h => sbnd (gi ρ h) fun ds h1 => forL k body ds ρ h1
theorem for_imp {gi : IM} {k : TM} {body : SM} {ts : List Nat} : ∀ D σ H, tS (sFor gi k body) D σ H → tFor (tI gi) (tGd ts k) (tS body) D σ H := fun D σ H => by
  rintro ⟨M, h, ρ, r, rs, p⟩
  obtain ⟨ds, h1, e1, p1⟩ := p.bind
  refine ⟨M, h, ρ, ds, h1, r, rs, e1, fun M1 H1 J x1 r1 it => ?_⟩
  have p2 := p1.mono x1.same x1.ext
  let P : Nat → L2.St → Hp → Prop := fun i σi Hi => ∃ Mi hi ρi, Mi.u = M1.u ∧ Ext M1 Mi H1 Hi ∧ Rep Mi Hi hi ∧ RS Mi Hi ρi σi ∧ SPost D Mi Hi (forL k body (ds.drop i) ρi hi)
  refine ⟨fun i n σi Hi => n + i = ds.length ∧ P i σi Hi, ⟨ds.length, by omega, M1, h1, ρ, rfl, .refl _ _, r1, rs.mono x1, by rw [List.drop_zero]; exact p2⟩, fun i n σi Hi w => ?_⟩
  obtain ⟨hn, Mi, hi, ρi, ui, xi, ri, rsi, pi⟩ := w
  obtain ⟨ity, its⟩ := it Mi Hi xi fun a ha => ri.tracked ha
  by_cases hlt : i < ds.length
  · refine .inr ?_
    have ed : ds[i]? = some ds[i] := List.getElem?_eq_getElem hlt
    obtain ⟨go, yl⟩ := ity i _ ed
    rw [List.drop_eq_getElem_cons hlt] at pi
    refine ⟨go, P (i + 1), fun σ' H' q => ⟨n - 1, by omega, by omega, q⟩, fun x H2 hy => ?_⟩
    obtain ⟨sm, rx⟩ := yl x H2 hy
    obtain ⟨ri2, xi2⟩ := ri.grow sm
    unfold forL at pi
    split at pi
    · rename_i ρ1 ek
      refine ⟨Mi, hi, ρi, .dat ds[i], ρ1, ri2, rsi.mono xi2, rx, ek, fun σ2 rs2 _ _ => ⟨Mi, hi, ρ1, ri2, rs2, ?_⟩⟩
      have pi' := pi.mono rfl xi2.ext
      cases eb : body ρ1 hi with
      | none => rw [eb] at pi'; exact pi'.elim
      | some q =>
        obtain ⟨o, h3⟩ := q
        rw [eb] at pi'
        cases o with
        | nx ρ2 => exact fun M3 H3 σ3 u3 x3 r3 rs3 => ⟨M3, h3, ρ2, u3.trans ui, (xi.trans xi2.ext).trans x3, r3, rs3, SPost.mono pi' u3 x3⟩
        | ct ρ2 => exact fun M3 H3 σ3 u3 x3 r3 rs3 => ⟨M3, h3, ρ2, u3.trans ui, (xi.trans xi2.ext).trans x3, r3, rs3, SPost.mono pi' u3 x3⟩
        | bk ρ2 => exact pi'
        | rt w => exact pi'
    · exact pi.elim
  · refine .inl ?_
    have hi' : i = ds.length := by omega
    subst hi'
    rw [List.drop_length] at pi
    exact ⟨its, pi Mi Hi σi rfl (.refl _ _) ri rsi⟩
theorem ds_for {tg iter : Expr} {body : List Stmt} {pos : Pos} {gi : IM} {k : TM} {ts : List Nat} {f : SM} (hc : X.calm = true) (hp : PassesOwn (model X.prog X.w) X.A X.env X.xe) (hi : DI X tg iter gi) (hg : DG X tg ts k) (hb : DSs X body f) (hs : ∀ x, foldedSetIterable iter X.env x = pure x := by intro _; rfl) : DS X (.For tg iter body [] pos) (sFor gi k f) :=
  (ps_for hp hc hi hg hb hs).weak for_imp
end
abbrev FM := List W → Hh → Option (W × Hh)
def live (h : Hh) : List Bool := h.map Option.isSome
def leave (rm : Bool) (h : Hh) (w : W) (h' : Hh) : Option (W × Hh) := if live (h'.take h.length) = live h then match w with
    | .ref n => if n < h.length then some (.ref n, h'.take h.length) else match h'[n]? with
      | some (some (.lst ds)) => if rm = true then some (.ref h.length, h'.take h.length ++ [some (.lst ds)]) else some (.dat (.list ds), h'.take h.length)
      | some (some (.dic es)) => if rm = true then some (.ref h.length, h'.take h.length ++ [some (.dic es)]) else some (.dat (.dict es), h'.take h.length)
      | some (some (.dit es)) => if rm = true then some (.ref h.length, h'.take h.length ++ [some (.dit es)]) else none
      | _ => none
    | .pack _ => none
    | .lock _ => none
    | w => some (w, h'.take h.length)
  else none
def fnM (rm : Bool) (np nl : Nat) (body : SM) : FM := fun ws h => if ws.length = np then match body (ws.map some ++ List.replicate (nl - np) none) h with
    | some (.rt w, h') => leave rm h w h'
    | some (.nx _, h') => leave rm h (.dat .none) h'
    | _ => none
  else none
def spD (m : FM) : Sp := fun vs H Q _ => ∃ M h ws, Rep M H h ∧ RVs M H vs ws ∧ Cont RV (m ws h) M H Q
end DL
set_option maxRecDepth 100000
set_option maxHeartbeats 400000
namespace DL
open PySem PySem.Spec PyProof.Rows L2
theorem live_get {h h' : Hh} (e : live (h'.take h.length) = live h) {i : Nat} (hi : i < h.length) : (h'[i]?).map Option.isSome = (h[i]?).map Option.isSome := by
  have := congrArg (fun l => l[i]?) e
  simp only [live, List.getElem?_map] at this
  rw [List.getElem?_take_of_lt hi] at this
  exact this
section
variable {M M' : Mm} {H H' : Hp} {h h' : Hh}
theorem leave_same (x : Ext M M' H H') (r : Rep M H h) (r' : Rep M' H' h') (e : live (h'.take h.length) = live h) {i : Nat} {a : Addr} (q : M.m[i]? = some (some a)) : M'.m[i]? = some (some a) := by
  have hi := lt_of_get q
  rcases x.kill i hi with k | k
  · rw [k]; exact q
  · have d := r'.dead i k
    obtain ⟨o, ho, _⟩ := r.at_ i a q
    have l := live_get e (i := i) (by rw [← r.len]; exact hi)
    rw [d, ho] at l
    cases l
theorem leave_has (x : Ext M M' H H') (u : M'.u = M.u) (r : Rep M H h) (r' : Rep M' H' h') (e : live (h'.take h.length) = live h) : ∀ b, M.Has b → M'.Has b := fun b z => by
  rcases z with z | z
  · exact .inl (by rw [u]; exact z)
  · obtain ⟨i, hi, q⟩ := List.getElem_of_mem z
    exact .inr (List.mem_of_getElem? (leave_same x r r' e (i := i) (by rw [List.getElem?_eq_getElem hi, q])))
theorem leave_rep (x : Ext M M' H H') (u : M'.u = M.u) (r : Rep M H h) (r' : Rep M' H' h') (e : live (h'.take h.length) = live h) : Rep M H' (h'.take h.length) := by
  have hl : (h'.take h.length).length = h.length := by
    have := congrArg List.length e
    simpa [live] using this
  refine ⟨fun a z => ?_, by rw [hl]; exact r.len, r.inj, fun i a q => ?_, fun i q => ?_⟩
  · obtain ⟨h1, o, h2, ht⟩ := r.us a z
    exact ⟨h1, o, x.stab a o h2 h1, ht⟩
  · obtain ⟨o, ho, ro⟩ := r'.at_ i a (leave_same x r r' e q)
    exact ⟨o, by rw [List.getElem?_take_of_lt (by rw [← r.len]; exact lt_of_get q)]; exact ho, ro.sub (leave_has x u r r' e)⟩
  · have hi : i < h.length := by rw [← r.len]; exact lt_of_get q
    have l := live_get e hi
    rw [r.dead i q] at l
    rw [List.getElem?_take_of_lt hi]
    cases z : h'[i]? with
    | none => rw [z] at l; cases l
    | some o =>
      rw [z] at l
      cases o with
      | none => rfl
      | some _ => cases l
theorem leave_ext (x : Ext M M' H H') : ExtE M M H H' := ⟨rfl, x.trk, x.stab, fun _ m => .inl m, Nat.le_refl _, fun _ _ => rfl⟩
theorem leave_out (x : Ext M M' H H') (u : M'.u = M.u) (r : Rep M H h) (r' : Rep M' H' h') (e : live (h'.take h.length) = live h) {n : Nat} {a : Addr} (hn : ¬ n < h.length) (q : M'.m[n]? = some (some a)) : ¬ M.Has a := fun z => by
  rcases z with z | z
  · exact (r'.us a (by rw [u]; exact z)).1 (List.mem_of_getElem? q)
  · obtain ⟨i, hi, qi⟩ := List.getElem_of_mem z
    have q' := leave_same x r r' e (i := i) (by rw [List.getElem?_eq_getElem hi, qi])
    have := r'.inj i n a q' q
    rw [r.len] at hi
    omega
theorem leave_mut (x : Ext M M' H H') (u : M'.u = M.u) (r : Rep M H h) (r' : Rep M' H' h') (e : live (h'.take h.length) = live h) {n : Nat} {a : Addr} {o : MO} (hn : ¬ n < h.length) (q : M'.m[n]? = some (some a)) (ho : h'[n]? = some (some o)) :
    Rep ⟨M.u, M.m ++ [some a]⟩ H' (h'.take h.length ++ [some o]) ∧ ExtE M ⟨M.u, M.m ++ [some a]⟩ H H' := by
  have out := leave_out x u r r' e hn q
  obtain ⟨o', ho', ro⟩ := r'.at_ n a q
  rw [ho] at ho'; cases ho'
  have R := leave_rep x u r r' e
  have hsub : ∀ b, Mm.Has ⟨a :: M.u, M.m⟩ b → M'.Has b := fun b z => by
    rcases z with z | z
    · rcases List.mem_cons.mp z with rfl | z
      · exact .inr (List.mem_of_getElem? q)
      · exact .inl (by rw [u]; exact z)
    · exact leave_has x u r r' e b (.inr z)
  have R2 : Rep ⟨a :: M.u, M.m⟩ H' (h'.take h.length) := by
    refine ⟨fun b z => ?_, R.len, R.inj, fun i b z => ?_, R.dead⟩
    · rcases List.mem_cons.mp z with rfl | z
      · exact ⟨fun y => out (.inr y), ro.kind⟩
      · exact R.us b z
    · obtain ⟨w, hw, rw'⟩ := r'.at_ i b (leave_same x r r' e z)
      exact ⟨w, by rw [List.getElem?_take_of_lt (by rw [← r.len]; exact lt_of_get z)]; exact hw, rw'.sub hsub⟩
  refine ⟨R2.owned (fun y => out (.inl y)) (ro.sub hsub), ⟨rfl, x.trk, x.stab, fun b z => ?_, by simp, fun i hi => List.getElem?_append_left hi⟩⟩
  rcases List.mem_append.mp z with z | z
  · exact .inl z
  · have : b = a := by simpa using z
    subst this
    exact x.fresh b (List.mem_of_getElem? q)
theorem leave_ok {rm : Bool} {w : W} {v : V} {Q : VK} (x : Ext M M' H H') (u : M'.u = M.u) (r : Rep M H h) (r' : Rep M' H' h') (rv : RV M' H' v w) (c : Cont RV (leave rm h w h') M H Q) : Q v H' := by
  unfold leave at c
  split at c
  · rename_i e
    have sub := leave_has x u r r' e
    have R := leave_rep x u r r' e
    split at c
    · rename_i n
      obtain ⟨a, ea, rfl⟩ := rv
      split at c
      · rename_i hn
        refine c.fin (leave_ext x) R ⟨a, ?_, rfl⟩
        rcases x.kill n (by rw [r.len]; exact hn) with k | k
        · rw [← k]; exact ea
        · rw [ea] at k; cases k
      · rename_i hn
        have out := leave_out x u r r' e hn ea
        obtain ⟨o, ho, ro⟩ := r'.at_ n a ea
        rw [ho] at c
        have hlen : M.m.length = (h'.take h.length).length := R.len
        have hl : (h'.take h.length).length = h.length := by
          have := congrArg List.length e
          simpa [live] using this
        cases o with
        | lst ds =>
          obtain ⟨xs, hx, q⟩ := ro
          cases rm with
          | false => exact c.fin (leave_ext x) R (RD.lst out hx (q.sub sub))
          | true =>
            obtain ⟨R2, x2⟩ := leave_mut x u r r' e hn ea ho
            exact c.fin x2 R2 ⟨a, by show (M.m ++ [some a])[h.length]? = _; rw [← hl, ← hlen]; simp, rfl⟩
        | dic ds =>
          obtain ⟨xs, hx, q⟩ := ro
          cases rm with
          | false => exact c.fin (leave_ext x) R (RD.dic out hx (q.sub sub))
          | true =>
            obtain ⟨R2, x2⟩ := leave_mut x u r r' e hn ea ho
            exact c.fin x2 R2 ⟨a, by show (M.m ++ [some a])[h.length]? = _; rw [← hl, ← hlen]; simp, rfl⟩
        | dit ds =>
          obtain ⟨xs, hx, q⟩ := ro
          cases rm with
          | false => exact c.no.elim
          | true =>
            obtain ⟨R2, x2⟩ := leave_mut x u r r' e hn ea ho
            exact c.fin x2 R2 ⟨a, by show (M.m ++ [some a])[h.length]? = _; rw [← hl, ← hlen]; simp, rfl⟩
        | tab q P => exact c.no.elim
        | ins C fs => exact c.no.elim
    · exact c.no.elim
    · exact c.no.elim
    · rename_i w' hw hp hk
      cases w with
      | ref n => exact absurd rfl (hw n)
      | pack n => exact absurd rfl (hp n)
      | lock n => exact absurd rfl (hk n)
      | dat d => exact c.fin (leave_ext x) R (RD.sub sub rv)
      | ins C fs =>
        obtain ⟨a, dx, gs, e1, n, q, rf⟩ := rv
        exact c.fin (leave_ext x) R ⟨a, dx, gs, e1, fun z => n (sub a z), q, rf.to fun _ _ => RD.sub sub⟩
      | row ds =>
        obtain ⟨a, o, xs, e1, n, dn, q, r1⟩ := rv
        exact c.fin (leave_ext x) R ⟨a, o, xs, e1, fun z => n (sub a z), dn, q, RDs.sub sub r1⟩
      | exc k C fs =>
        obtain ⟨a, d, gs, e1, r1⟩ := rv
        exact c.fin (leave_ext x) R ⟨a, d, gs, e1, r1.to (fun b _ _ n z => n (sub b z)) (fun _ _ q _ _ => q) fun _ _ => RD.sub sub⟩
      | scr ns =>
        obtain ⟨a, o, e1, n, q⟩ := rv
        exact c.fin (leave_ext x) R ⟨a, o, e1, fun z => n (sub a z), q⟩
  · exact c.no.elim
end
theorem rs_start {M : Mm} {H : Hp} {vs : List V} {ws : List W} (r : RVs M H vs ws) (n : Nat) : RS M H (ws.map some ++ List.replicate n none) (vs.map some ++ List.replicate n none) := by
  refine ⟨by simp [r.length], ?_⟩
  induction r with
  | nil =>
    intro i w e
    rw [List.map_nil, List.nil_append, List.getElem?_replicate] at e
    split at e <;> cases e
  | cons a t ih =>
    intro i w e
    cases i with
    | zero => simp at e; subst e; exact ⟨_, rfl, a⟩
    | succ i => exact ih i w (by simpa using e)
theorem rvs3 {M : Mm} {H : Hp} {vs : List V} {a b c : W} (r : RVs M H vs [a, b, c]) : ∃ x y z, vs = [x, y, z] ∧ RV M H x a ∧ RV M H y b ∧ RV M H z c := by
  cases r with
  | cons ra r => cases r with
    | cons rb r => cases r with
      | cons rc r => cases r; exact ⟨_, _, _, rfl, ra, rb, rc⟩
theorem ds_par3 {X : Cx} {i j l : Nat} {st : Stmt} {g : AM} (h : PS X st (tPar3 i j l (tA g))) : DS X st (sPar g [i, j, l]) := h.weak fun D σ H => by
  rintro ⟨M, h, ρ, r, rs, p⟩
  obtain ⟨ws, h1, e1, p1⟩ := p.bind
  refine ⟨M, h, ρ, r, rs, ws, h1, e1, fun M1 H1 vs x1 r1 v1 => ?_⟩
  split at p1
  · rename_i hz
    match ws, hz, v1, p1 with
    | [w1, w2, w3], _, v1, p1 =>
      obtain ⟨a, b, c, rfl, ra, rb, rc⟩ := rvs3 v1
      exact ⟨a, b, c, rfl, p1 M1 H1 _ x1.same x1.ext r1 ((((rs.mono x1).set ra).set rb).set rc)⟩
  · exact p1.elim
end DL
set_option maxRecDepth 100000
set_option maxHeartbeats 400000
namespace DL
open PySem PySem.Spec PyProof.Rows L2
def dcL (k : TM) (t : BM) (fk fv : EM) (ρ : Env) : List D → List (D × D) → Hh → Option (List (D × D) × Hh)
  | [], es, h => some (es, h)
  | d :: ds, es, h => match k (.dat d) ρ h with
    | some ρ1 => obnd (t ρ1 h) fun b h2 => if b = true then obnd (fk ρ1 h2) fun w h3 => obnd (fv ρ1 h3) fun v h4 => match w, v with
        | .dat kd, .dat d' => match dKey kd with
          | some key => if es.length < sizeLine then dcL k t fk fv ρ ds (putK' es key d') h4 else none
          | none => none
        | _, _ => none
      else dcL k t fk fv ρ ds es h2
    | none => none
def fDc (m : Bool) (gi : IM) (k : TM) (t : BM) (fk fv : EM) (vs : List Nat) : EM := fun ρ h => obnd (gi ρ h) fun ds h1 => obnd (dcL k t fk fv (wipeE ρ vs) ds [] h1) fun es h2 => mkK m es h2
theorem dc_imp {gi : IM} {k : TM} {t : BM} {fk fv : EM} {ts vs : List Nat} {m : Bool} (hs : ∀ j ∈ ts, j ∈ vs) : ∀ σ H Q, tE (fDc m gi k t fk fv vs) σ H Q → tDc (tI gi) (tGd ts k) (tT t) (tE fk) (tE fv) vs σ H Q := fun σ H Q => by
  rintro ⟨M, h, ρ, r, rs, c⟩
  obtain ⟨ds, h1, e1, c1⟩ := Cont.bind (δ := Unit) c
  refine ⟨M, h, ρ, ds, h1, r, rs, e1, fun M1 H1 J x1 r1 it D nD => ?_⟩
  obtain ⟨out, h2, e2, c2⟩ := Cont.bind (δ := Unit) (c1 M1 H1 x1)
  have x0 := ext_made (M := M1) (o := .dK []) nD
  have r0 := r1.make (o := .dK []) nD
  have rs0 : RS (M1.made D) (upd H1 D (.dK [])) (wipeE ρ vs) (L2.wipe σ vs) := ((rs.mono x1).moveu x0 rfl).wipe vs
  let P : Nat → Hp → Prop := fun i Hi => ∃ mi hi acc dacc, ExtE M1 ⟨M1.u, mi⟩ H1 Hi ∧ Rep ⟨D :: M1.u, mi⟩ Hi hi ∧ RS ⟨D :: M1.u, mi⟩ Hi (wipeE ρ vs) (L2.wipe σ vs) ∧ Hi D = some (.dK acc) ∧ RDk ⟨D :: M1.u, mi⟩ Hi acc dacc ∧ dcL k t fk fv (wipeE ρ vs) (ds.drop i) dacc hi = some (out, h2)
  refine ⟨fun i n Hi => n + i = ds.length ∧ P i Hi, ⟨ds.length, by omega, M1.m, h1, [], [], (ExtE.refl M1 H1).beside nD, r0, rs0, upd_same, .nil, by rw [List.drop_zero]; exact e2⟩, fun i n Hi w => ?_⟩
  obtain ⟨hn, mi, hi, acc, dacc, xi, ri, rsi, hD, qa, el⟩ := w
  have inD : D ∈ (⟨D :: M1.u, mi⟩ : Mm).u := List.mem_cons_self
  obtain ⟨ity, its⟩ := it _ Hi (xi.into nD) fun a ha => ri.tracked ha
  by_cases hlt : i < ds.length
  · refine .inr ?_
    have ed : ds[i]? = some ds[i] := List.getElem?_eq_getElem hlt
    obtain ⟨go, yl⟩ := ity i _ ed
    rw [List.drop_eq_getElem_cons hlt] at el
    refine ⟨go, P (i + 1), fun H' p => ⟨n - 1, by omega, by omega, p⟩, fun x H2 hy => ?_⟩
    obtain ⟨sm, rx⟩ := yl x H2 hy
    obtain ⟨ri2, xi2⟩ := ri.grow sm
    unfold dcL at el
    split at el
    · rename_i ρ1 ek
      refine ⟨_, hi, wipeE ρ vs, .dat ds[i], ρ1, ri2, rsi.mono xi2, rx, ek, fun σ2 rs2 l2 o2 => ⟨wipe_of (by rw [l2, L2.wipe_length]) o2 hs, ?_⟩⟩
      cases et : t ρ1 hi with
      | none => rw [et] at el; cases el
      | some pr =>
        obtain ⟨b, h3⟩ := pr
        rw [et] at el
        simp only [obnd_some] at el
        refine ⟨_, hi, ρ1, ri2, rs2, b, h3, et, fun M3 H3 b' x3 r3 eb => ?_⟩
        subst eb
        obtain ⟨u3, m3⟩ := M3
        obtain rfl : u3 = D :: M1.u := x3.same
        have xi3 : ExtE M1 ⟨M1.u, m3⟩ H1 H3 := xi.trans ((xi2.trans x3).reu M1.u)
        have hD3 : H3 D = some (.dK acc) := x3.stab _ _ (sm _ _ hD) fun z => (ri.us D inD).1 z
        cases b' with
        | false =>
          simp only [Bool.false_eq_true, if_false] at el
          exact iteF ⟨m3, h3, acc, dacc, xi3, r3, (rsi.mono xi2).mono x3, hD3, (qa.mono xi2.ext).mono x3.ext, el⟩
        | true =>
          simp only [if_true] at el
          refine iteT ?_
          cases ef : fk ρ1 h3 with
          | none => rw [ef] at el; cases el
          | some pr =>
            obtain ⟨w, h4⟩ := pr
            rw [ef] at el
            simp only [obnd_some] at el
            refine ⟨_, h3, ρ1, r3, rs2.mono x3, w, h4, ef, fun M4 H4 y x4 r4 ry => ?_⟩
            obtain ⟨u4, m4⟩ := M4
            obtain rfl : u4 = D :: M1.u := x4.same
            have hD4 : H4 D = some (.dK acc) := x4.stab _ _ hD3 fun z => (r3.us D List.mem_cons_self).1 z
            cases eg : fv ρ1 h4 with
            | none => rw [eg] at el; cases el
            | some pr =>
              obtain ⟨w', h5⟩ := pr
              rw [eg] at el
              simp only [obnd_some] at el
              refine ⟨_, h4, ρ1, r4, (rs2.mono x3).mono x4, w', h5, eg, fun M5 H5 z x5 r5 rz => ?_⟩
              obtain ⟨u5, m5⟩ := M5
              obtain rfl : u5 = D :: M1.u := x5.same
              have hD5 : H5 D = some (.dK acc) := x5.stab _ _ hD4 fun z => (r4.us D List.mem_cons_self).1 z
              split at el
              · rename_i kd d'
                split at el
                · rename_i key ekey
                  split at el
                  · rename_i hz
                    have := kP_dKey ekey
                    subst this
                    have ry' : RD ⟨D :: M1.u, m5⟩ H5 y (kP key) := (show RD _ _ y _ from ry).mono x5.ext
                    have q5 := (((qa.mono xi2.ext).mono x3.ext).mono x4.ext).mono x5.ext
                    have in5 : D ∈ (⟨D :: M1.u, m5⟩ : Mm).u := List.mem_cons_self
                    exact ⟨acc, key, rd_kP ry', hD5, by rw [qa.length]; exact hz, m5, h5, _, putK' dacc key d', ((xi3.trans (x4.reu M1.u)).trans (x5.reu M1.u)).beside nD, r5.off in5, ((((rsi.mono xi2).mono x3).mono x4).mono x5).off in5, upd_same, (q5.put key rz).off in5, el⟩
                  · cases el
                · cases el
              · cases el
    · cases el
  · refine .inl ?_
    have hi' : i = ds.length := by omega
    subst hi'
    rw [List.drop_length] at el
    cases el
    refine ⟨its, ?_⟩
    have c3 := c2 M1 H1 (.refl _ _)
    have nu : D ∉ M1.u := fun z => r1.new nD (.inl z)
    have nm : some D ∉ mi := (ri.us D inD).1
    cases m with
    | false => exact c3.fin xi ri.told (RD.dic (fun z => z.elim nu nm) hD (qa.sub less_has))
    | true =>
      refine c3.fin (M' := ⟨M1.u, mi ++ [some D]⟩) ⟨rfl, xi.trk, xi.stab, fun a z => ?_, Nat.le_trans xi.len (by simp), fun j hj => ?_⟩ (ri.owned nu ⟨acc, hD, qa⟩) ⟨D, ?_, rfl⟩
      · rcases List.mem_append.mp z with z | z
        · exact xi.fresh a z
        · have : a = D := by simpa using z
          rw [this]; exact .inr nD
      · have hl : j < mi.length := Nat.lt_of_lt_of_le hj xi.len
        show (mi ++ [some D])[j]? = _
        rw [List.getElem?_append_left hl]; exact xi.pre j hj
      · show (mi ++ [some D])[h2.length]? = _
        rw [← show mi.length = h2.length from ri.len]; simp
section
variable {X : Cx}
theorem d_dc (m : Bool) {kx vx tg iter : Expr} {ifs : List Expr} {scope : Scope} {own : List (Str × Nat)} {pos : Pos} {gi : IM} {ts : List Nat} {k : TM} {t : BM} {fk fv : EM} (hc : X.calm = true) (hN : X.N.Nodup) (hi : DI X tg iter gi) (ok : BlkOk X.N X.env.scope scope own)
    (hg : ∀ (s : Shared) (H : Hp) (C : Addr) (cl : List (Str × Addr)) (fp : List Addr), DG (X.blk s H scope (compEnvC scope cl C X.env) fp) tg ts k) (ht : ∀ (s : Shared) (H : Hp) (C : Addr) (cl : List (Str × Addr)) (fp : List Addr), DTs (X.blk s H scope (compEnvC scope cl C X.env) fp) ifs t)
    (hk : ∀ (s : Shared) (H : Hp) (C : Addr) (cl : List (Str × Addr)) (fp : List Addr), DE (X.blk s H scope (compEnvC scope cl C X.env) fp) kx fk) (he : ∀ (s : Shared) (H : Hp) (C : Addr) (cl : List (Str × Addr)) (fp : List Addr), DE (X.blk s H scope (compEnvC scope cl C X.env) fp) vx fv)
    (hsub : ∀ j ∈ ts, j ∈ own.map (·.2)) (hs : ∀ x, foldedSetIterable iter X.env x = pure x := by intro _; rfl) :
    DE X (.DictComp kx vx [⟨tg, iter, ifs, 0⟩] scope pos) (fDc m gi k t fk fv (own.map (·.2))) := (pe_dc hc hN hi ok hg ht hk he hs).weak (dc_imp hsub)
end
end DL
set_option maxRecDepth 100000
set_option maxHeartbeats 400000
namespace DL
open PySem PySem.Spec PyProof.Rows L2
structure RG (k : Nat) (A : Around) : Prop where
  room : Room k A
  gd : A.guards = some []
theorem RG.mono {j k : Nat} {A : Around} (r : RG k A) (h : j ≤ k) : RG j A := ⟨r.room.mono h, r.gd⟩
structure FnG (P : Program) (w : World) (K : PySem.W.Frag) (mg : Str → Option Value) (base : Heap) (C : CXT) (k : Nat) (f : Addr) (fd : FuncData) (ps : List Str) (sp : Sp) : Prop where
  len : ∀ vs H Q E, sp vs H Q E → vs.length = ps.length
  run : ∀ (A : Around) (outer : List PySem.Env) (s : Shared) (H : Hp) (args : Args) (us : List Value) (vs : List V) (Q : VK) (E : XK), RG k A → Env0 P w K mg base A outer s H → BindsTo s fd args (ps.zip us) → Vals vs us →
    sp vs H Q E → codeAny (model P w) A (.call (.ref f) args) (CR C outer P w H s Q E) s
section
variable {P : Program} {w : World} {K : PySem.W.Frag} {mg : Str → Option Value} {base : Heap}
theorem fn_g0 {x qual : Str} {st : Stmt} {f : Addr} {fd : FuncData} {N ps : List Str} {k : Nat} {sp : Sp} (F : Fun K x qual st f fd) (S : FnScope N ps (defScope st)) (len : ∀ vs H Q E, sp vs H Q E → vs.length = ps.length)
    (hb : ∀ (cdv : Value), fd.code = cdv → ∀ (A : Around) (outer : List PySem.Env) (s : Shared) (H : Hp) (vs : List V) (Q : VK) (E : XK), RG k (A.deeper (envOfC qual (defScope st) s.heap.objs.size f cdv)) → sp vs H Q E →
      ∃ t, PSs (cxOf CX0 P w K mg base N qual (defScope st) f cdv A outer s H E).nox (defBody st) t ∧ t { nx := fun _ H' => Q .non H', rt := Q } (L2.start N vs) H) : FnG P w K mg base CX0 (k + 1) f fd ps sp := by
  obtain ⟨oc, od, kV, doc, pm, an, cdv, ct, osl, rfl, lk, hcd⟩ := F.ex
  constructor
  · exact len
  intro A outer s H args us vs Q E rg e0 bd vl q
  have kin : K.In s.heap := e0.mod.kin.keeps fun b o e => (e0.bs b o e).1
  have nl : s.heap.NoLimit := e0.mod.nolimit.keeps fun b o e => (e0.bs b o e).1
  have kinds : ∀ y ∈ ps.zip us, (defScope st).names.lookup y.1 = some .local ∨ ((defScope st).names.lookup y.1 = some .cell ∧ ((PySem.cellsFrom (s.heap.objs.size + 1) (defScope st).names []).lookup y.1).isSome = true) := by
    intro y hy
    have hp : y.1 ∈ ps := (List.of_mem_zip (show (y.1, y.2) ∈ ps.zip us from hy)).1
    rcases S.par y.1 hp with h | h
    · left; exact h
    · right; exact ⟨h, PySem.W.cellsFrom_some _ _ _ (.inl h)⟩
  apply codeAny_call_function rg.room.depth (kin _ _ lk) rfl S.co S.gen rfl (PySem.W.codeRec_of kin hcd)
  apply bd
  apply wpAny_newFunctionEnv_cells S.kind kinds
  intro env he s1 hx
  subst he
  constructor
  · exact nl.keeps hx.toInCall.keep
  apply codeAny_func
  obtain ⟨t, ht, hq⟩ := hb cdv rfl A outer s H vs Q E ⟨rg.room.deeper _, rg.gd⟩ q
  have I0 := inv_start (CX := CX0) (E := E) S rg.room.hd e0 (len _ _ _ _ q) vl hx
  apply wpAny_mono (ht.nox.run [] s1 _ H _ I0 hq)
  · intro fl s' hs
    cases fl
    case ret u => obtain ⟨v, σ', H', J, rv, q'⟩ := hs; exact ⟨v, H', J.os, J.bare, J.base, J.hok, rv, q'⟩
    case next => obtain ⟨σ', H', J, q'⟩ := hs; exact ⟨.non, H', J.os, J.bare, J.base, J.hok, rfl, q'⟩
    case brk => obtain ⟨_, _, _, q'⟩ := hs; exact q'.elim
    case cont => obtain ⟨_, _, _, q'⟩ := hs; exact q'.elim
  · intro e s' hs; exact hs
structure GD (P : Program) (w : World) (K : PySem.W.Frag) (mg : Str → Option Value) (base : Heap) (k : Nat) (x : Str) (st : Stmt) (ps : List Str) (m : FM) : Prop where
  ex : ∃ (f : Addr) (fd : FuncData), Fun K x x st f fd ∧ mg x = some (.ref f) ∧ FnG P w K mg base CX0 k f fd ps (spD m)
theorem fng_ok0 {x : Str} {st : Stmt} {f : Addr} {fd : FuncData} {N ps : List Str} {k : Nat} {body : SM} (rm : Bool) (F : Fun K x x st f fd) (S : FnScope N ps (defScope st))
    (hb : ∀ (cdv : Value), fd.code = cdv → ∀ (A : Around) (outer : List PySem.Env) (s : Shared) (H : Hp) (E : XK), RG k (A.deeper (envOfC x (defScope st) s.heap.objs.size f cdv)) → DSs (cxOf CX0 P w K mg base N x (defScope st) f cdv A outer s H E).nox (defBody st) body) :
    FnG P w K mg base CX0 (k + 1) f fd ps (spD (fnM rm ps.length N.length body)) := by
  refine fn_g0 F S (fun vs H Q E q => ?_) (fun cdv ec A outer s H vs Q E hr q => ?_)
  · obtain ⟨M, h, ws, rep, rv, c⟩ := q
    unfold fnM at c
    split at c
    · rename_i hl
      rw [rv.length]; exact hl
    · exact c.no.elim
  · obtain ⟨M, h, ws, rep, rv, c⟩ := q
    unfold fnM at c
    split at c
    · rename_i hl
      refine ⟨_, hb cdv ec A outer s H E hr, M, h, ws.map some ++ List.replicate (N.length - ps.length) none, rep, ?_, ?_⟩
      · have e : L2.start N vs = vs.map some ++ List.replicate (N.length - ps.length) none := by unfold L2.start; rw [rv.length, hl]
        rw [e]
        exact rs_start rv _
      · cases eb : body (ws.map some ++ List.replicate (N.length - ps.length) none) h with
        | none => rw [eb] at c; exact c.no.elim
        | some pr =>
          obtain ⟨o, h'⟩ := pr
          rw [eb] at c
          cases o with
          | nx ρ => exact fun M1 H1 σ u x1 r1 rs1 => leave_ok x1 u rep r1 (show RV M1 H1 .non (.dat .none) from .non) c
          | rt w => exact fun M1 H1 v u x1 r1 v1 => leave_ok x1 u rep r1 v1 c
          | bk ρ => exact c.no.elim
          | ct ρ => exact c.no.elim
    · exact c.no.elim
theorem fng_ok {x : Str} {st : Stmt} {f : Addr} {fd : FuncData} {N ps : List Str} {k : Nat} {body : SM} (rm : Bool) (F : Fun K x x st f fd) (S : FnScope N ps (defScope st))
    (hb : ∀ (cdv : Value) (A : Around) (outer : List PySem.Env) (s : Shared) (H : Hp) (E : XK), RG k (A.deeper (envOfC x (defScope st) s.heap.objs.size f cdv)) → DSs (cxOf CX0 P w K mg base N x (defScope st) f cdv A outer s H E).nox (defBody st) body) :
    FnG P w K mg base CX0 (k + 1) f fd ps (spD (fnM rm ps.length N.length body)) := fng_ok0 rm F S fun cdv _ => hb cdv
theorem gd_ok {x : Str} {st : Stmt} {f : Addr} {fd : FuncData} {N ps : List Str} {k : Nat} {body : SM} (rm : Bool) (F : Fun K x x st f fd) (hm : mg x = some (.ref f)) (S : FnScope N ps (defScope st))
    (hb : ∀ (cdv : Value) (A : Around) (outer : List PySem.Env) (s : Shared) (H : Hp) (E : XK), RG k (A.deeper (envOfC x (defScope st) s.heap.objs.size f cdv)) → DSs (cxOf CX0 P w K mg base N x (defScope st) f cdv A outer s H E).nox (defBody st) body) :
    GD P w K mg base (k + 1) x st ps (fnM rm ps.length N.length body) := ⟨f, fd, F, hm, fng_ok rm F S hb⟩
theorem GD.no {x : Str} {st : Stmt} {f : Addr} {fd : FuncData} {ps : List Str} {k : Nat} (F : Fun K x x st f fd) (hm : mg x = some (.ref f)) : GD P w K mg base k x st ps (fun _ _ => none) :=
  ⟨f, fd, F, hm, fun _ _ _ _ ⟨_, _, _, _, _, c⟩ => c.no.elim, fun _ _ _ _ _ _ _ _ _ _ _ _ _ ⟨_, _, _, _, _, c⟩ => c.no.elim⟩
end
section
variable {X : Cx} {k : Nat} {f : Addr} {fd : FuncData} {ps : List Str} {m : FM} {x : Str} {p pos : Pos} {e : Expr} {es : List Expr} {g : AM} {st : Stmt}
theorem run_g {sp : Sp} {pins : List (Addr × Obj)} {σ : L2.St} {H : Hp} {s : Shared} {Q : VK} {args : Args} {us : List Value} {vs : List V} (F : FnG X.prog X.w X.K X.mg X.base CX0 k f fd ps sp) (hr : RG k X.A)
    (I : Inv X pins σ H s) (hb : BindsTo s fd args (ps.zip us)) (r : Vals vs us) (h : sp vs H Q E0) : codeAny (model X.prog X.w) X.A (.call (.ref f) args) (fun r s' => match r with
      | .ok (.ret u) => EP X pins σ Q u s'
      | _ => False) s := by
  apply codeAny_mono (F.run X.A X.stack s H args us vs Q E0 hr I.env0 hb r h)
  intro r s' hq
  cases r with
  | error e => exact hq
  | ok fl =>
    cases fl with
    | ret u => exact I.after hq
    | next => exact hq
    | brk => exact hq
    | cont => exact hq
theorem d_call' (G : GD X.prog X.w X.K X.mg X.base k x st ps m) (hr : RG k X.A) (ha : DA X (e :: es) g)
    (hbd : ∀ (kV doc pm : Value) (an : Option Addr) (cdv ct : Value) (us : List Value), us.length = ps.length → bindArgs (PySem.W.fnOf x x (defArgs st) (defBody st) (defScope st) .none kV doc pm an cdv ct) ⟨us, []⟩ = pure (ps.zip us))
    (hg : Gl X x := by rfl)
    (hdb : (x == ("__debug__" : Str)) = false := by decide) (he : starEach (e :: es) X.env = (false, eval e X.env) :: starEach es X.env := by rfl) (hpl : (backTo pos (starEach es X.env)).any (·.1) = false := by rfl) : DE X (.Call (.Name x p) (e :: es) [] pos) (fA m g) := by
  obtain ⟨f, fd, F, hm, G⟩ := G.ex
  refine ⟨fun pins s σ H Q I q => ?_⟩
  obtain ⟨M, h, ρ, r, rs, c⟩ := q
  obtain ⟨ws, h1, e1, c1⟩ := Cont.bind (δ := Unit) c
  apply wpAny_Call_Name_kw
  apply ld_glob I hg hm _ hdb
  apply PySem.W.callWith_K (h₀ := X.base) I.ok.mod.kin F.kp _ he hpl
  refine thn (ha.run pos pins s σ H (fun vs H1 => spD m vs H1 Q E0) I ⟨M, h, ρ, r, rs, ws, h1, e1, fun M1 H1 vs x1 r1 v1 => ⟨M1, h1, ws, r1, v1, c1 M1 H1 x1⟩⟩) fun us s1 ⟨vs, H1, I1, rv, q⟩ => ⟨I1.kIn, ?_⟩
  have hl : us.length = ps.length := by rw [← rv.length]; exact G.len _ _ _ _ q
  apply wpAny_call
  have bd := (F.binds (ps := ps) hbd) s1 us I1.kIn (by simpa using hl)
  rw [List.append_nil] at bd
  apply codeAny_mono (run_g G hr I1 bd rv q)
  intro r s' hq
  cases r with
  | error e => exact hq.elim
  | ok fl =>
    cases fl with
    | ret u => exact hq
    | next => exact hq
    | brk => exact hq
    | cont => exact hq
def permL {α : Type} (is : List Nat) (ws : List α) : Option (List α) := (is.map fun i => ws[i]?).foldr (fun o r => match o, r with
    | some w, some l => some (w :: l)
    | _, _ => none) (some [])
def permM (is : List Nat) (m : FM) : FM := fun ws h => match permL is ws with
  | some l => m l h
  | none => none
theorem permL_cons {α : Type} (i : Nat) (is : List Nat) (ws : List α) : permL (i :: is) ws = match ws[i]?, permL is ws with
    | some w, some l => some (w :: l)
    | _, _ => none := rfl
def kwM (n : Nat) (is : List Nat) (m : FM) : FM := fun ws h => if ws.length = n then permM is m ws h else none
theorem permL_rvs {M : Mm} {H : Hp} {vs : List V} {ws : List W} (r : RVs M H vs ws) : ∀ {is : List Nat} {l : List W}, permL is ws = some l → ∃ l', permL is vs = some l' ∧ RVs M H l' l
  | [], l, e => by cases e; exact ⟨[], rfl, .nil⟩
  | i :: is, l, e => by
    rw [permL_cons] at e
    cases e1 : ws[i]? with
    | none => rw [e1] at e; cases e
    | some w =>
      cases e2 : permL is ws with
      | none => rw [e1, e2] at e; cases e
      | some l0 =>
        rw [e1, e2] at e
        cases e
        obtain ⟨l', h1, h2⟩ := permL_rvs r e2
        obtain ⟨v, h3, h4⟩ : ∃ v, vs[i]? = some v ∧ RV M H v w := by
          clear e2 h1 h2
          induction r generalizing i with
          | nil => simp at e1
          | cons a t ih => cases i with
            | zero => simp at e1; subst e1; exact ⟨_, rfl, a⟩
            | succ i => exact ih i (by simpa using e1)
        exact ⟨v :: l', by rw [permL_cons, h3, h1], .cons h4 h2⟩
theorem permL_vals {vs : List V} {us : List Value} (r : Vals vs us) : ∀ {is : List Nat} {l : List V}, permL is vs = some l → ∃ l', permL is us = some l' ∧ Vals l l'
  | [], l, e => by cases e; exact ⟨[], rfl, .nil⟩
  | i :: is, l, e => by
    rw [permL_cons] at e
    cases e1 : vs[i]? with
    | none => rw [e1] at e; cases e
    | some w =>
      cases e2 : permL is vs with
      | none => rw [e1, e2] at e; cases e
      | some l0 =>
        rw [e1, e2] at e
        cases e
        obtain ⟨l', h1, h2⟩ := permL_vals r e2
        obtain ⟨v, h3, h4⟩ : ∃ v, us[i]? = some v ∧ RelV w v := by
          clear e2 h1 h2
          induction r generalizing i with
          | nil => simp at e1
          | cons a t ih => cases i with
            | zero => simp at e1; subst e1; exact ⟨_, rfl, a⟩
            | succ i => exact ih i (by simpa using e1)
        exact ⟨v :: l', by rw [permL_cons, h3, h1], .cons h4 h2⟩
theorem d_callK {kws : List Keyword} {ks : List Str} {is : List Nat} (G : GD X.prog X.w X.K X.mg X.base k x st ps m) (hr : RG k X.A) (ha : DK X kws g)
    (hbd : ∀ (kV doc pm : Value) (an : Option Addr) (cdv ct : Value) (us l : List Value), us.length = ks.length → permL is us = some l → bindArgs (PySem.W.fnOf x x (defArgs st) (defBody st) (defScope st) .none kV doc pm an cdv ct) ⟨[], ks.zip us⟩ = pure (ps.zip l))
    (hkl : kws.length = ks.length)
    (hall : (backToKw pos (keywordEach kws X.env)).all (·.1.isSome) = true := by rfl) (hks : (backToKw pos (keywordEach kws X.env)).filterMap (·.1) = ks := by rfl)
    (hpl : ((backTo pos (starEach [] X.env)).any (·.1) || (backToKw pos (keywordEach kws X.env)).any (·.1.isNone)) = false := by rfl)
    (hg : Gl X x := by rfl) (hdb : (x == ("__debug__" : Str)) = false := by decide) : DE X (.Call (.Name x p) [] kws pos) (fA (kwM ks.length is m) g) := by
  obtain ⟨f, fd, F, hm, G⟩ := G.ex
  refine ⟨fun pins s σ H Q I q => ?_⟩
  obtain ⟨M, h, ρ, r, rs, c⟩ := q
  obtain ⟨ws, h1, e1, c1⟩ := Cont.bind (δ := Unit) c
  apply wpAny_Call_Name_kw
  apply ld_glob I hg hm _ hdb
  apply PySem.W.callWith_KW0 (h₀ := X.base) I.ok.mod.kin F.kp hall _ hpl
  refine thn (ha.run pos pins s σ H (fun vs H1 => vs.length = ks.length ∧ ∃ l, permL is vs = some l ∧ spD m l H1 Q E0) I ⟨M, h, ρ, r, rs, ws, h1, e1, fun M1 H1 vs x1 r1 v1 => ?_⟩) fun us s1 ⟨vs, H1, I1, rv, hlen, l, el, q⟩ => ⟨I1.kIn, ?_⟩
  · have c2 := c1 M1 H1 x1
    unfold kwM at c2
    split at c2
    · rename_i hw
      refine ⟨by rw [v1.length]; exact hw, ?_⟩
      unfold permM at c2
      split at c2
      · rename_i l el
        obtain ⟨l', h2, h3⟩ := permL_rvs v1 el
        exact ⟨l', h2, M1, h1, l, r1, h3, c2⟩
      · exact c2.no.elim
    · exact c2.no.elim
  · obtain ⟨l', h2, h3⟩ := permL_vals rv el
    have hl : us.length = ks.length := by rw [← rv.length]; exact hlen
    rw [hks]
    apply wpAny_call
    have bd : BindsTo s1 fd ⟨[], ks.zip us⟩ (ps.zip l') := by
      obtain ⟨oc, od, kV, doc, pm, an, cdv, ct, osl, rfl, lk, hcd⟩ := F.ex
      exact .of_eq (hbd kV doc pm an cdv ct us l' hl h2)
    apply codeAny_mono (run_g G hr I1 bd h3 q)
    intro r s' hq
    cases r with
    | error e => exact hq.elim
    | ok fl =>
      cases fl with
      | ret u => exact hq
      | next => exact hq
      | brk => exact hq
      | cont => exact hq
end
end DL
set_option maxRecDepth 100000
set_option maxHeartbeats 400000
namespace DL
open PySem PySem.Spec PyProof.Rows L2
section
variable {prog : Program} {w : World} {A : Around} {E : Value → Shared → Prop} {s : Shared}
theorem fm_congr {α β : Type} {f g : α → Option β} : ∀ {l : List α}, (∀ a ∈ l, f a = g a) → l.filterMap f = l.filterMap g
  | [], _ => rfl
  | a :: l, h => by rw [List.filterMap_cons, List.filterMap_cons, h a List.mem_cons_self, fm_congr fun b hb => h b (List.mem_cons_of_mem _ hb)]
theorem adjust_back (n : Nat) : Builtin.Slice.sliceAdjust none none (-1) (n : Int) = ((n : Int) - 1, -1) := by
  simp [Builtin.Slice.sliceAdjust]
theorem places_back (n : Nat) : Builtin.Slice.slicePlaces ((n : Int) - 1) (-1) (-1) = n := by
  unfold Builtin.Slice.slicePlaces
  by_cases h : n = 0
  · subst h; decide
  · simp
    omega
theorem pick_back (xs : Array Value) : ((List.range xs.size).filterMap fun (m : Nat) => xs[(((xs.size : Int) - 1) + (m : Int) * -1).toNat]?).toArray = xs.toList.reverse.toArray := by
  have e : ((List.range xs.size).filterMap fun (m : Nat) => xs[(((xs.size : Int) - 1) + (m : Int) * -1).toNat]?) = ((List.range xs.size).map fun k => xs.size - 1 - k).filterMap (xs[·]?) := by
    rw [List.filterMap_map]
    apply fm_congr
    intro k hk
    have := List.mem_range.mp hk
    have e : (((xs.size : Int) - 1) + (k : Int) * -1).toNat = xs.size - 1 - k := by omega
    simp only [e, Function.comp]
  rw [e, PySem.W.krv_range, List.filterMap_reverse, PySem.W.krv_all]
theorem tup_back {t sl : Addr} {items : Array Value} {vl vu vs : Value} {Q : Value → Shared → Prop} (ht : IsTup s.heap t items) (hs : s.heap.IsSliceOf sl vl vu vs) (pl : IsPart vl none) (pu : IsPart vu none) (ps : IsPart vs (some (-1)))
    (h : Q (.ref s.heap.objs.size) { s with heap := s.heap.push { cls := .type "tuple", data := .seq items.toList.reverse.toArray } })
    (hsz : items.size ≤ sizeLine) : wpAny (model prog w) A (getItem (.ref t) (.ref sl)) Q E s := by
  have hz : sizeOk (.seq items.toList.reverse.toArray) := by
    show items.toList.reverse.toArray.size ≤ sizeLine
    rw [List.size_toArray, List.length_reverse, Array.length_toList]; exact hsz
  obtain ⟨os, h1, h2, h3⟩ := id hs
  have ty : s.TypeIs (.ref sl) "slice" := ⟨os, h1, h2⟩
  unfold getItem
  try with_reducible refine wpAny_holding ?_
  first | refine wpAny_bind (wpAny_pure ?_) | skip
  apply wpAny_bind
  apply wpAny_sequenceKey ht.typeIs (by decide)
  apply wpAny_bind
  apply wpAny_callSpecial?_slot (name := Str.ofString "__getitem__") ht.typeIs PyProof.Rows.slot_tuple_getitem
  apply wpAny_call_entry PyProof.Rows.slot_tuple_getitem ht.typeIs entry_tuple_getitem _ (args_tuple_getitem _ _)
  show wpAny _ _ (Builtin.Tuple.tupleItemsOf (.ref t) >>= _) _ _ s
  apply wpAny_bind
  apply tupleItemsOf_ ht
  apply wpAny_bind
  apply wpAny_typeOf ty
  rw [if_pos (by decide)]
  apply wpAny_bind
  unfold Builtin.Slice.sliceApplied Builtin.Slice.sliceFields
  refine wpAny_bind (wpAny_bind (wpAny_field h1 h3 (x := vl) rfl (wpAny_bind (wpAny_field h1 h3 (x := vu) rfl (wpAny_bind (wpAny_field h1 h3 (x := vs) rfl (wpAny_pure ?_)))))))
  refine wpAny_bind (HT.slicePart_ ps ?_)
  show wpAny _ _ (if ((-1 : Int) == 0) = true then _ else _) _ _ s
  rw [if_neg (by decide)]
  refine wpAny_bind (HT.slicePart_ pl (wpAny_bind (HT.slicePart_ pu (wpAny_bind (wpAny_pure ?_)))))
  show wpAny _ _ (match Builtin.Slice.sliceAdjust none none (-1) (items.size : Int) with | (lo, hi) => pure (lo, (-1 : Int), Builtin.Slice.slicePlaces lo hi (-1))) _ _ s
  rw [adjust_back]
  show wpAny _ _ (pure (((items.size : Int) - 1), (-1 : Int), Builtin.Slice.slicePlaces ((items.size : Int) - 1) (-1) (-1))) _ _ s
  rw [places_back]
  apply wpAny_pure
  show wpAny _ _ (if (((items.size : Int) - 1) == 0 && (-1 : Int) == 1 && items.size == items.size) = true then _ else _) _ _ s
  rw [if_neg (by simp), pick_back]
  first
    | exact wpAny_bind (m := Builtin.Tuple.tupleExact _) (wpAny_newObj_type (wpAny_pure ⟨_, rfl, wpAny_pure h⟩) hz)
    | exact wpAny_bind (m := Builtin.Tuple.tupleExact _) (wpAny_newObj_type (wpAny_bind (wpAny_pure (wpAny_pure ⟨_, rfl, wpAny_pure h⟩))) hz)
    | exact wpAny_bind (wpAny_bind (m := Builtin.Tuple.tupleExact _) (wpAny_newObj_type (wpAny_pure (wpAny_pure ⟨_, rfl, wpAny_pure h⟩)) hz))
    | exact wpAny_bind (wpAny_bind (m := Builtin.Tuple.tupleExact _) (wpAny_newObj_type (wpAny_pure ⟨_, rfl, wpAny_pure h⟩) hz))
end
section
variable {X : Cx}
def revS (z : Str) : Str := ⟨z.cps.toList.reverse.toArray⟩
def tBack (K : PySem.W.Frag) (te : TE) : TE := fun σ H Q => te σ H fun x H1 => (∃ a xs, x = .ref a ∧ SqL K H1 a xs ∧ ∀ p, H1 p = none → Q (.ref p) (upd H1 p (.lst xs.reverse))) ∨ (∃ a xs, x = .ref a ∧ SqT K H1 a xs ∧ ∃ b : Bool, ∀ p o, H1 p = none → o.dict = none → Q (.ref p) (upd H1 p (bareO b o xs.reverse))) ∨
  ∃ z, x = .str z ∧ z.length ≤ sizeLine ∧ Q (.str (revS z)) H1
theorem rev_made (z : Str) (t u : Tok) : sliceMade z t none none (some (-1, u)) = .str (revS z) := by
  unfold sliceMade slicePicked
  simp only [Option.map_some, Option.getD_some, Option.map_none]
  rw [if_neg (by simp), picked_rev]
  congr 2
  have e : z.length = z.cps.size := rfl
  rw [e, PySem.W.krv_range, List.filterMap_reverse, PySem.W.krv_all]
theorem pe_back {e : Expr} {te : TE} {k : Nat} {p1 p2 p3 pos : Pos} (he : PE X e te) : PE X (.Subscript e (.Slice none none (some (.UnaryOp .USub (.Constant (.int 1) k p1) p2)) p3) pos) (tBack X.K te) := by
  constructor
  intro pins s σ H Q I h
  apply Subscript_
  refine thn (he.run pins s σ H _ I h) fun v s1 ⟨x, H1, I1, r1, q1⟩ => ?_
  have step : PO X (some (.UnaryOp .USub (.Constant (.int 1) k p1) p2)) (tPart (tUn (rU fun i => .int (-i)) (tC (.int 1)))) := po_some (pe_un un_neg pe_int)
  apply wpAny_Slice
  refine thn (po_none.run pins s1 σ H1 (fun o G => o = none ∧ G = H1) I1 ⟨rfl, rfl⟩) fun vl s2 ⟨l, H2, I2, pl, el, e2⟩ => ?_
  subst el e2
  refine thn (po_none.run pins s2 σ H2 (fun o G => o = none ∧ G = H2) I2 ⟨rfl, rfl⟩) fun vu s3 ⟨u, H3, I3, pu, eu, e3⟩ => ?_
  subst eu e3
  refine thn (step.run pins s3 σ H3 (fun o G => o = some (-1) ∧ G = H3) I3 ⟨1, rfl, -1, rfl, rfl, rfl⟩) fun vs s4 ⟨o, H4, I4, ps, eo, e4⟩ => ?_
  subst eo e4
  have I5 : Inv X pins σ H4 { s4 with heap := s4.heap.push { cls := .type "slice", data := .fields #[vl, vu, vs] } } := I4.kept (t' := s4.toks) fun b ob q => Heap.get?_push_of_some _ q
  rcases q1 with ⟨a, xs, rfl, hx, q⟩ | ⟨a, xs, rfl, hx, bb, q⟩ | ⟨z, rfl, hz, q⟩
  · cases r1
    obtain ⟨its, r, ht, hz⟩ := I5.list hx
    have hlen := r.length
    apply tail_any (ops := [.ref a, .ref s4.heap.objs.size]) ht.isList.typeIs (PySem.slot_list_getitem.lookup) _ (by with_unfolding_all rfl)
    apply wpAny_getItem_list_slice ht.isList (Heap.IsSliceOf.new _ vl vu vs) pl pu ps (by decide) _ (by rw [List.size_toArray]; omega)
    rw [PySem.W.krv_pick]
    refine ⟨.ref _, _, I5.laid (t' := s4.toks) (o := .lst xs.reverse) (fun b ob q => Heap.get?_push_of_some _ q) (Nat.le_refl _) ?_, rfl, q _ (I5.hok.fresh (Nat.le_refl _))⟩
    exact ⟨by rw [List.length_reverse]; exact hz, _, 0, r.reverse, Heap.get?_push_size _ rfl⟩
  · cases r1
    obtain ⟨its, r, ht, hz⟩ := I5.tuple hx
    have hlen := r.length
    apply tail_any (ops := [.ref a, .ref s4.heap.objs.size]) ht.typeIs (PyProof.Rows.slot_tuple_getitem.lookup) _ (by with_unfolding_all rfl)
    apply tup_back ht (Heap.IsSliceOf.new _ vl vu vs) pl pu ps _ (by rw [List.size_toArray]; omega)
    exact ⟨.ref _, _, I5.laid (t' := s4.toks) (o := bareO bb _ xs.reverse) (fun b ob q => Heap.get?_push_of_some _ q) (Nat.le_refl _) (bare_ok bb (Heap.get?_push_size _ rfl) fun G => ⟨by rw [List.length_reverse]; exact hz, _, by simpa using r.reverse, IsTup.new _ _⟩), rfl, q _ _ (I5.hok.fresh (Nat.le_refl _)) rfl⟩
  · obtain ⟨t, rfl⟩ := r1
    apply tail_any (ops := [.str z t, .ref s4.heap.objs.size]) (typeIs_str _ _ _) (F.slot_str_getitem.lookup) _ (by with_unfolding_all rfl)
    obtain ⟨os, hos, hcs, hds⟩ := Heap.IsSliceOf.new s4.heap vl vu vs
    obtain ⟨l, rfl, el⟩ := IsPart.raw pl
    obtain ⟨u, rfl, eu⟩ := IsPart.raw pu
    obtain ⟨st, rfl, es⟩ := IsPart.raw ps
    have hl : l = none := by cases l with | none => rfl | some _ => cases el
    have hu : u = none := by cases u with | none => rfl | some _ => cases eu
    obtain ⟨tk, hst⟩ : ∃ tk, st = some (-1, tk) := by
      cases st with
      | none => cases es
      | some p => obtain ⟨i, tk⟩ := p; simp at es; exact ⟨tk, by rw [es]⟩
    subst hl hu hst
    apply wpAny_getItem_str_slice (l := none) (u := none) (st := some (-1, tk)) ⟨os, hos, hcs, hds⟩ rfl
    rw [rev_made]
    refine ⟨?_, .str _, H4, I5.tok _, ⟨_, rfl⟩, q⟩
    show (revS z).cps.size ≤ sizeLine
    simp only [revS, List.size_toArray, List.length_reverse, Array.length_toList]
    exact hz
def backW (m : Bool) (w : W) (h : Hh) : Option (W × Hh) := match w with
  | .dat (.list ds) => mkL m ds.reverse h
  | .dat (.tuple ds) => some (.dat (.tuple ds.reverse), h)
  | .dat (.str z) => if z.length ≤ sizeLine then some (.dat (.str (revS z)), h) else none
  | .ref n => match lstAt h n with
    | some ds => mkL m ds.reverse h
    | none => none
  | _ => none
def fRev (m : Bool) (f : EM) : EM := fun ρ h => obnd (f ρ h) fun w h1 => backW m w h1
theorem d_rev (m : Bool) {e : Expr} {f : EM} {k : Nat} {p1 p2 p3 pos : Pos} (he : DE X e f) : DE X (.Subscript e (.Slice none none (some (.UnaryOp .USub (.Constant (.int 1) k p1) p2)) p3) pos) (fRev m f) := (pe_back he).weak fun σ H Q => by
  rintro ⟨M, h, ρ, r, rs, c⟩
  obtain ⟨w, h1, e1, c1⟩ := Cont.bind (δ := Unit) c
  refine ⟨M, h, ρ, r, rs, w, h1, e1, fun M1 H1 v x1 r1 v1 => ?_⟩
  have c2 := c1 M1 H1 x1
  unfold backW at c2
  split at c2
  · cases (show RD M1 H1 _ _ from v1) with
    | lst n e q => exact .inl ⟨_, _, rfl, .of e, fun p np => mkL_fin r1 np q.rev c2⟩
  · cases (show RD M1 H1 _ _ from v1) with
    | tup n e q => exact .inr (.inl ⟨_, _, rfl, e.sq, _, fun p o np ho => mkB_fin r1 np q.rev ho c2⟩)
  · split at c2
    · rename_i hz
      cases (show RD M1 H1 _ _ from v1)
      exact .inr (.inr ⟨_, rfl, hz, c2.here r1 (.str _)⟩)
    · exact c2.no.elim
  · split at c2
    · rename_i n ds el
      obtain ⟨a, ea, rfl⟩ := v1
      obtain ⟨xs, hx, q⟩ := lstAt_ok r1 el ea
      exact .inl ⟨_, _, rfl, .of hx, fun p np => mkL_fin r1 np q.rev c2⟩
    · exact c2.no.elim
  · exact c2.no.elim
def rRepr (K : PySem.W.Frag) : List V → Hp → VK → Prop := fun xs H Q => ∃ a d, xs = [.ref a] ∧ Dp K H (.ref a) d ∧ shp d = true ∧ d.showable = true ∧ d.shown.length ≤ sizeLine ∧ Q (.str d.shown) H
theorem cr_repr {k : Nat} (hr : RG k X.A) : CallR X (.builtin "repr") (rRepr X.K) := by
  intro pins s σ H xs us Q I r h
  obtain ⟨a, d, rfl, dp, sh, hs, hz, q⟩ := h
  obtain rfl := Vals.ref1 r
  obtain ⟨as, rd⟩ := Dp.reads I d _ _ dp rfl
  have hd := SeqAt.depth_of_shaped sh
  apply repr_of_reads' rd hs (PyData.noDict_hsm (PyData.hasDict_of_canLay d (SeqAt.canLay_of_shaped sh))) hr.gd _ (fun _ _ e => e) _ hz
  · have := hr.room.un; omega
  · intro h' u tk hk
    exact ⟨.str _, H, I.kept hk, ⟨u, rfl⟩, q⟩
end
end DL
set_option maxRecDepth 100000
set_option maxHeartbeats 400000
namespace DL
open PySem PySem.Spec PyProof.Rows L2
structure Bi (mg : Str → Option Value) : Prop where
  len : mg "len" = none
  abs : mg "abs" = none
  int : mg "int" = none
  max : mg "max" = none
  min : mg "min" = none
  all : mg "all" = none
  any : mg "any" = none
  sum : mg "sum" = none
  tuple : mg "tuple" = none
  list : mg "list" = none
  dict : mg "dict" = none
  sorted : mg "sorted" = none
  isinstance : mg "isinstance" = none
  str : mg "str" = none
  bool : mg "bool" = none
  range : mg "range" = none
  enumerate : mg "enumerate" = none
  zip : mg "zip" = none
  reversed : mg "reversed" = none
  repr : mg "repr" = none
  set : mg "set" = none
section
variable {X : Cx} {p pos : Pos} {e e2 : Expr} {es : List Expr} {g : AM} {f : EM}
theorem bt_int : bootBuiltins "int" = some (.type "int") := by decide +kernel
theorem bt_str : bootBuiltins "str" = some (.type "str") := by decide +kernel
theorem bt_list : bootBuiltins "list" = some (.type "list") := by decide +kernel
theorem bt_tuple : bootBuiltins "tuple" = some (.type "tuple") := by decide +kernel
theorem bt_bool : bootBuiltins "bool" = some (.type "bool") := by decide +kernel
theorem bt_dict : bootBuiltins "dict" = some (.type "dict") := by decide +kernel
theorem d_abs (hm : X.mg "abs" = none) (ha : DA X [e] g) (hg : Gl X "abs" := by rfl) (he : starEach [e] X.env = (false, eval e X.env) :: starEach [] X.env := by rfl) (hpl : (backTo pos (starEach [] X.env)).any (·.1) = false := by rfl) : DE X (.Call (.Name "abs" p) [e] [] pos) (fA absW g) :=
  d_callB call_abs s_abs hm (by decide +kernel) ha hg (by decide) (by decide) he hpl
theorem d_max (hc : X.calm = true) (hm : X.mg "max" = none) (ha : DA X [e, e2] g) (hg : Gl X "max" := by rfl) (he : starEach [e, e2] X.env = (false, eval e X.env) :: starEach [e2] X.env := by rfl) (hpl : (backTo pos (starEach [e2] X.env)).any (·.1) = false := by rfl) : DE X (.Call (.Name "max" p) [e, e2] [] pos) (fA maxW g) :=
  d_callB (call_max2 hc) s_max hm (by decide +kernel) ha hg (by decide) (by decide) he hpl
theorem d_min (hc : X.calm = true) (hm : X.mg "min" = none) (ha : DA X [e, e2] g) (hg : Gl X "min" := by rfl) (he : starEach [e, e2] X.env = (false, eval e X.env) :: starEach [e2] X.env := by rfl) (hpl : (backTo pos (starEach [e2] X.env)).any (·.1) = false := by rfl) : DE X (.Call (.Name "min" p) [e, e2] [] pos) (fA minW g) :=
  d_callB (call_min2 hc) s_min hm (by decide +kernel) ha hg (by decide) (by decide) he hpl
theorem d_all (hc : X.calm = true) (hm : X.mg "all" = none) (ha : DA X [e] g) (hg : Gl X "all" := by rfl) (he : starEach [e] X.env = (false, eval e X.env) :: starEach [] X.env := by rfl) (hpl : (backTo pos (starEach [] X.env)).any (·.1) = false := by rfl) : DE X (.Call (.Name "all" p) [e] [] pos) (fA allW g) :=
  d_callB (cr_all hc) s_all hm (by decide +kernel) ha hg (by decide) (by decide) he hpl
theorem d_sorted {k : Nat} (hr : RG k X.A) (m : Bool) (hm : X.mg "sorted" = none) (ha : DA X [e] g) (hg : Gl X "sorted" := by rfl) (he : starEach [e] X.env = (false, eval e X.env) :: starEach [] X.env := by rfl) (hpl : (backTo pos (starEach [] X.env)).any (·.1) = false := by rfl) : DE X (.Call (.Name "sorted" p) [e] [] pos) (fA (sortW m) g) :=
  d_callB (cr_sortedA hr.room) (s_sorted m) hm (by decide +kernel) ha hg (by decide) (by decide) he hpl
theorem d_intC (hm : X.mg "int" = none) (ha : DA X [e] g) (hg : Gl X "int" := by rfl) (he : starEach [e] X.env = (false, eval e X.env) :: starEach [] X.env := by rfl) (hpl : (backTo pos (starEach [] X.env)).any (·.1) = false := by rfl) : DE X (.Call (.Name "int" p) [e] [] pos) (fA intC g) :=
  d_callT call_int1 s_intC hm bt_int ha hg (by decide) (by decide) he hpl
theorem d_tuple (hm : X.mg "tuple" = none) (ha : DA X [e] g) (hg : Gl X "tuple" := by rfl) (he : starEach [e] X.env = (false, eval e X.env) :: starEach [] X.env := by rfl) (hpl : (backTo pos (starEach [] X.env)).any (·.1) = false := by rfl) : DE X (.Call (.Name "tuple" p) [e] [] pos) (fA tupleW g) :=
  d_callT call_tupB s_tuple hm bt_tuple ha hg (by decide) (by decide) he hpl
theorem d_list (m : Bool) (hm : X.mg "list" = none) (ha : DA X [e] g) (hg : Gl X "list" := by rfl) (he : starEach [e] X.env = (false, eval e X.env) :: starEach [] X.env := by rfl) (hpl : (backTo pos (starEach [] X.env)).any (·.1) = false := by rfl) : DE X (.Call (.Name "list" p) [e] [] pos) (fA (listW m) g) :=
  d_callT call_list_of (s_list m) hm bt_list ha hg (by decide) (by decide) he hpl
end
theorem law_g {P : Program} {w : World} {K : PySem.W.Frag} {mg mb : Str → Option Value} {k : Nat} {fa a : Addr} {fd : FuncData} {x : Str} {sp : Sp} {s₁ : Shared} {vs : List Value} {ns : List Int}
    (kx : K.In s₁.heap) (hns : s₁.heap.Ns mainGlobals mg) (hb : s₁.heap.Ns builtinsNs mb) (hbb : ∀ x : Str, x ≠ "__name__" → mb x = bootBuiltins x) (hlim : s₁.heap.NoLimit) (hg : s₁.gens = #[])
    (ha : s₁.heap.get? a = some { cls := .type "list", data := .seq vs.toArray }) (hi : IntsAre vs ns) (hl : ns.length ≤ sizeLine) (hr : Room k callerA)
    (F : ∀ base : Heap, K.In base → base.Ns mainGlobals mg → FnG P w K mg base CX0 k fa fd [x] sp) (hbind : ∀ (s : Shared) (u : Value), BindsTo s fd ⟨[u], []⟩ [(x, u)])
    (hka : K.lookup a = none)
    (hsp : ∀ H : Hp, (∃ o, H a = some (.frz o (.lst (ns.map V.int)))) → (∀ b, b ≠ a → H b = none) → sp [.ref a] H (fun v _ => v = .bl true) fun _ _ _ => False) :
    codeAny (model P w) callerA (.call (.ref fa) ⟨[.ref a], []⟩) (fun r s' => r = .ok (.ret (.bool true)) ∧ OldK s₁.heap s'.heap ∧ s'.os = s₁.os ∧ AllBare s'.gens) s₁ := by
  have rv := vals_ints hi
  let ob : Obj := { cls := .type "list", data := .seq vs.toArray }
  let H : Hp := fun b => if b = a then some (.frz ob (.lst (ns.map V.int))) else none
  have Ha : H a = some (.frz ob (.lst (ns.map V.int))) := if_pos rfl
  have Hn : ∀ b, b ≠ a → H b = none := fun b h => if_neg h
  have hok : HOk P w H s₁.heap := by
    intro b u e
    by_cases h : b = a
    · subst h
      rw [Ha] at e
      cases e
      exact ⟨ha, by rw [List.length_map]; exact hl, vs, _, rv, ha⟩
    · rw [Hn b h] at e; cases e
  have hid : ∀ {b : Addr} {o : Obj}, s₁.heap.get? b = some o → H b = none → (hidT s₁.heap H).get? b = some o := fun e n => hidT_get e n
  have isd : ∀ {b : Addr} {o : Obj} {es : Array DictEntry} {ep : Nat}, s₁.heap.get? b = some o → o.data = .dict es ep → H b = none := by
    intro b o es ep e d
    apply Hn
    intro z
    subst z
    rw [ha] at e
    cases e
    cases d
  have nsk : ∀ {b : Addr} {m : Str → Option Value}, s₁.heap.Ns b m → (hidT s₁.heap H).Ns b m := fun {b m} q => by
    obtain ⟨o, es, ep, e, d, r⟩ := q
    exact ⟨o, es, ep, hid e (isd e d), d, r⟩
  have kb : K.In (hidT s₁.heap H) := by
    intro b o e
    apply hid (kx b o e)
    apply Hn
    intro z
    subst z
    rw [hka] at e
    cases e
  have hM : Mod K mg (hidT s₁.heap H) := by
    refine ⟨kb, nsk hns, ⟨mb, nsk hb, hbb⟩, ?_⟩
    obtain ⟨mc, h1, h2⟩ := hlim
    exact ⟨mc, nsk h1, h2⟩
  have e0 : Env0 P w K mg (hidT s₁.heap H) callerA [] s₁ H := by
    refine ⟨rfl, hM, fun b o e => of_hidT e, Nat.le_of_eq (hidT_size _ _), trivial, fun b hb => ?_, hok, .of_eq hg⟩
    exact absurd (show b ∈ ([] : List Addr) from hb) (by simp)
  apply codeAny_mono ((F _ kb (nsk hns)).run callerA [] s₁ H ⟨[.ref a], []⟩ [.ref a] [.ref a] _ _ ⟨hr, rfl⟩ e0 (hbind s₁ (.ref a)) (.cons rfl .nil) (hsp H ⟨ob, Ha⟩ Hn))
  intro r s' h
  cases r with
  | error e => exact h.elim
  | ok fl => cases fl with
    | next => exact h.elim
    | brk => exact h.elim
    | cont => exact h.elim
    | ret u =>
      obtain ⟨v, H', os, bare, un, hok', r', q⟩ := h
      obtain rfl : v = .bl true := q
      obtain rfl : u = Value.bool true := r'
      refine ⟨rfl, OldK.of_keep fun b o e => ?_, os, bare⟩
      by_cases hb' : b = a
      · subst hb'
        have z2 := un.frzs b ob _ Ha
        obtain ⟨e1, _⟩ := hok b _ Ha
        obtain ⟨e2, _⟩ := hok' b _ z2
        rw [e] at e1
        cases e1
        exact e2
      · exact un.keep b o e (Hn b hb') (fun z => absurd (show b ∈ ([] : List Addr) from z) (by simp)) (by simp)
def noList (K : PySem.W.Frag) : Bool := K.all fun p => match p.2.cls with
  | .type "list" => false
  | _ => true
theorem lookup_mem {K : PySem.W.Frag} {a : Addr} {o : Obj} (e : K.lookup a = some o) : (a, o) ∈ K := by
  induction K with
  | nil => cases e
  | cons p r ih =>
    obtain ⟨b, u⟩ := p
    rw [List.lookup_cons] at e
    split at e
    · rename_i q
      have : a = b := by simpa using q
      cases e
      subst this
      exact List.mem_cons_self
    · exact List.mem_cons_of_mem _ (ih e)
theorem walk_g {l : PySem.W.OpenLaw} {k : Nat} {q : Program} {loose : List Str} {XP : (Str → Option Value) → Heap → Prop} {YP : World → Heap → Prop} {d : DefRec} {K : Params → PySem.W.Frag} {x : Str} {m : FM}
    (hn : l.most = some 63) (hdf : d.params.defaults = []) (hr : Room k callerA)
    (hY : ∀ (w : World) (h : Heap), YP w h → (K w.params).In h) (hnl : ∀ w : World, noList (K w.params) = true)
    (F : ∀ (w : World) (mg : Str → Option Value) (fa : Addr) (h : Heap), (K w.params).In h → h.Ns mainGlobals mg → mg d.name = some (.ref fa) →
      ∃ fd : FuncData, (∀ (s : Shared) (u : Value), BindsTo s fd ⟨[u], []⟩ [(x, u)]) ∧ ∀ base : Heap, (K w.params).In base → base.Ns mainGlobals mg → FnG l.prog w (K w.params) mg base CX0 k fa fd [x] (spD m))
    (hm : ∀ ns : List Int, ns.length ≤ 63 → ∃ h', m [.scr ns] [] = some (.dat (.bool true), h')) :
    PySem.W.WalkO q loose XP YP l.row.toRowW d [] (fun f vs => PySem.call f vs) := by
  apply Att.attach_call hn hdf
  intro w s₀ s₁ mg mb fa o pm cd doc a vs ns G Y ho hd hcd hmg hobj hints hlen hg
  have KX := hY w _ Y
  obtain ⟨fd, hb, hF⟩ := F w mg fa _ KX G.T.g hmg
  have hka : (K w.params).lookup a = none := by
    cases e : (K w.params).lookup a with
    | none => rfl
    | some u =>
      exfalso
      have e1 := KX a u e
      rw [hobj] at e1
      cases e1
      have := List.all_eq_true.mp (hnl w) _ (lookup_mem e)
      cases this
  apply law_g KX G.T.g G.T.b G.T.builtins G.T.nolimit hg hobj hints (Nat.le_trans hlen (by decide)) hr hF hb hka
  intro H ha hn'
  obtain ⟨ob, ha⟩ := ha
  obtain ⟨h', e⟩ := hm ns hlen
  have rep : Rep ⟨[], []⟩ H [] := ⟨fun a z => (by cases z), rfl, fun i j a z => (by simp at z), fun i a z => (by simp at z), fun i z => (by simp at z)⟩
  have nh : ¬ Mm.Has ⟨[], []⟩ a := fun z => (by rcases z with z | z <;> cases z)
  refine ⟨⟨[], []⟩, [], [.scr ns], rep, .cons ⟨a, ob, rfl, nh, ha⟩ .nil, .dat (.bool true), h', e, fun M' H' v _ _ r => ?_⟩
  cases (show RD M' H' v _ from r)
  rfl
end DL
set_option maxRecDepth 100000
set_option maxHeartbeats 1000000
namespace DL
open PySem PySem.Spec PyProof.Rows L2
theorem enum_meets {v : Value} {o : Obj} {H : Heap → Prop} (B : Begins v o H) : Meets (Builtin.«enumerate.__new__» ⟨[.type "enumerate", v], []⟩) (fun _ R s => H s.heap ∧
    R (.ok (.ret (.ref (s.heap.push o).objs.size))) { s with heap := (s.heap.push o).push { cls := .type "enumerate", data := .fields #[.none, .bool false, .ref s.heap.objs.size, rawInt 0, .none, .none] } }) := by
  apply Meets.of_wp
  intro prog w A R s h
  obtain ⟨hp, g, d, tk, os⟩ := s
  obtain ⟨h1, h⟩ := h
  have hsub := sub_enumerate
  have it : ∀ {A' : Around} {E : Value → Shared → Prop} {Q : Value → Shared → Prop}, Q (.ref hp.objs.size) ⟨hp.push o, g, d, tk, os⟩ → wpAny (model prog w) A' (pyIter v) Q E ⟨hp, g, d, tk, os⟩ := by
    intro A' E Q q
    exact B.iter prog w _ _ ⟨hp, g, d, tk, os⟩ _ h1 q
  wp_walk using it
  apply wpAny_stack_any
  intro st
  apply wpAny_pure
  split
  · rename_i c _ _ _ _ _
    cases (c == Value.type "enumerate") <;> (wp_walk using it; exact ⟨_, rfl, h⟩)
  · wp_walk using it
    exact ⟨_, rfl, h⟩
section
variable {prog : Program} {w : World} {A : Around} {E : Value → Shared → Prop} {s : Shared}
theorem call_enumT {v : Value} {o : Obj} {H : Heap → Prop} {Q : Value → Shared → Prop} (B : Begins v o H) (h1 : H s.heap)
    (h : ∀ h', IsEnum h' (s.heap.objs.size + 1) s.heap.objs.size 0 .none → h'.get? s.heap.objs.size = some o → (∀ b o, s.heap.get? b = some o → h'.get? b = some o) → Q (.ref (s.heap.objs.size + 1)) { s with heap := h' }) :
    wpAny (model prog w) A (call (.type "enumerate") [v]) Q E s := by
  apply callType_new F.called_enumerate (by decide) (F.typeCall_enumerate_1 _) (F.newCall_enumerate_1 _) (fun obj => F.args_object_init_2 obj _) F.entry_enumerate_new (enum_meets B)
  refine ⟨h1, ?_⟩
  have hz : (s.heap.push o).objs.size = s.heap.objs.size + 1 := Heap.size_push ..
  show _ ∧ _
  rw [hz]
  have he : IsEnum ((s.heap.push o).push { cls := .type "enumerate", data := .fields #[.none, .bool false, .ref s.heap.objs.size, rawInt 0, .none, .none] }) (s.heap.objs.size + 1) s.heap.objs.size 0 .none := by
    have z := Heap.get?_push_size (s.heap.push o) (o := { cls := .type "enumerate", data := .fields #[.none, .bool false, .ref s.heap.objs.size, rawInt 0, .none, .none] }) rfl
    rw [hz] at z
    exact z
  exact ⟨⟨_, he, rfl⟩, h _ he (Heap.get?_push_of_some _ (Heap.get?_push_size _ B.free)) fun b o x => Heap.get?_push_of_some _ (Heap.get?_push_of_some _ x)⟩
end
def IteT (K : PySem.W.Frag) (a : Addr) : It :=
  ⟨fun i H => ∃ (xs : List V) (x : V), SqT K H a xs ∧ xs[i]? = some x, fun i H v H' => ∃ T x, v = .ref T ∧ H T = none ∧ H' = upd H T (.tup [.int (i : Nat), x]) ∧ ∀ xs, SqT K H a xs → xs[i]? = some x, fun i H => ∃ xs : List V, SqT K H a xs ∧ xs.length ≤ i⟩
theorem turn_enumT {P : Program} {w : World} {K : PySem.W.Frag} {elts : List Expr} {kk : Nat} {tpos : Pos} (a e it : Addr) :
    Turn P w K (.Tuple elts kk tpos) (IteT K a) [e, it] e (fun i h => (∃ old, IsEnum h e it ((i : Nat) : Int) old) ∧ h.IsTupleIter it a i ∧ e ≠ it ∧ a ≠ it ∧ e ≠ a) where
  mem := by simp
  obj := fun i h st b hb => by
    obtain ⟨⟨old, he⟩, ⟨o, ho, hc, hd⟩, _⟩ := st
    have e' : b = e ∨ b = it := by simpa using hb
    rcases e' with z | z
    · rw [z]; exact ⟨_, he, fun v q => nomatch q⟩
    · rw [z]; exact ⟨o, ho, fun v q => by rw [hd] at q; cases q⟩
  keep := fun i h h' st k => let ⟨⟨old, he⟩, hi, hne⟩ := st; ⟨⟨old, k e (by simp) _ he⟩, hi.at fun o q => k it (by simp) o q, hne⟩
  item := by
    intro X hP hw hK hc i pins s σ H E I hf st hg
    subst hP hw hK
    obtain ⟨⟨old, he⟩, hit, hne, hna, hea⟩ := st
    obtain ⟨xs, x, hq, hx⟩ := hg
    obtain ⟨its, rv, p, hz⟩ := I.tuple hq
    obtain ⟨u, hu, ru⟩ := rv.get hx
    have hel : e < s.heap.objs.size := Heap.lt_size he
    have hil : it < s.heap.objs.size := by obtain ⟨_, q, _⟩ := hit; exact Heap.lt_size q
    have hi : i < its.toArray.size := by
      have := (List.getElem?_eq_some_iff.mp hu).1
      simpa using this
    have DD := Draws.tuple (prog := X.prog) (w := X.w) (A := X.A.in1) (I.ok.hd hc) it a hna its.toArray
    apply wpAny_pyNext_enum_itemD DD he ⟨hit, p⟩ hi hne (by simp [hne, hea])
    intro x' h' tk hP ho hs hT hsz hk
    obtain ⟨hit', p'⟩ := hs
    have ex : x' = u := by
      have h2 : its[i]? = some x' := by simpa using hP
      rw [hu] at h2
      exact (Option.some.inj h2).symm
    subst ex
    refine ⟨_, rfl, wpAny_letOwnedTupleGo_enum (s := { s with heap := h', toks := tk + 1 }) ho fun h'' he' sb => ?_⟩
    have hT2 : h''.get? s.heap.objs.size = some { cls := .type "tuple", data := .seq #[.int i tk, x'] } := (sb.2 _ (Nat.ne_of_gt hel)).trans hT
    have new : ObjOk X.prog X.w (upd H s.heap.objs.size (.tup [.int (i : Nat), x])) h'' s.heap.objs.size (.tup [.int (i : Nat), x]) :=
      ⟨by show 2 ≤ sizeLine; decide, [.int i tk, x'], .cons ⟨_, rfl⟩ (.cons ru .nil), ⟨_, hT2, rfl, _, rfl⟩⟩
    have I1 : Inv X pins σ (upd H s.heap.objs.size (.tup [.int (i : Nat), x])) { s with heap := h'', toks := tk + 1 } := by
      apply I.turnedNew (ch := [e, it]) _ hf (Nat.le_refl _) new
      intro b ob hb q
      have h1 : b ≠ e := fun z => hb (by simp [z])
      have h2 : b ≠ it := fun z => hb (by simp [z])
      rw [sb.2 b h1]
      exact hk b ob h1 h2 q
    refine ⟨.ref s.heap.objs.size, _, I1, rfl, ⟨_, x, rfl, I.hok.fresh (Nat.le_refl _), rfl, fun ys hy => by rw [I.tuple_inj hy hq]; exact hx⟩, ⟨⟨x', ?_⟩, hit'.at fun o q => (sb.2 it (Ne.symm hne)).trans q, hne, hna, hea⟩, fun b hb => ?_⟩
    · have e1 : ((i + 1 : Nat) : Int) = (i : Int) + 1 := by omega
      rw [e1]; exact he'
    · have hb' : b < s.heap.objs.size := by
        have e' : b = e ∨ b = it := by simpa using hb
        rcases e' with z | z
        · rw [z]; exact hel
        · rw [z]; exact hil
      rw [upd_ne (Nat.ne_of_lt hb')]
      exact (hf b hb).1
  done := by
    intro X hP hw hK hc i pins s σ H E I hf st hg
    subst hP hw hK
    obtain ⟨⟨old, he⟩, hit, hne, hna, hea⟩ := st
    obtain ⟨xs, hq, hx⟩ := hg
    obtain ⟨its, rv, p, hz⟩ := I.tuple hq
    obtain ⟨f0, f1, f2, f3, f4, f5⟩ := hf it (by simp)
    have hl := rv.length
    unfold pyNext
    have hT : s.TypeIs (.ref e) "enumerate" := ⟨_, he, rfl⟩
    apply wpAny_bind
    apply wpAny_attempt
    apply wpAny_callSpecial?_slot (name := Str.ofString "__next__") hT F.slot_enumerate_next
    apply wpAny_call_entry F.slot_enumerate_next hT F.entry_enumerate_next _ (F.args_enumerate_next_1 _)
    show wpAny _ _ (field (.ref e) 2 >>= _) _ _ _
    apply wpAny_bind
    apply wpAny_field he rfl (x := .ref it) rfl
    apply wpAny_bind
    apply wpAny_nextOf_tuple_end (A := X.A.in1) (show X.A.in1.handled = none from I.ok.hd hc) hit p (by simp; omega)
    intro h' x he' hx'
    obtain ⟨o, ho, hc'⟩ := hx'
    refine wpAny_bind (wpAny_isInstance (T := "StopIteration") (b := true) ⟨o, ho, hc'⟩ isSubtype_stop ?_)
    apply wpAny_pure
    exact ⟨rfl, I.turned (t' := s.toks) (fun b o hb q => he' b o hb q) f0 f1 f3 f4 f5⟩
  self := fun A i s Q E st h => let ⟨⟨_, he⟩, _⟩ := st; wpAny_pyIter_enum he h
def iEnumT (K : PySem.W.Frag) (ta : TA) : TI := fun σ H R => ta σ H fun vs H1 => (∃ a xs, vs = [.ref a] ∧ SqL K H1 a xs ∧ R (Ite K a) H1) ∨ ∃ a xs, vs = [.ref a] ∧ SqT K H1 a xs ∧ H1 a ≠ none ∧ R (IteT K a) H1
theorem pi_enumT {X : Cx} {e : Expr} {ta : TA} {p pos tpos : Pos} {elts : List Expr} {kk : Nat} (hg : Gl X "enumerate") (hm : X.mg "enumerate" = none) (ha : PA X [e] ta) (hs : starEach [e] X.env = [(false, eval e X.env)] := by rfl) :
    PI X (.Tuple elts kk tpos) (.Call (.Name "enumerate" p) [e] [] pos) (iEnumT X.K ta) := by
  constructor
  intro pins s σ H R I h
  refine Call_ ?_
  apply ld_blt I hg hm boot_enumerate
  apply PyProof.Rows.callWith_type1 _ hs rfl
  refine thn (ha.run pos pins s σ H _ I h) fun us s1 ⟨vs, H1, I1, r1, q1⟩ => ?_
  rcases q1 with ⟨a, xs, ex, hq, q⟩ | ⟨a, xs, ex, hq, hn, q⟩
  · subst ex
    obtain rfl := Vals.ref1 r1
    obtain ⟨its, rv, p', hz⟩ := I1.list hq
    apply call_enumerate_list p'.isList
    intro h' he hit hsz hk
    apply wpAny_pyIter_enum he
    have I2 : Inv X pins σ H1 { s1 with heap := h' } := I1.kept (t' := s1.toks) hk
    refine ⟨s1.heap.objs.size + 1, [s1.heap.objs.size + 1, s1.heap.objs.size], _, _, H1, rfl, I2, turn_enum a (s1.heap.objs.size + 1) s1.heap.objs.size, ⟨⟨.none, he⟩, hit, Nat.succ_ne_self _⟩, fun b hb => ?_, q⟩
    have hle : s1.heap.objs.size ≤ b := by
      have e' : b = s1.heap.objs.size + 1 ∨ b = s1.heap.objs.size := by simpa using hb
      rcases e' with z | z
      · rw [z]; exact Nat.le_succ _
      · rw [z]; exact Nat.le_refl _
    exact I1.fpOk hle (I1.hok.fresh hle)
  · subst ex
    obtain rfl := Vals.ref1 r1
    obtain ⟨its, rv, p', hz⟩ := I1.tuple hq
    have hlt : a < s1.heap.objs.size := p'.lt
    apply call_enumT (begins_tuple a its.toArray) p'
    intro h' he hit hk
    apply wpAny_pyIter_enum he
    have I2 : Inv X pins σ H1 { s1 with heap := h' } := I1.kept (t' := s1.toks) hk
    refine ⟨s1.heap.objs.size + 1, [s1.heap.objs.size + 1, s1.heap.objs.size], _, _, H1, rfl, I2, turn_enumT a (s1.heap.objs.size + 1) s1.heap.objs.size, ⟨⟨.none, he⟩, ⟨_, hit, rfl, rfl⟩, Nat.succ_ne_self _, Nat.ne_of_lt hlt, Nat.ne_of_gt (Nat.lt_succ_of_lt hlt)⟩, fun b hb => ?_, q⟩
    have hle : s1.heap.objs.size ≤ b := by
      have e' : b = s1.heap.objs.size + 1 ∨ b = s1.heap.objs.size := by simpa using hb
      rcases e' with z | z
      · rw [z]; exact Nat.le_succ _
      · rw [z]; exact Nat.le_refl _
    exact I1.fpOk hle (I1.hok.fresh hle)
end DL
set_option maxRecDepth 100000
set_option maxHeartbeats 400000
namespace DL
open PySem PySem.Spec PyProof.Rows L2
theorem itd_enumT {K : PySem.W.Frag} {M : Mm} {H : Hp} {a : Addr} {xs : List V} {ds : List D} (n : ¬ M.Has a) (ha : TupAt H a xs ds) (q : RDs M H xs ds) : ItD M H (IteT K a) (enumD 0 ds) := fun M1 H1 x tr => by
  have h1 := (ha.to fun _ z => x.st n z).sq (K := K)
  have q1 := q.mono x
  refine ⟨fun i d e => ?_, xs, h1, by rw [enumD_len, q.length]; exact Nat.le_refl _⟩
  obtain ⟨d', e1, rfl⟩ := enumD_get e
  obtain ⟨v, e2, r⟩ := q1.get e1
  refine ⟨⟨xs, v, h1, e2⟩, fun y H2 hy => ?_⟩
  obtain ⟨T, u, rfl, nT, rfl, hu⟩ := hy
  have eu : u = v := by
    have := hu xs h1
    rw [e2] at this
    exact (Option.some.inj this).symm
  subst eu
  refine ⟨same_new nT, RD.tup (new_out tr nT) (.inl ⟨rfl, upd_same⟩) ?_⟩
  rw [Nat.zero_add]
  exact .cons (.int _) (.cons (r.mono (grow_ext (same_new nT))) .nil)
def enumA (g : AM) : IM := fun ρ h => obnd (g ρ h) fun ws h1 => match ws with
  | [.dat (.list ds)] => some (enumD 0 ds, h1)
  | [.dat (.tuple ds)] => some (enumD 0 ds, h1)
  | _ => none
section
variable {X : Cx}
theorem di_enumA (hm : X.mg "enumerate" = none) {e : Expr} {elts : List Expr} {kk : Nat} {p pos tpos : Pos} {g : AM} (ha : DA X [e] g) (hg : Gl X "enumerate" := by rfl) (hs : starEach [e] X.env = [(false, eval e X.env)] := by rfl) : DI X (.Tuple elts kk tpos) (.Call (.Name "enumerate" p) [e] [] pos) (enumA g) := (pi_enumT hg hm ha hs).weak fun σ H R => by
  rintro ⟨M, h, ρ, ds, h', r, rs, e0, k⟩
  unfold enumA at e0
  cases eg : g ρ h with
  | none => rw [eg] at e0; cases e0
  | some pr =>
    obtain ⟨ws, h1⟩ := pr
    rw [eg] at e0
    simp only [obnd_some] at e0
    refine ⟨M, h, ρ, r, rs, ws, h1, eg, fun M1 H1 vs x1 r1 v1 => ?_⟩
    split at e0
    · cases e0
      obtain ⟨v, rfl, rv⟩ := rvs1 v1
      cases (show RD M1 H1 _ _ from rv) with
      | lst n e q => exact .inl ⟨_, _, rfl, .of e, k M1 H1 _ x1 r1 (itd_enum n e q)⟩
    · cases e0
      obtain ⟨v, rfl, rv⟩ := rvs1 v1
      cases (show RD M1 H1 _ _ from rv) with
      | tup n e q => exact .inr ⟨_, _, rfl, e.sq, (by obtain ⟨_, z⟩ := e.some_; rw [z]; exact nofun), k M1 H1 _ x1 r1 (itd_enumT n e q)⟩
    · cases e0
end
end DL
set_option maxRecDepth 100000
set_option maxHeartbeats 400000
namespace DL
open PySem PySem.Spec PyProof.Rows L2
def moD : MO → D
  | .lst ds => .list ds
  | .dic es => .dict es
  | .dit es => .dict ((.none, .none) :: es)
  | .tab _ _ => .none
  | .ins _ _ => .none
def isTab : MO → Bool
  | .tab _ _ => true
  | .ins _ _ => true
  | .dit _ => true
  | _ => false
def isR (n : Nat) : Option W → Bool
  | some (.ref m) => decide (m = n)
  | some (.pack _) => true
  | _ => false
def frz (i : Nat) (ρ : Env) (h : Hh) : Option (Env × Hh) := match ρ[i]? with
  | some (some (.ref n)) => match h[n]? with
    | some (some o) => if ((ρ.set i none).any (isR n) || isTab o) = true then none else some (ρ.set i (some (.dat (moD o))), h.set n none)
    | _ => none
  | _ => none
def sFrz (i : Nat) (f : SM) : SM := fun ρ h => match frz i ρ h with
  | some (ρ', h') => f ρ' h'
  | none => none
section
variable {M : Mm} {H : Hp} {h : Hh}
theorem less_set {n : Nat} : ∀ b, Mm.Has ⟨M.u, M.m.set n none⟩ b → M.Has b := fun b z => by
  rcases z with z | z
  · exact .inl z
  · right
    rcases List.mem_or_eq_of_mem_set z with q | q
    · exact q
    · cases q
theorem not_set {n : Nat} {a : Addr} (rep : Rep M H h) (e : M.m[n]? = some (some a)) : ¬ Mm.Has ⟨M.u, M.m.set n none⟩ a := fun z => by
  rcases z with z | z
  · exact (rep.us a z).1 (List.mem_of_getElem? e)
  · obtain ⟨i, hi, q⟩ := List.getElem_of_mem z
    have q' : (M.m.set n none)[i]? = some (some a) := by rw [List.getElem?_eq_getElem hi, q]
    by_cases hn : n = i
    · subst hn
      have hi' : n < M.m.length := lt_of_get e
      rw [List.getElem?_set_self hi'] at q'
      cases q'
    · rw [List.getElem?_set_ne hn] at q'
      exact hn (rep.inj i n a q' e).symm
theorem ext_frz {n : Nat} : Ext M ⟨M.u, M.m.set n none⟩ H H where
  us := fun _ m => .inl m
  trk := fun a o e => ⟨o, e⟩
  stab := fun _ _ e _ => e
  fresh := fun a m => by
    rcases List.mem_or_eq_of_mem_set m with q | q
    · exact .inl q
    · cases q
  len := by simp
  kill := fun i hi => by
    by_cases hn : n = i
    · subst hn
      right
      show (M.m.set n none)[n]? = _
      rw [List.getElem?_set_self hi]
    · left
      show (M.m.set n none)[i]? = _
      rw [List.getElem?_set_ne hn]
theorem Rep.frz {n : Nat} {a : Addr} (rep : Rep M H h) (e : M.m[n]? = some (some a)) : Rep ⟨M.u, M.m.set n none⟩ H (h.set n none) := by
  have hn : n < h.length := by rw [← rep.len]; exact lt_of_get e
  refine ⟨fun b z => ?_, by simpa using rep.len, fun i j b q1 q2 => ?_, fun i b q => ?_, fun i q => ?_⟩
  · obtain ⟨h1, h2⟩ := rep.us b z
    refine ⟨fun y => h1 ?_, h2⟩
    rcases List.mem_or_eq_of_mem_set y with q | q
    · exact q
    · cases q
  · have g : ∀ (k : Nat), (M.m.set n none)[k]? = some (some b) → M.m[k]? = some (some b) := fun k q => by
      by_cases hk : n = k
      · subst hk
        rw [List.getElem?_set_self (lt_of_get e)] at q
        cases q
      · rwa [List.getElem?_set_ne hk] at q
    exact rep.inj i j b (g i q1) (g j q2)
  · have hk : n ≠ i := fun z => by
      subst z
      have q' : (M.m.set n none)[n]? = some (some b) := q
      rw [List.getElem?_set_self (lt_of_get e)] at q'
      cases q'
    have q' : M.m[i]? = some (some b) := by
      have z : (M.m.set n none)[i]? = some (some b) := q
      rwa [List.getElem?_set_ne hk] at z
    obtain ⟨o, ho, ro⟩ := rep.at_ i b q'
    exact ⟨o, by rw [List.getElem?_set_ne hk]; exact ho, ro.sub less_set⟩
  · have q' : (M.m.set n none)[i]? = some none := q
    by_cases hk : n = i
    · subst hk
      rw [List.getElem?_set_self hn]
    · rw [List.getElem?_set_ne hk] at q' ⊢
      exact rep.dead i q'
theorem RS.frz {n i : Nat} {a : Addr} {o : MO} {ρ : Env} {σ : L2.St} (rep : Rep M H h) (rs : RS M H ρ σ) (e : M.m[n]? = some (some a)) (er : ρ[i]? = some (some (.ref n))) (ro : RO M H a o) (hn : ¬ ((ρ.set i none).any (isR n)) = true) (ht : isTab o = false) :
    RS ⟨M.u, M.m.set n none⟩ H (ρ.set i (some (.dat (moD o)))) σ := by
  refine ⟨by simp [rs.1], fun j w q => ?_⟩
  by_cases hj : i = j
  · subst hj
    rw [List.getElem?_set_self (lt_of_get er)] at q
    cases q
    obtain ⟨v, ev, a', ea, rfl⟩ := rs.2 i _ er
    rw [e] at ea
    cases ea
    refine ⟨_, ev, ?_⟩
    cases o with
    | lst ds => obtain ⟨xs, hx, qx⟩ := ro; exact RD.lst (not_set rep e) hx (qx.sub less_set)
    | dic ds => obtain ⟨xs, hx, qx⟩ := ro; exact RD.dic (not_set rep e) hx (qx.sub less_set)
    | dit ds => exact absurd ht (by simp [isTab])
    | tab q P => exact absurd ht (by simp [isTab])
    | ins C fs => exact absurd ht (by simp [isTab])
  · rw [List.getElem?_set_ne hj] at q
    obtain ⟨v, ev, rv⟩ := rs.2 j w q
    refine ⟨v, ev, ?_⟩
    cases w with
    | dat d => exact RD.sub less_set rv
    | ins C fs =>
      obtain ⟨b, u, gs, e1, n1, q1, r1⟩ := rv
      exact ⟨b, u, gs, e1, fun z => n1 (less_set b z), q1, r1.to fun _ _ => RD.sub less_set⟩
    | row ds =>
      obtain ⟨b, o, xs, e1, n1, dn, q1, r1⟩ := rv
      exact ⟨b, o, xs, e1, fun z => n1 (less_set b z), dn, q1, RDs.sub less_set r1⟩
    | exc k C fs =>
      obtain ⟨b, d, gs, e1, r1⟩ := rv
      exact ⟨b, d, gs, e1, r1.to (fun c _ _ n z => n (less_set c z)) (fun _ _ q _ _ => q) fun _ _ => RD.sub less_set⟩
    | pack its =>
      exact absurd (List.any_eq_true.mpr ⟨some (.pack its), List.mem_of_getElem? (i := j) (by rw [List.getElem?_set_ne hj]; exact q), rfl⟩) hn
    | lock es =>
      obtain ⟨b, u, kvs, e1, n1, q1, r1⟩ := rv
      exact ⟨b, u, kvs, e1, fun z => n1 (less_set b z), q1, r1.sub less_set⟩
    | scr ns =>
      obtain ⟨b, u, e1, n1, q1⟩ := rv
      exact ⟨b, u, e1, fun z => n1 (less_set b z), q1⟩
    | ref k =>
      obtain ⟨b, eb, rfl⟩ := rv
      have hk : n ≠ k := fun z => by
        subst z
        apply hn
        rw [List.any_eq_true]
        refine ⟨some (.ref n), ?_, by simp [isR]⟩
        exact List.mem_of_getElem? (i := j) (by rw [List.getElem?_set_ne hj]; exact q)
      exact ⟨b, by show (M.m.set n none)[k]? = _; rw [List.getElem?_set_ne hk]; exact eb, rfl⟩
end
theorem ds_frz {X : Cx} {sts : List Stmt} {f : SM} (i : Nat) (hd : DSs X sts f) : DSs X sts (sFrz i f) := PSs.weak hd fun D σ H => by
  rintro ⟨M, h, ρ, rep, rs, p⟩
  unfold sFrz at p
  split at p
  · rename_i ρ' h' ef
    unfold frz at ef
    split at ef
    · rename_i n er
      split at ef
      · rename_i o eo
        split at ef
        · cases ef
        · rename_i hn
          cases ef
          obtain ⟨v, ev, a, ea, rfl⟩ := rs.2 i _ er
          obtain ⟨o', ho', ro⟩ := rep.at_ n a ea
          rw [eo] at ho'
          cases ho'
          simp only [Bool.or_eq_true, not_or, Bool.not_eq_true] at hn
          exact ⟨_, _, _, rep.frz ea, rs.frz rep ea er ro (by simpa using hn.1) hn.2, p.mono rfl ext_frz⟩
      · cases ef
    · cases ef
  · exact p.elim
end DL
set_option maxRecDepth 100000
set_option maxHeartbeats 1000000
namespace DL
open PySem PySem.Spec PyProof.Rows L2
section
variable {X : Cx}
theorem pairs_two {pins : List (Addr × Obj)} {σ : L2.St} {H : Hp} {s : Shared} (I : Inv X pins σ H s) : ∀ {ps : List Addr} {kvs : List (Key × V)}, Paired (fun p kv => SqT X.K H p [kV kv.1, kv.2]) ps kvs →
    ∃ (pv : List (Value × Value)) (prs : List (Key × Value)), KV kvs prs ∧ prs.length = ps.length ∧ pv.length = ps.length ∧
      ∀ (j : Nat) (k v : Value), pv[j]? = some (k, v) → ∃ b kk, ps[j]? = some b ∧ IsTup s.heap b #[k, v] ∧ prs[j]? = some (kk, v) ∧ (mixKind X.prog X.w).is kk k = true
  | _, _, .nil => ⟨[], [], .nil, rfl, rfl, fun j k v e => by cases j <;> cases e⟩
  | _, _, .cons (a := p) (b := kv) h t => by
    obtain ⟨pv, prs, r, h1, h2, h3⟩ := pairs_two I t
    obtain ⟨its, rv, ht, _⟩ := I.tuple h
    obtain ⟨u, y, rfl, ru, ry⟩ := vals2 rv
    refine ⟨(u, y) :: pv, (kv.1, y) :: prs, .cons ⟨rfl, ry⟩ r, congrArg (· + 1) h1, congrArg (· + 1) h2, fun j k v e => ?_⟩
    cases j with
    | zero => cases e; exact ⟨p, kv.1, rfl, ht, rfl, kV_is ru⟩
    | succ j => exact h3 j k v e
def rDictT : List V → Hp → VK → Prop := fun xs H Q => ∃ (a : Addr) (o : Obj) (ps : List Addr) (kvs : List (Key × V)), xs = [.ref a] ∧ o.dict = none ∧ H a = some (.frz o (.tup (ps.map V.ref))) ∧ Paired (fun p kv => Rd H p (.tup [kV kv.1, kv.2])) ps kvs ∧
    ∀ p, H p = none → Q (.ref p) (upd H p (.dK (mergeK [] kvs)))
theorem call_dictT (hcalm : X.calm = true) : CallR X (.type "dict") rDictT := by
  intro pins s σ H xs us Q I r q
  obtain ⟨a, o, ps, kvs, rfl, ho, ha, hp, q⟩ := q
  obtain ⟨u, rfl, rx⟩ := vals1 r
  cases rx
  obtain ⟨g1, hz, its, rv, o', g2, hc, n, hd⟩ := (show ObjOk X.prog X.w H s.heap a (.frz o (.tup (ps.map V.ref))) from I.hok a _ ha)
  rw [g1] at g2
  cases g2
  obtain rfl := refs_at rv
  rw [List.length_map] at hz
  obtain ⟨pv, prs, rel, h1, h2, h3⟩ := pairs_two I (Paired.mapP hp fun _ _ z => .inl z)
  have hlen : (ps.map Value.ref).toArray.size = pv.length := by simp [h2]
  have P := PairArg.tuple (prog := X.prog) (w := X.w) a (ps.map Value.ref).toArray (fun j => ps[j]?.getD 0) pv
  apply PySem.call_dict_pairs (knd := mixKind X.prog X.w) (kvs := prs) P (I.ok.hd hcalm) ⟨⟨o, n, g1, hc, ho, hd⟩, hlen, fun j k v e => ?_⟩ ⟨by rw [h1, h2], fun i k v e => ?_⟩ (by rw [h2]; exact hz)
  · intro h' tk hd' k
    have hm : (s.heap.objs.size == sysModules) = false := beq_eq_false_iff_ne.mpr (Nat.ne_of_gt I.big)
    have hk : (mergeK [] kvs).length ≤ sizeLine := by
      apply Nat.le_trans (length_mergeK kvs [])
      rw [List.length_nil, Nat.zero_add, rel.length, h1]
      exact hz
    exact ⟨.ref s.heap.objs.size, _, I.laid (t' := tk) (o := .dK (mergeK [] kvs)) (fun b o e => k b o (fun z => nomatch z) e) (Nat.le_refl _) ⟨hk, hm, merged [] prs, KV.merge rel .nil, hd'⟩, rfl, q _ (I.hok.fresh (Nat.le_refl _))⟩
  · obtain ⟨b, kk, e1, e2, _⟩ := h3 j k v e
    exact ⟨by simp [e1], .inl (by show IsTup s.heap (ps[j]?.getD 0) _; rw [e1]; exact e2)⟩
  · obtain ⟨b, kk, _, _, e3, e4⟩ := h3 i k v e
    exact ⟨kk, e3, e4⟩
def dictA (m : Bool) (ws : List W) (h : Hh) : Option (W × Hh) := match ws with
  | [w] => match deref h w with
    | some (.tuple ds) => if callD ds = true then (match pairsK ds with
      | some qs => mkK m (mergeD [] qs) h
      | none => none) else none
    | _ => dictW m [w] h
  | _ => none
theorem s_dictA (m : Bool) : SemA (fun xs H Q => ((∃ (a : Addr) (ps : List Addr) (kvs : List (Key × V)), xs = [.ref a] ∧ SqL X.K H a (ps.map V.ref) ∧ Paired (fun p kv => SqT X.K H p [kV kv.1, kv.2]) ps kvs ∧
    ∀ p, H p = none → Q (.ref p) (upd H p (.dK (mergeK [] kvs)))) ∨ ∃ (a : Addr) (kvs : List (Key × V)), xs = [.ref a] ∧ Rd H a (.dK kvs) ∧ ∀ p, H p = none → Q (.ref p) (upd H p (.dK kvs))) ∨ rDictT xs H Q) (dictA m) := by
  intro M H h vs ws Q rep rv c
  unfold dictA at c
  split at c
  · obtain ⟨v, rfl, r⟩ := rvs1 rv
    split at c
    · rename_i ds e
      obtain ⟨a, xs, rfl, na, ha, q⟩ := rr_tup (deref_rr rep r e)
      split at c
      · rename_i hc
        split at c
        · rename_i qs e2
          obtain ⟨ps, kvs, rfl, h1, h2⟩ := pairs_ok q e2
          rcases ha with ⟨hn, _⟩ | ⟨_, o, ho, ha⟩
          · rw [hc] at hn; cases hn
          · exact .inr ⟨a, o, ps, kvs, rfl, ho, ha, h1, fun p np => mkK_fin rep np (RDk.merge h2 .nil) c⟩
        · exact c.no.elim
      · exact c.no.elim
    · exact .inl (s_dict m M H h _ _ Q rep rv c)
  · exact c.no.elim
theorem d_dictA (hc : X.calm = true) (m : Bool) (hm : X.mg "dict" = none) {p pos : Pos} {e : Expr} {g : AM} (ha : DA X [e] g) (hg : Gl X "dict" := by rfl) (he : starEach [e] X.env = (false, eval e X.env) :: starEach [] X.env := by rfl) (hpl : (backTo pos (starEach [] X.env)).any (·.1) = false := by rfl) : DE X (.Call (.Name "dict" p) [e] [] pos) (fA (dictA m) g) :=
  d_callT (((call_dictP hc).or call_dictD).or (call_dictT hc)) (s_dictA m) hm bt_dict ha hg (by decide) (by decide) he hpl
end
end DL
set_option maxRecDepth 100000
set_option maxHeartbeats 1000000
namespace DL
open PySem PySem.Spec PyProof.Rows L2
end DL
set_option maxRecDepth 100000
set_option maxHeartbeats 1000000
namespace DL
open PySem PySem.Spec PyProof.Rows L2
end DL
set_option maxRecDepth 100000
set_option maxHeartbeats 1000000
namespace DL
open PySem PySem.Spec PyProof.Rows L2
end DL
set_option maxRecDepth 100000
set_option maxHeartbeats 1000000
namespace DL
open PySem PySem.Spec PyProof.Rows L2
end DL
set_option maxRecDepth 100000
set_option maxHeartbeats 1000000
namespace DL
open PySem PySem.Spec PyProof.Rows L2
section
variable {X : Cx}
theorem rowS_map : ∀ {ds : List D} {l : List Str}, rowS ds = some l → ds = l.map .str
  | [], _, e => by cases e; rfl
  | d :: ds, l, e => by
    unfold rowS at e
    split at e
    · rename_i q; cases q
    · rename_i a ds' q
      cases q
      simp only [Option.map_eq_some_iff] at e
      obtain ⟨l', e1, rfl⟩ := e
      rw [rowS_map e1]; rfl
    · cases e
theorem rowS_strs : ∀ l : List Str, rowS (l.map .str) = some l
  | [] => rfl
  | a :: l => by
    show (rowS (l.map .str)).map (a :: ·) = _
    rw [rowS_strs l]; rfl
theorem rds_strs {M : Mm} {H : Hp} : ∀ {xs : List V} {l : List Str}, RDs M H xs (l.map .str) → xs = l.map V.str
  | _, [], .nil => rfl
  | _, a :: l, .cons r t => by cases r; rw [rds_strs t]; rfl
theorem first_at {l : List Str} {z : Str} (h : z ∈ l) : l[l.idxOf z]? = some z ∧ ∀ m : Nat, m < l.idxOf z → l[m]? ≠ some z := by
  have h1 := List.idxOf_lt_length_of_mem h
  refine ⟨by rw [List.getElem?_eq_getElem h1, List.getElem_idxOf h1], fun m hm e => ?_⟩
  obtain ⟨h2, e2⟩ := List.getElem?_eq_some_iff.mp e
  have := List.not_of_lt_findIdx (p := (· == z)) (xs := l) (i := m) hm
  simp [e2] at this
def tBT (r : V → List V → Hp → VK → Prop) (to : TE) (t : TA) : TE := fun σ H Q => to σ H fun x H1 => (∃ (a : Addr) (o : Obj) (xs : List V), x = .ref a ∧ o.dict = none ∧ H1 a = some (.frz o (.tup xs))) ∧ t σ H1 fun vs H2 => r x vs H2 Q
theorem pe_bt {o e : Expr} {to : TE} {t : TA} {name : Str} {apos cpos : Pos} {id : String} {r : V → List V → Hp → VK → Prop} (slot : Slot "tuple" name id) (hty : typeOf (.builtin id) = pure (.type "method_descriptor")) (hm : MtR X id r) (ho : PE X o to) (ha : PA X [e] t)
    (hb : attributeBase o name X.env (eval o X.env) = eval o X.env := by rfl) (hf : ((backTo cpos (starEach [e] X.env)).all (fun x => !x.1) && (backToKw cpos (keywordEach [] X.env)).all (fun x => x.1.isSome) && decide (([e] : List Expr).length + ([] : List Keyword).length + (if ([] : List Keyword).isEmpty then 0 else 1) < 30)) = true := by rfl)
    (hl : (apos.endLine == cpos.line) = true := by rfl) (hs : starEach [e] X.env = [(false, eval e X.env)] := by rfl) : PE X (.Call (.Attribute o name apos) [e] [] cpos) (tBT r to t) := by
  constructor
  rintro pins s σ H Q I h
  apply wpAny_Call_method_late hb hf hl rfl
  refine thn (ho.run pins s σ H _ I h) fun v s1 ⟨x, H1, I1, r1, ⟨a, ob, xs, ex, od, oa⟩, q1⟩ => ?_
  subst ex
  cases r1
  obtain ⟨g1, _, its, _, o', g2, hc, _⟩ := (show ObjOk X.prog X.w H1 s1.heap a (.frz ob (.tup xs)) from I1.hok a _ oa)
  rw [g1] at g2
  cases g2
  refine ⟨"tuple", id, PySem.F.plainAttrs_tuple, slot, hty, ⟨ob, g1, hc⟩, fun c e => by cases e; exact ⟨ob, g1, od⟩, ?_⟩
  have hA := ha.run cpos pins s1 σ H1 _ I1 q1
  rw [hs] at hA ⊢
  exact Calls.callWith_builtin (by rfl) (Calls.evalArgs_plain (thn hA fun us s2 ⟨vs, H2, I2, r2, q2⟩ => hm pins s2 σ H2 (.ref a) vs _ us Q I2 rfl r2 q2))
def rIxT (K : PySem.W.Frag) : V → List V → Hp → VK → Prop := fun x xs H Q => ∃ p, ∃ ys : List Str, ∃ z j, x = .ref p ∧ xs = [.str z] ∧ SqT K H p (ys.map V.str) ∧ ys[j]? = some z ∧ (∀ m, m < j → ys[m]? ≠ some z) ∧ Q (.int (j : Nat)) H
end
end DL
set_option maxRecDepth 100000
set_option maxHeartbeats 1000000
namespace DL
open PySem PySem.Spec PyProof.Rows L2
end DL
set_option maxRecDepth 100000
set_option maxHeartbeats 4000000
namespace DL
open PySem PySem.Spec PyProof.Rows L2
section
variable {P : Program} {w : World}
structure TxR (P : Program) (w : World) (B : Froz.SD) (l : List Str) : Prop where
  ok : Froz.TxOk P w B l
  ris : Ris B.2.2.place.toList
  led : w.params.followText "set-order" = true ∨ B.2.2.led = true
theorem tail_ris {ep : Nat} {es : Array (Int × Value)} {t : SetTable} {b : Bool} (r : Ris t.place.toList) : Ris (Froz.tailTx ep es t b).2.2.place.toList := by
  unfold Froz.tailTx
  split
  · exact relayAll_ris _ _ _
  · exact r
theorem tail_led {ep : Nat} {es : Array (Int × Value)} {t : SetTable} {b : Bool} : (Froz.tailTx ep es t b).2.2.led = t.led := by
  unfold Froz.tailTx
  split
  · exact relayAll_led _ _ _
  · rfl
theorem TxR.add {B : Froz.SD} {l : List Str} {k : Str} (u : Tok) (F : TxR P w B l) : TxR P w (Froz.addTx (hashStr w k) (.str k u) B) (k :: l) := by
  refine ⟨Froz.add_ok u F.ok, ?_, ?_⟩
  · have r1 := layNew_ris B.2.2 B.1 (hashStr w k) (.str k u) F.ris
    unfold Froz.addTx
    apply tail_ris
    split
    · exact r1
    · exact r1
  · have l1 := layNew_led B.2.2 B.1 (hashStr w k) (.str k u)
    rcases F.led with q | q
    · exact .inl q
    · right
      unfold Froz.addTx
      rw [tail_led]
      split
      · exact l1.trans q
      · exact l1.trans q
def TxAt (P : Program) (w : World) (h : Heap) (a : Addr) (l : List Str) : Prop := ∃ B, h.get? a = some (Froz.sObj "set" B) ∧ TxR P w B l
theorem TxAt.at {h h' : Heap} {a : Addr} {l : List Str} (x : TxAt P w h a l) (k : ∀ o, h.get? a = some o → h'.get? a = some o) : TxAt P w h' a l := by
  obtain ⟨B, e, r⟩ := x
  exact ⟨B, k _ e, r⟩
end
end DL
set_option maxRecDepth 100000
set_option maxHeartbeats 1000000
namespace DL
open PySem PySem.Spec PyProof.Rows L2
end DL
set_option maxRecDepth 100000
set_option maxHeartbeats 1000000
namespace DL
open PySem PySem.Spec PyProof.Rows L2
end DL
set_option maxRecDepth 100000
set_option maxHeartbeats 1000000
namespace DL
open PySem PySem.Spec PyProof.Rows L2
end DL
set_option maxRecDepth 100000
set_option maxHeartbeats 4000000
namespace DL
open PySem PySem.Spec PyProof.Rows L2
section
variable {X : Cx}
def gSub (i j : Int) : Option Int := some (i - j)
end
end DL
set_option maxRecDepth 100000
set_option maxHeartbeats 1000000
namespace DL
open PySem PySem.Spec PyProof.Rows L2
end DL
set_option maxRecDepth 100000
set_option maxHeartbeats 400000
namespace DL
open PySem PySem.Spec PyProof.Rows L2
mutual
def noL : D → Bool
  | .tuple ds => noLs ds
  | .list _ => false
  | .dict _ => false
  | _ => true
def noLs : List D → Bool
  | [] => true
  | d :: ds => noL d && noLs ds
end
def okM : Option MO → Bool
  | some (.lst ds) => noLs ds
  | some (.tab _ _) => true
  | none => true
  | _ => false
def killG {α : Type} (ns : List Nat) (l : List (Option α)) : List (Option α) := ns.foldl (fun l n => l.set n none) l
theorem killG_len {α : Type} : ∀ (ns : List Nat) (l : List (Option α)), (killG ns l).length = l.length
  | [], l => rfl
  | n :: ns, l => by show (killG ns (l.set n none)).length = _; rw [killG_len ns]; simp
theorem killG_get {α : Type} : ∀ (ns : List Nat) (l : List (Option α)) (i : Nat), i < l.length → (killG ns l)[i]? = if i ∈ ns then some none else l[i]?
  | [], l, i, h => by simp [killG]
  | n :: ns, l, i, h => by
    show (killG ns (l.set n none))[i]? = _
    rw [killG_get ns _ i (by simpa using h)]
    by_cases hi : i ∈ ns
    · simp [hi]
    · by_cases hn : n = i
      · subst hn; simp [hi, List.getElem?_set_self h]
      · simp [hi, Ne.symm hn, List.getElem?_set_ne hn]
def openP (h : Hh) : List (Sum Nat D) → Option (List D × List Nat)
  | [] => some ([], [])
  | .inr d :: its => match openP h its with
    | some (ds, ns) => some (d :: ds, ns)
    | none => none
  | .inl n :: its => match h[n]?, openP h its with
    | some (some (.lst l)), some (ds, ns) => some (.list l :: ds, n :: ns)
    | _, _ => none
section
variable {M : Mm} {H : Hp} {h : Hh}
theorem killM_has {ns : List Nat} : ∀ b, Mm.Has ⟨M.u, killG ns M.m⟩ b → M.Has b := fun b z => by
  rcases z with z | z
  · exact .inl z
  · obtain ⟨i, hi, q⟩ := List.getElem_of_mem z
    have hi' : i < M.m.length := by simpa [killG_len] using hi
    have q' : (killG ns M.m)[i]? = some (some b) := by rw [List.getElem?_eq_getElem hi]; exact congrArg some q
    rw [killG_get ns M.m i hi'] at q'
    split at q'
    · cases q'
    · exact .inr (List.mem_of_getElem? q')
theorem killM_get {ns : List Nat} {i : Nat} {a : Addr} (q : (killG ns M.m)[i]? = some (some a)) : i ∉ ns ∧ M.m[i]? = some (some a) := by
  have hi : i < M.m.length := by have := lt_of_get q; rwa [killG_len] at this
  rw [killG_get ns M.m i hi] at q
  split at q
  · cases q
  · rename_i hn; exact ⟨hn, q⟩
theorem Rep.kill (rep : Rep M H h) (ns : List Nat) : Rep ⟨M.u, killG ns M.m⟩ H (killG ns h) := by
  refine ⟨fun b z => ⟨fun y => ?_, (rep.us b z).2⟩, by rw [killG_len, killG_len]; exact rep.len, fun i j b q1 q2 => ?_, fun i b q => ?_, fun i q => ?_⟩
  · obtain ⟨i, hi, q⟩ := List.getElem_of_mem y
    have q' : (killG ns M.m)[i]? = some (some b) := by rw [List.getElem?_eq_getElem hi]; exact congrArg some q
    exact (rep.us b z).1 (List.mem_of_getElem? (killM_get q').2)
  · exact rep.inj i j b (killM_get q1).2 (killM_get q2).2
  · obtain ⟨hn, q'⟩ := killM_get q
    obtain ⟨o, ho, ro⟩ := rep.at_ i b q'
    refine ⟨o, ?_, ro.sub killM_has⟩
    rw [killG_get ns h i (by rw [← rep.len]; exact lt_of_get q'), if_neg hn]
    exact ho
  · have q' : (killG ns M.m)[i]? = some none := q
    have hi : i < M.m.length := by have := lt_of_get q'; rwa [killG_len] at this
    rw [killG_get ns h i (by rw [← rep.len]; exact hi)]
    rw [killG_get ns M.m i hi] at q'
    split at q'
    · rename_i hn; rw [if_pos hn]
    · rename_i hn; rw [if_neg hn]; exact rep.dead i q'
theorem killM_not (rep : Rep M H h) {ns : List Nat} {n : Nat} {a : Addr} (hn : n ∈ ns) (q : M.m[n]? = some (some a)) : ¬ Mm.Has ⟨M.u, killG ns M.m⟩ a := fun z => by
  rcases z with z | z
  · exact (rep.us a z).1 (List.mem_of_getElem? q)
  · obtain ⟨i, hi, e⟩ := List.getElem_of_mem z
    have q' : (killG ns M.m)[i]? = some (some a) := by rw [List.getElem?_eq_getElem hi]; exact congrArg some e
    obtain ⟨h1, h2⟩ := killM_get q'
    exact h1 (rep.inj i n a h2 q ▸ hn)
theorem openP_rds (rep : Rep M H h) {ns0 : List Nat} : ∀ {its : List (Sum Nat D)} {xs : List V} {ds : List D} {ns : List Nat}, RPs M H xs its → openP h its = some (ds, ns) → (∀ n ∈ ns, n ∈ ns0) → RDs ⟨M.u, killG ns0 M.m⟩ H xs ds
  | _, _, _, _, .nil, e, _ => by cases e; exact .nil
  | _, _, _, _, .dat (ds := its) q r, e, hs => by
    simp only [openP] at e
    split at e
    · rename_i ds ns e1
      cases e
      exact .cons (q.sub killM_has) (openP_rds rep r e1 hs)
    · cases e
  | _, _, _, _, .ref (ds := its) q r, e, hs => by
    simp only [openP] at e
    split at e
    · rename_i l ds ns e0 e1
      cases e
      obtain ⟨o, ho, ro⟩ := rep.at_ _ _ q
      rw [e0] at ho
      cases ho
      obtain ⟨xs, hx, rx⟩ := ro
      exact .cons (.lst (killM_not rep (hs _ (by simp)) q) hx (rx.sub killM_has)) (openP_rds rep r e1 fun n z => hs n (List.mem_cons_of_mem _ z))
    · cases e
theorem RS.kill {ρ : Env} {σ : L2.St} {i : Nat} {its : List (Sum Nat D)} {ds : List D} {ns : List Nat} (rep : Rep M H h) (rs : RS M H ρ σ) (er : ρ[i]? = some (some (.pack its))) (eo : openP h its = some (ds, ns)) (hn : ¬ ns.any (fun n => (ρ.set i none).any (isR n)) = true) (h0 : ns ≠ []) :
    RS ⟨M.u, killG ns M.m⟩ H (ρ.set i (some (.dat (.list ds)))) σ := by
  refine ⟨by simp [rs.1], fun j w q => ?_⟩
  by_cases hj : i = j
  · subst hj
    rw [List.getElem?_set_self (lt_of_get er)] at q
    cases q
    obtain ⟨v, ev, a, xs, rfl, na, ha, rp⟩ := rs.2 i _ er
    exact ⟨_, ev, RD.lst (fun z => na (killM_has _ z)) ha (openP_rds rep rp eo fun _ z => z)⟩
  · rw [List.getElem?_set_ne hj] at q
    obtain ⟨v, ev, rv⟩ := rs.2 j w q
    refine ⟨v, ev, ?_⟩
    have hm : some w ∈ ρ.set i none := List.mem_of_getElem? (i := j) (by rw [List.getElem?_set_ne hj]; exact q)
    cases w with
    | dat d => exact RD.sub killM_has rv
    | ins C fs =>
      obtain ⟨b, u, gs, e1, n1, q1, r1⟩ := rv
      exact ⟨b, u, gs, e1, fun z => n1 (killM_has b z), q1, r1.to fun _ _ => RD.sub killM_has⟩
    | row ds =>
      obtain ⟨b, o, xs, e1, n1, dn, q1, r1⟩ := rv
      exact ⟨b, o, xs, e1, fun z => n1 (killM_has b z), dn, q1, RDs.sub killM_has r1⟩
    | exc k C fs =>
      obtain ⟨b, d, gs, e1, r1⟩ := rv
      exact ⟨b, d, gs, e1, r1.to (fun c _ _ n z => n (killM_has c z)) (fun _ _ q _ _ => q) fun _ _ => RD.sub killM_has⟩
    | lock es =>
      obtain ⟨b, u, kvs, e1, n1, q1, r1⟩ := rv
      exact ⟨b, u, kvs, e1, fun z => n1 (killM_has b z), q1, r1.sub killM_has⟩
    | scr ns =>
      obtain ⟨b, u, e1, n1, q1⟩ := rv
      exact ⟨b, u, e1, fun z => n1 (killM_has b z), q1⟩
    | pack its' =>
      obtain ⟨n, hn0⟩ := List.exists_mem_of_ne_nil _ h0
      exact absurd (List.any_eq_true.mpr ⟨n, hn0, List.any_eq_true.mpr ⟨_, hm, rfl⟩⟩) hn
    | ref k =>
      obtain ⟨b, eb, rfl⟩ := rv
      have hk : k ∉ ns := fun z => hn (List.any_eq_true.mpr ⟨k, z, List.any_eq_true.mpr ⟨_, hm, by simp [isR]⟩⟩)
      exact ⟨b, by show (killG ns M.m)[k]? = _; rw [killG_get ns M.m k (lt_of_get eb), if_neg hk]; exact eb, rfl⟩
end
section
variable {X : Cx}
def packs : List W → Option (List (Sum Nat D))
  | [] => some []
  | .dat d :: ws => (packs ws).map (.inr d :: ·)
  | .ref n :: ws => (packs ws).map (.inl n :: ·)
  | _ :: _ => none
@[simp] theorem packs_nil : packs [] = some [] := rfl
@[simp] theorem packs_dat (d : D) (ws : List W) : packs (.dat d :: ws) = (packs ws).map (.inr d :: ·) := rfl
@[simp] theorem packs_ref (n : Nat) (ws : List W) : packs (.ref n :: ws) = (packs ws).map (.inl n :: ·) := rfl
theorem RPs.length {M : Mm} {H : Hp} : ∀ {vs : List V} {ws : List (Sum Nat D)}, RPs M H vs ws → vs.length = ws.length
  | _, _, .nil => rfl
  | _, _, .ref _ r => by rw [List.length_cons, List.length_cons, r.length]
  | _, _, .dat _ r => by rw [List.length_cons, List.length_cons, r.length]
theorem RPs.get {M : Mm} {H : Hp} : ∀ {xs : List V} {its : List (Sum Nat D)} {i : Nat} {z : Sum Nat D}, RPs M H xs its → its[i]? = some z → ∃ v, xs[i]? = some v ∧ RV M H v (match z with | .inl n => .ref n | .inr d => .dat d)
  | _, _, _, _, .nil, e => by simp at e
  | _, _, 0, _, .ref (a := a) q r, e => by simp at e; subst e; exact ⟨_, rfl, a, q, rfl⟩
  | _, _, 0, _, .dat q r, e => by simp at e; subst e; exact ⟨_, rfl, q⟩
  | _, _, i + 1, z, .ref (vs := vs) (ds := ds) q r, e => by
    obtain ⟨v, e1, e2⟩ := RPs.get (i := i) r (by simpa using e)
    exact ⟨v, by simpa using e1, e2⟩
  | _, _, i + 1, z, .dat (vs := vs) (ds := ds) q r, e => by
    obtain ⟨v, e1, e2⟩ := RPs.get (i := i) r (by simpa using e)
    exact ⟨v, by simpa using e1, e2⟩
end
end DL
set_option maxRecDepth 100000
set_option maxHeartbeats 1000000
namespace DL
open PySem PySem.Spec PyProof.Rows L2
def RB (M : Mm) (H : Hp) (v : V) (d : D) : Prop := ∃ a xs es, v = .ref a ∧ d = .tuple es ∧ H a = some (.tup xs) ∧ RDs M H xs es
def ItB (M : Mm) (H : Hp) (J : It) (ds : List D) : Prop := ∀ M1 H1, Ext M M1 H H1 → (∀ a, M1.Has a → ∃ o, H1 a = some o ∧ tpO o = false) → (∀ (i : Nat) (d : D), ds[i]? = some d → J.go i H1 ∧ ∀ x H2, J.yld i H1 x H2 → Same H1 H2 ∧ RB M1 H2 x d) ∧ J.stop ds.length H1
def tIB (g : IM) : TI := fun σ H R => ∃ M h ρ ds h', Rep M H h ∧ RS M H ρ σ ∧ g ρ h = some (ds, h') ∧ ∀ M' H' J, ExtE M M' H H' → Rep M' H' h' → ItB M' H' J ds → R J H'
abbrev DIB (X : Cx) (tg it : Expr) (g : IM) : Prop := PI X tg it (tIB g)
def tGB (ts : List Nat) (g : TM) : TG := fun v σ H Q => ∃ M h ρ d ρ', Rep M H h ∧ RS M H ρ σ ∧ RB M H v d ∧ g (.dat d) ρ h = some ρ' ∧ ∀ σ' : L2.St, RS M H ρ' σ' → σ'.length = σ.length → (∀ j, j ∉ ts → σ'[j]? = σ[j]?) → Q σ' H
abbrev DGB (X : Cx) (tg : Expr) (ts : List Nat) (g : TM) : Prop := PG X tg (tGB ts g)
theorem dg_tupB {X : Cx} {tgs : List Expr} {k : Nat} {pos : Pos} {ts : List Nat} {g : TMs} {n : Nat} (hc : X.calm = true) (h : DGs X tgs ts g) (hn : (assignEach tgs X.env).length = n := by rfl) (hst : (assignEach tgs X.env).findIdx? (·.1) = none := by rfl) : DGB X (.Tuple tgs k pos) ts (gT n g) :=
  (pg_tup hc h hn hst).weak fun v σ H Q => by
    rintro ⟨M, h, ρ, d, ρ', r, rs, ⟨a, xs, es, rfl, rfl, ha, qa⟩, e, q⟩
    unfold gT at e
    simp only [deref_dat] at e
    split at e
    · rename_i hz
      exact ⟨a, xs, rfl, .inl (.inl ha), by rw [qa.length]; exact hz, M, h, ρ, es, ρ', r, rs, qa, e, q⟩
    · cases e
theorem itb_zip {K : PySem.W.Frag} {M : Mm} {H : Hp} {a b : Addr} {xs ys : List V} {ds es : List D} (n : ¬ M.Has a) (ha : H a = some (.lst xs)) (q : RDs M H xs ds) (n' : ¬ M.Has b) (hb : H b = some (.lst ys)) (q' : RDs M H ys es) : ItB M H (Itz K a b) (zipD ds es) := fun M1 H1 x tr => by
  have ha1 := x.st n ha
  have hb1 := x.st n' hb
  refine ⟨fun i d e => ?_, ⟨xs, ys, .of ha1, .of hb1, by rw [q.length, q'.length, zipD_len]; omega⟩⟩
  obtain ⟨d1, d2, e1, e2, rfl⟩ := zipD_get e
  obtain ⟨v, ev, rv⟩ := (q.mono x).get e1
  obtain ⟨v', ev', rv'⟩ := (q'.mono x).get e2
  refine ⟨⟨xs, ys, v, v', .of ha1, .of hb1, ev, ev'⟩, fun y H2 hy => ?_⟩
  obtain ⟨T, z, z', rfl, nT, rfl, hz, hz'⟩ := hy
  have t1 := hz xs (.of ha1)
  rw [ev] at t1; cases t1
  have t2 := hz' ys (.of hb1)
  rw [ev'] at t2; cases t2
  exact ⟨same_new nT, T, _, _, rfl, rfl, upd_same, .cons (rv.mono (grow_ext (same_new nT))) (.cons (rv'.mono (grow_ext (same_new nT))) .nil)⟩
theorem itb_zipT {K : PySem.W.Frag} {M : Mm} {H : Hp} {a b : Addr} {xs ys : List V} {ds es : List D} (n : ¬ M.Has a) (ha : TupAt H a xs ds) (q : RDs M H xs ds) (n' : ¬ M.Has b) (hb : TupAt H b ys es) (q' : RDs M H ys es) : ItB M H (RZ.ItzT K a b) (zipD ds es) := fun M1 H1 x tr => by
  have ha1 := (ha.to fun _ z => x.st n z).sq (K := K)
  have hb1 := (hb.to fun _ z => x.st n' z).sq (K := K)
  refine ⟨fun i d e => ?_, ⟨xs, ys, ha1, hb1, by rw [q.length, q'.length, zipD_len]; omega⟩⟩
  obtain ⟨d1, d2, e1, e2, rfl⟩ := zipD_get e
  obtain ⟨v, ev, rv⟩ := (q.mono x).get e1
  obtain ⟨v', ev', rv'⟩ := (q'.mono x).get e2
  refine ⟨⟨xs, ys, v, v', ha1, hb1, ev, ev'⟩, fun y H2 hy => ?_⟩
  obtain ⟨T, z, z', rfl, nT, rfl, hz, hz'⟩ := hy
  have t1 := hz xs ha1
  rw [ev] at t1; cases t1
  have t2 := hz' ys hb1
  rw [ev'] at t2; cases t2
  exact ⟨same_new nT, T, _, _, rfl, rfl, upd_same, .cons (rv.mono (grow_ext (same_new nT))) (.cons (rv'.mono (grow_ext (same_new nT))) .nil)⟩
def zipB (g : AM) : IM := fun ρ h => obnd (g ρ h) fun ws h1 => match ws with
  | [.dat (.list ds), .dat (.list es)] => some (zipD ds es, h1)
  | [.dat (.tuple ds), .dat (.tuple es)] => some (zipD ds es, h1)
  | _ => none
theorem di_zipB {X : Cx} (hm : X.mg "zip" = none) {e e2 : Expr} {elts : List Expr} {kk : Nat} {p pos tpos : Pos} {g : AM} (ha : DA X [e, e2] g) (hg : Gl X "zip" := by rfl) (hs : starEach [e, e2] X.env = (false, eval e X.env) :: starEach [e2] X.env := by rfl) (hpl : (backTo pos (starEach [e2] X.env)).any (·.1) = false := by rfl) :
    DIB X (.Tuple elts kk tpos) (.Call (.Name "zip" p) [e, e2] [] pos) (zipB g) := (RZ.pi_zipA hg hm ha hs hpl).weak fun σ H R => by
  rintro ⟨M, h, ρ, ds, h', r, rs, e, q⟩
  unfold zipB at e
  cases ef : g ρ h with
  | none => rw [ef] at e; cases e
  | some p =>
    obtain ⟨ws, h1⟩ := p
    rw [ef] at e
    simp only [obnd_some] at e
    split at e
    · cases e
      refine ⟨M, h, ρ, r, rs, _, _, ef, fun M1 H1 v x1 r1 v1 => ?_⟩
      obtain ⟨v, v', rfl, rv, rv'⟩ := rvs2 v1
      cases (show RD M1 H1 v _ from rv) with
      | lst n ha qa =>
        cases (show RD M1 H1 v' _ from rv') with
        | lst n' hb qb => exact ⟨_, _, _, _, rfl, .inl ⟨.of ha, .of hb, q M1 H1 _ x1 r1 (itb_zip n ha qa n' hb qb)⟩⟩
    · cases e
      refine ⟨M, h, ρ, r, rs, _, _, ef, fun M1 H1 v x1 r1 v1 => ?_⟩
      obtain ⟨v, v', rfl, rv, rv'⟩ := rvs2 v1
      cases (show RD M1 H1 v _ from rv) with
      | tup n ha qa =>
        cases (show RD M1 H1 v' _ from rv') with
        | tup n' hb qb => exact ⟨_, _, _, _, rfl, .inr ⟨ha.sq, hb.sq, q M1 H1 _ x1 r1 (itb_zipT n ha qa n' hb qb)⟩⟩
    · cases e
theorem lc_impB {gi : IM} {k : TM} {t : BM} {f : EM} {ts vs : List Nat} {m : Bool} (hs : ∀ j ∈ ts, j ∈ vs) : ∀ σ H Q, tE (fLc m gi k t f vs) σ H Q → tLc (tIB gi) (tGB ts k) (tT t) (tE f) vs σ H Q := fun σ H Q => by
  rintro ⟨M, h, ρ, r, rs, c⟩
  obtain ⟨ds, h1, e1, c1⟩ := Cont.bind (δ := Unit) c
  refine ⟨M, h, ρ, ds, h1, r, rs, e1, fun M1 H1 J x1 r1 it D nD => ?_⟩
  obtain ⟨out, h2, e2, c2⟩ := Cont.bind (δ := Unit) (c1 M1 H1 x1)
  have x0 := ext_made (M := M1) (o := .lst []) nD
  have r0 := r1.make (o := .lst []) nD
  have rs0 : RS (M1.made D) (upd H1 D (.lst [])) (wipeE ρ vs) (L2.wipe σ vs) := ((rs.mono x1).moveu x0 rfl).wipe vs
  let P : Nat → Hp → Prop := fun i Hi => ∃ mi hi acc dacc rest, ExtE M1 ⟨M1.u, mi⟩ H1 Hi ∧ Rep ⟨D :: M1.u, mi⟩ Hi hi ∧ RS ⟨D :: M1.u, mi⟩ Hi (wipeE ρ vs) (L2.wipe σ vs) ∧ Hi D = some (.lst acc) ∧ RDs ⟨D :: M1.u, mi⟩ Hi acc dacc ∧ lcL k t f (wipeE ρ vs) (ds.drop i) hi = some (rest, h2) ∧ dacc ++ rest = out
  have outlen : out.length ≤ sizeLine := by
    have c3 := c2 M1 H1 (.refl _ _)
    by_cases hz : out.length ≤ sizeLine
    · exact hz
    · rw [if_neg hz] at c3; exact c3.no.elim
  refine ⟨fun i n Hi => n + i = ds.length ∧ P i Hi, ⟨ds.length, by omega, M1.m, h1, [], [], out, (ExtE.refl M1 H1).beside nD, r0, rs0, upd_same, .nil, by rw [List.drop_zero]; exact e2, rfl⟩, fun i n Hi w => ?_⟩
  obtain ⟨hn, mi, hi, acc, dacc, rest, xi, ri, rsi, hD, qa, el, eo⟩ := w
  have inD : D ∈ (⟨D :: M1.u, mi⟩ : Mm).u := List.mem_cons_self
  have itx := xi.into nD
  obtain ⟨ity, its⟩ := it _ Hi itx fun a ha => ri.tracked ha
  by_cases hlt : i < ds.length
  · refine .inr ?_
    have ed : ds[i]? = some ds[i] := List.getElem?_eq_getElem hlt
    obtain ⟨go, yl⟩ := ity i _ ed
    rw [List.drop_eq_getElem_cons hlt] at el
    refine ⟨go, P (i + 1), fun H' p => ⟨n - 1, by omega, by omega, p⟩, fun x H2 hy => ?_⟩
    obtain ⟨sm, rx⟩ := yl x H2 hy
    obtain ⟨ri2, xi2⟩ := ri.grow sm
    unfold lcL at el
    split at el
    · rename_i ρ1 ek
      refine ⟨_, hi, wipeE ρ vs, ds[i], ρ1, ri2, rsi.mono xi2, rx, ek, fun σ2 rs2 l2 o2 => ⟨wipe_of (by rw [l2, L2.wipe_length]) o2 hs, ?_⟩⟩
      cases et : t ρ1 hi with
      | none => rw [et] at el; cases el
      | some pr =>
        obtain ⟨b, h3⟩ := pr
        rw [et] at el
        simp only [obnd_some] at el
        refine ⟨_, hi, ρ1, ri2, rs2, b, h3, et, fun M3 H3 b' x3 r3 eb => ?_⟩
        subst eb
        obtain ⟨u3, m3⟩ := M3
        obtain rfl : u3 = D :: M1.u := x3.same
        have xi3 : ExtE M1 ⟨M1.u, m3⟩ H1 H3 := xi.trans ((xi2.trans x3).reu M1.u)
        have hD3 : H3 D = some (.lst acc) := x3.stab _ _ (sm _ _ hD) fun z => (ri.us D inD).1 z
        cases b' with
        | false =>
          simp only [Bool.false_eq_true, if_false] at el
          exact iteF ⟨m3, h3, acc, dacc, rest, xi3, r3, (rsi.mono xi2).mono x3, hD3, (qa.mono xi2.ext).mono x3.ext, el, eo⟩
        | true =>
          simp only [if_true] at el
          refine iteT ?_
          cases ef : f ρ1 h3 with
          | none => rw [ef] at el; cases el
          | some pr =>
            obtain ⟨w, h4⟩ := pr
            rw [ef] at el
            simp only [obnd_some] at el
            refine ⟨_, h3, ρ1, r3, rs2.mono x3, w, h4, ef, fun M4 H4 y x4 r4 ry => ?_⟩
            obtain ⟨u4, m4⟩ := M4
            obtain rfl : u4 = D :: M1.u := x4.same
            have hD4 : H4 D = some (.lst acc) := x4.stab _ _ hD3 fun z => (r3.us D List.mem_cons_self).1 z
            split at el
            · rename_i d'
              cases er : lcL k t f (wipeE ρ vs) (ds.drop (i + 1)) h4 with
              | none => rw [er] at el; cases el
              | some pr =>
                obtain ⟨rest', h5⟩ := pr
                rw [er] at el
                simp only [obnd_some, Option.some.injEq, Prod.mk.injEq] at el
                obtain ⟨e5, e6⟩ := el
                subst e5 e6
                have q4 := ((qa.mono xi2.ext).mono x3.ext).mono x4.ext
                have hlen : acc.length < sizeLine := by
                  have h7 := congrArg List.length eo
                  rw [List.length_append, List.length_cons] at h7
                  rw [qa.length]; omega
                have in4 : D ∈ (⟨D :: M1.u, m4⟩ : Mm).u := List.mem_cons_self
                exact ⟨acc, hD4, hlen, m4, h4, acc ++ [y], dacc ++ [d'], rest', (xi3.trans (x4.reu M1.u)).beside nD, r4.off in4, (((rsi.mono xi2).mono x3).mono x4).off in4, upd_same, (q4.off in4).app (.cons (RD.off in4 ry) .nil), er, by rw [List.append_assoc]; exact eo⟩
            · cases el
    · cases el
  · refine .inl ?_
    have hi' : i = ds.length := by omega
    subst hi'
    rw [List.drop_length] at el
    cases el
    rw [List.append_nil] at eo
    subst eo
    refine ⟨its, ?_⟩
    have c3 := c2 M1 H1 (.refl _ _)
    rw [if_pos outlen] at c3
    have nu : D ∉ M1.u := fun z => r1.new nD (.inl z)
    have nm : some D ∉ mi := (ri.us D inD).1
    cases m with
    | false =>
      exact c3.fin xi ri.told (RD.lst (fun z => z.elim nu nm) hD (qa.sub less_has))
    | true =>
      refine c3.fin (M' := ⟨M1.u, mi ++ [some D]⟩) ⟨rfl, xi.trk, xi.stab, fun a z => ?_, Nat.le_trans xi.len (by simp), fun j hj => ?_⟩ (ri.owned nu ⟨acc, hD, qa⟩) ⟨D, ?_, rfl⟩
      · rcases List.mem_append.mp z with z | z
        · exact xi.fresh a z
        · have : a = D := by simpa using z
          rw [this]; exact .inr nD
      · have hl : j < mi.length := Nat.lt_of_lt_of_le hj xi.len
        show (mi ++ [some D])[j]? = _
        rw [List.getElem?_append_left hl]; exact xi.pre j hj
      · show (mi ++ [some D])[h2.length]? = _
        rw [← show mi.length = h2.length from ri.len]; simp
section
variable {X : Cx}
theorem d_lcB (m : Bool) {elt tg iter : Expr} {ifs : List Expr} {scope : Scope} {own : List (Str × Nat)} {pos : Pos} {gi : IM} {ts : List Nat} {k : TM} {t : BM} {f : EM} (hc : X.calm = true) (hN : X.N.Nodup) (hi : DIB X tg iter gi) (ok : BlkOk X.N X.env.scope scope own)
    (hg : ∀ (s : Shared) (H : Hp) (C : Addr) (cl : List (Str × Addr)) (fp : List Addr), DGB (X.blk s H scope (compEnvC scope cl C X.env) fp) tg ts k) (ht : ∀ (s : Shared) (H : Hp) (C : Addr) (cl : List (Str × Addr)) (fp : List Addr), DTs (X.blk s H scope (compEnvC scope cl C X.env) fp) ifs t)
    (he : ∀ (s : Shared) (H : Hp) (C : Addr) (cl : List (Str × Addr)) (fp : List Addr), DE (X.blk s H scope (compEnvC scope cl C X.env) fp) elt f) (hsub : ∀ j ∈ ts, j ∈ own.map (·.2)) (hs : ∀ x, foldedSetIterable iter X.env x = pure x := by intro _; rfl) :
    DE X (.ListComp elt [⟨tg, iter, ifs, 0⟩] scope pos) (fLc m gi k t f (own.map (·.2))) := (pe_lc hc hN hi ok hg ht he hs).weak (lc_impB hsub)
end
mutual
def noD : D → Bool
  | .tuple ds => noDs ds
  | .list ds => noDs ds
  | .dict _ => false
  | _ => true
def noDs : List D → Bool
  | [] => true
  | d :: ds => noD d && noDs ds
end
def noDk : List (D × D) → Bool
  | [] => true
  | (_, d) :: es => noD d && noDk es
def noDM : Option MO → Bool
  | some (.lst ds) => noDs ds
  | some (.dic es) => noDk es
  | some (.dit es) => noDk es
  | some (.ins _ _) => false
  | _ => true
section
variable {M : Mm} {H : Hp} {d : Addr} {o : Obj} {u : HO} {kvs0 : List (Key × V)}
mutual
theorem RD.lock (hd : H d = some (.dK kvs0)) : ∀ {v : V} {x : D}, RD M H v x → noD x = true → RD M (upd H d u) v x
  | _, _, .non, _ => .non
  | _, _, .bl b, _ => .bl b
  | _, _, .int i, _ => .int i
  | _, _, .str s, _ => .str s
  | _, _, .tup n e r, h => .tup n (e.to fun _ q => by
      rw [upd_ne]; exact q
      rintro rfl
      rcases e with ⟨_, e⟩ | ⟨_, o, _, e⟩ <;> rw [hd] at e <;> cases e) (RDs.lock hd r (by simpa [noD] using h))
  | _, _, .lst n e r, h => .lst n (by
      rw [upd_ne]; exact e
      rintro rfl
      rw [hd] at e; cases e) (RDs.lock hd r (by simpa [noD] using h))
  | _, _, .dic n e r, h => by simp [noD] at h
  | _, _, .dit n e r, h => by simp [noD] at h
theorem RDs.lock (hd : H d = some (.dK kvs0)) : ∀ {v : List V} {x : List D}, RDs M H v x → noDs x = true → RDs M (upd H d u) v x
  | _, _, .nil, _ => .nil
  | _, _, .cons a r, h => by
    simp only [noDs, Bool.and_eq_true] at h
    exact .cons (RD.lock hd a h.1) (RDs.lock hd r h.2)
end
theorem RDk.lock (hd : H d = some (.dK kvs0)) : ∀ {v : List (Key × V)} {x : List (D × D)}, RDk M H v x → noDk x = true → RDk M (upd H d u) v x
  | _, _, .nil, _ => .nil
  | _, _, .cons a r, h => by
    simp only [noDk, Bool.and_eq_true] at h
    exact .cons (RD.lock hd a h.1) (RDk.lock hd r h.2)
theorem RDt.lock (hd : H d = some (.dK kvs0)) : ∀ {v : List (List Key × V)} {x : List (D × D)}, RDt M H v x → noDk x = true → RDt M (upd H d u) v x
  | _, _, .nil, _ => .nil
  | _, _, .cons a r, h => by
    simp only [noDk, Bool.and_eq_true] at h
    exact .cons (RD.lock hd a h.1) (RDt.lock hd r h.2)
theorem RO.lock (hd : H d = some (.dK kvs0)) (hn : ¬ M.Has d) {a : Addr} (ha : M.Has a) {m : MO} (r : RO M H a m) (h : noDM (some m) = true) : RO M (upd H d u) a m := by
  have ne : a ≠ d := fun z => hn (z ▸ ha)
  cases m with
  | lst ds => obtain ⟨xs, e, r⟩ := r; exact ⟨xs, by rw [upd_ne ne]; exact e, r.lock hd h⟩
  | dic ds => obtain ⟨xs, e, r⟩ := r; exact ⟨xs, by rw [upd_ne ne]; exact e, r.lock hd h⟩
  | dit ds => obtain ⟨xs, e, r⟩ := r; exact ⟨xs, by rw [upd_ne ne]; exact e, r.lock hd h⟩
  | ins C fs => cases h
  | tab q P =>
    obtain ⟨z, ps, e, t, r⟩ := r
    refine ⟨z, ps, by rw [upd_ne ne]; exact e, t, fun pos cv hc => ?_⟩
    obtain ⟨c, e1, n, e2⟩ := r pos cv hc
    refine ⟨c, e1, n, ?_⟩
    rw [upd_ne]; exact e2
    rintro rfl
    rw [hd] at e2; cases e2
theorem Rep.lock {h : Hh} (r : Rep M H h) (hd : H d = some (.dK kvs0)) (hn : ¬ M.Has d) (hk : h.all noDM = true) : Rep M (upd H d u) h :=
  ⟨fun a m => ⟨(r.us a m).1, let ⟨w, e, ht⟩ := (r.us a m).2; ⟨w, by rw [upd_ne (fun z => hn (.inl (by rw [← z]; exact m)))]; exact e, ht⟩⟩, r.len, r.inj, fun i a e => by
    obtain ⟨m, hm, ro⟩ := r.at_ i a e
    exact ⟨m, hm, ro.lock hd hn (.inr (List.mem_of_getElem? e)) (List.all_eq_true.mp hk _ (List.mem_of_getElem? hm))⟩, r.dead⟩
end
section
variable {X : Cx}
theorem RDk.get {M : Mm} {H : Hp} : ∀ {kvs : List (Key × V)} {es : List (D × D)} {i : Nat} {e : D × D}, RDk M H kvs es → es[i]? = some e → ∃ k v, kvs[i]? = some (k, v) ∧ e.1 = kP k ∧ RD M H v e.2
  | _, _, _, _, .nil, e => by simp at e
  | _, _, 0, _, .cons r t, e => by simp at e; subst e; exact ⟨_, _, rfl, rfl, r⟩
  | _, _, i + 1, _, .cons r t, e => by
    obtain ⟨k, v, h1, h2⟩ := RDk.get (i := i) t (by simpa using e)
    exact ⟨k, v, by simpa using h1, h2⟩
end
end DL
set_option maxRecDepth 100000
set_option maxHeartbeats 1000000
namespace DL
open PySem PySem.Spec PyProof.Rows L2
end DL
set_option maxRecDepth 100000
set_option maxHeartbeats 1000000
namespace DL
open PySem PySem.Spec PyProof.Rows L2
end DL
set_option maxRecDepth 100000
set_option maxHeartbeats 1000000
namespace DL
open PySem PySem.Spec PyProof.Rows L2
end DL
set_option maxRecDepth 100000
set_option maxHeartbeats 1000000
namespace DL
open PySem PySem.Spec PyProof.Rows L2
end DL
set_option maxRecDepth 100000
set_option maxHeartbeats 1000000
namespace DL
open PySem PySem.Spec PyProof.Rows L2
end DL
set_option maxRecDepth 100000
namespace DL
open PySem PySem.Spec PyProof.Rows L2
end DL
set_option maxRecDepth 100000
set_option maxHeartbeats 1000000
namespace DL
open PySem PySem.Spec PyProof.Rows L2
end DL
set_option maxRecDepth 100000
set_option maxHeartbeats 1000000
namespace DL
open PySem PySem.Spec PyProof.Rows L2
section
variable {X : Cx}
def okI : D → Bool
  | .int i => decide (i.natAbs.log2 < 1920)
  | .dict _ => false
  | _ => true
def reprA (ws : List W) (h : Hh) : Option (W × Hh) := match ws with
  | [w] => match deref h w with
    | some d => if (okI d && shp d && d.showable && decide (d.shown.length ≤ sizeLine)) = true then ok (.str d.shown) h else none
    | none => none
  | _ => none
def rReprA (K : PySem.W.Frag) : List V → Hp → VK → Prop := fun xs H Q => rRepr K xs H Q ∨ (xs = [.non] ∧ Q (.str "None") H) ∨ (∃ b : Bool, xs = [.bl b] ∧ Q (.str (if b then "True" else "False")) H) ∨ (∃ i : Int, xs = [.int i] ∧ i.natAbs.log2 < 1920 ∧ Q (.str (toString i)) H) ∨ ∃ z : Str, xs = [.str z] ∧ (PyData.shown (.str z)).length ≤ sizeLine ∧ Q (.str (PyData.shown (.str z))) H
theorem cr_reprA {k : Nat} (hr : RG k X.A) : CallR X (.builtin "repr") (rReprA X.K) := by
  intro pins s σ H xs us Q I r h
  rcases h with h | ⟨rfl, q⟩ | ⟨b, rfl, q⟩ | ⟨i, rfl, hz, q⟩ | ⟨z, rfl, hz, q⟩
  · exact cr_repr hr pins s σ H xs us Q I r h
  · obtain ⟨u, rfl, e⟩ := vals1 r
    cases e
    exact PySem.P.repr_of_none ⟨.str _, H, I.tok _, ⟨_, rfl⟩, q⟩
  · obtain ⟨u, rfl, e⟩ := vals1 r
    cases e
    exact PySem.P.repr_of_bool ⟨.str _, H, I.tok _, ⟨_, rfl⟩, q⟩
  · exact SkE.call_repr_int pins s σ H _ us Q I r ⟨i, rfl, hz, q⟩
  · obtain ⟨u, rfl, t, rfl⟩ := vals1 r
    exact PySem.P.repr_of_str ⟨.str _, H, I.tok _, ⟨_, rfl⟩, q⟩ hz
theorem s_reprA : SemA (rReprA X.K) reprA := by
  intro M H h vs ws Q rep rv c
  unfold reprA at c
  split at c
  · obtain ⟨v, rfl, r⟩ := rvs1 rv
    split at c
    · rename_i d e
      split at c
      · rename_i hz
        simp only [Bool.and_eq_true, decide_eq_true_eq] at hz
        obtain ⟨⟨⟨h1, h2⟩, h3⟩, h4⟩ := hz
        have rr := deref_rr rep r e
        have dp := rr_dp (K := X.K) rr (SeqAt.canLay_of_shaped h2)
        cases d with
        | list ds => obtain ⟨a, _, e, _⟩ := rr; subst e; exact .inl ⟨a, _, rfl, dp, h2, h3, h4, c.here rep (.str _)⟩
        | tuple ds => obtain ⟨a, _, e, _⟩ := rr_tup rr; subst e; exact .inl ⟨a, _, rfl, dp, h2, h3, h4, c.here rep (.str _)⟩
        | none =>
          cases (show RD M H v .none from rr)
          exact .inr (.inl ⟨rfl, c.here rep (.str _)⟩)
        | bool b =>
          cases (show RD M H v (.bool b) from rr)
          refine .inr (.inr (.inl ⟨b, rfl, ?_⟩))
          have := c.here rep (.str (PyData.bool b).shown)
          cases b <;> exact this
        | int i =>
          cases (show RD M H v (.int i) from rr)
          exact .inr (.inr (.inr (.inl ⟨i, rfl, by simpa [okI] using h1, c.here rep (.str _)⟩)))
        | str z =>
          cases (show RD M H v (.str z) from rr)
          exact .inr (.inr (.inr (.inr ⟨z, rfl, h4, c.here rep (.str _)⟩)))
        | _ => first | (simp [okI] at h1; done) | (cases (show RD M H v _ from rr))
      · exact c.no.elim
    · exact c.no.elim
  · exact c.no.elim
variable {e : Expr} {g : AM} {p pos : Pos}
theorem d_reprA {k : Nat} (hr : RG k X.A) (hm : X.mg "repr" = none) (ha : DA X [e] g) (hg : Gl X "repr" := by rfl) (he : starEach [e] X.env = (false, eval e X.env) :: starEach [] X.env := by rfl) (hpl : (backTo pos (starEach [] X.env)).any (·.1) = false := by rfl) : DE X (.Call (.Name "repr" p) [e] [] pos) (fA reprA g) :=
  d_callB (cr_reprA hr) s_reprA hm (by decide +kernel) ha hg (by decide) (by decide) he hpl
end
end DL
set_option maxRecDepth 100000
set_option maxHeartbeats 1000000
namespace DL
open PySem PySem.Spec PyProof.Rows L2
end DL
set_option maxRecDepth 100000
set_option maxHeartbeats 1000000
namespace DL
open PySem PySem.Spec PyProof.Rows L2
end DL
set_option maxRecDepth 100000
set_option maxHeartbeats 1000000
namespace DL
open PySem PySem.Spec PyProof.Rows L2
end DL
set_option maxRecDepth 100000
set_option maxHeartbeats 1000000
namespace DL
open PySem PySem.Spec PyProof.Rows L2
end DL
set_option maxRecDepth 100000
set_option maxHeartbeats 1000000
namespace DL
open PySem PySem.W PySem.Calls PyProof.Rows PyProof.V PySem.Spec
end DL
set_option maxRecDepth 100000
set_option maxHeartbeats 1000000
namespace DL
open PySem PySem.Spec PyProof.Rows L2
end DL
set_option maxRecDepth 100000
set_option maxHeartbeats 1000000
namespace DL
open PySem PySem.Spec PyProof.Rows L2
section
variable {M : Mm} {H : Hp}
theorem tupAt_inj {a : Addr} {xs ys : List V} {ds es : List D} (t : TupAt H a xs ds) (u : TupAt H a ys es) : xs = ys := by
  rcases t with ⟨_, e⟩ | ⟨_, o, _, e⟩ <;> rcases u with ⟨_, e'⟩ | ⟨_, o', _, e'⟩ <;> rw [e] at e' <;> cases e' <;> rfl
mutual
theorem RD.one : ∀ {v : V} {d e : D}, RD M H v d → RD M H v e → d = e
  | _, _, _, .non, r => by cases r; rfl
  | _, _, _, .bl b, r => by cases r; rfl
  | _, _, _, .int b, r => by cases r; rfl
  | _, _, _, .str b, r => by cases r; rfl
  | _, _, _, .tup _ t q, r => by
    cases r with
    | tup _ t' q' =>
      have := tupAt_inj t t'
      subst this
      rw [RDs.one q q']
    | lst _ h _ => rcases t with ⟨_, e⟩ | ⟨_, o, _, e⟩ <;> rw [e] at h <;> cases h
    | dic _ h _ => rcases t with ⟨_, e⟩ | ⟨_, o, _, e⟩ <;> rw [e] at h <;> cases h
    | dit _ h _ => rcases t with ⟨_, e⟩ | ⟨_, o, _, e⟩ <;> rw [e] at h <;> cases h
  | _, _, _, .lst _ h q, r => by
    cases r with
    | tup _ t' _ => rcases t' with ⟨_, e⟩ | ⟨_, o, _, e⟩ <;> rw [e] at h <;> cases h
    | lst _ h' q' => rw [h] at h'; cases h'; rw [RDs.one q q']
    | dic _ h' _ => rw [h] at h'; cases h'
    | dit _ h' _ => rw [h] at h'; cases h'
  | _, _, _, .dic _ h q, r => by
    cases r with
    | tup _ t' _ => rcases t' with ⟨_, e⟩ | ⟨_, o, _, e⟩ <;> rw [e] at h <;> cases h
    | lst _ h' _ => rw [h] at h'; cases h'
    | dic _ h' q' => rw [h] at h'; cases h'; rw [RDk.one q q']
    | dit _ h' _ => rw [h] at h'; cases h'
  | _, _, _, .dit _ h q, r => by
    cases r with
    | tup _ t' _ => rcases t' with ⟨_, e⟩ | ⟨_, o, _, e⟩ <;> rw [e] at h <;> cases h
    | lst _ h' _ => rw [h] at h'; cases h'
    | dic _ h' _ => rw [h] at h'; cases h'
    | dit _ h' q' => rw [h] at h'; cases h'; rw [RDt.one q q']
theorem RDs.one : ∀ {v : List V} {d e : List D}, RDs M H v d → RDs M H v e → d = e
  | _, _, _, .nil, r => by cases r; rfl
  | _, _, _, .cons a t, r => by
    cases r with
    | cons a' t' => rw [RD.one a a', RDs.one t t']
theorem RDk.one : ∀ {v : List (Key × V)} {d e : List (D × D)}, RDk M H v d → RDk M H v e → d = e
  | _, _, _, .nil, r => by cases r; rfl
  | _, _, _, .cons a t, r => by
    cases r with
    | cons a' t' => rw [RD.one a a', RDk.one t t']
theorem RDt.one : ∀ {v : List (List Key × V)} {d e : List (D × D)}, RDt M H v d → RDt M H v e → d = e
  | _, _, _, .nil, r => by cases r; rfl
  | _, _, _, .cons a t, r => by
    cases r with
    | cons a' t' => rw [RD.one a a', RDt.one t t']
end
end
end DL
set_option maxRecDepth 100000
set_option maxHeartbeats 1000000
namespace DL
open PySem PySem.Spec PyProof.Rows L2
end DL
set_option maxRecDepth 100000
set_option maxHeartbeats 1000000
namespace DL
open PySem PySem.Spec PyProof.Rows L2
end DL
set_option maxRecDepth 100000
set_option maxHeartbeats 1000000
namespace DL
open PySem PySem.Spec PyProof.Rows L2
end DL
set_option maxRecDepth 100000
set_option maxHeartbeats 1000000
namespace DL
open PySem PySem.Spec PyProof.Rows L2
end DL
set_option maxRecDepth 100000
set_option maxHeartbeats 1000000
namespace DL
open PySem PySem.Spec PyProof.Rows L2
end DL
set_option maxRecDepth 100000
set_option maxHeartbeats 400000
namespace DL
open PySem PySem.Spec PyProof.Rows L2
abbrev Xc := Nat × Addr × List (Str × D)
def XR (M : Mm) (H : Hp) (cls : Value) (d : Option Addr) (x : Xc) : Prop := ∃ gs, cls = .ref x.2.1 ∧ XD M H d gs ∧ RF M H gs x.2.2
theorem XR.mono {M M' : Mm} {H H' : Hp} {cls : Value} {d : Option Addr} {x : Xc} (e : Ext M M' H H') : XR M H cls d x → XR M' H' cls d x
  | ⟨gs, q, y, z⟩ => ⟨gs, q, y.to (fun _ _ q n => e.out n q) fun _ _ q _ n => e.st n q, z.to fun _ _ => RD.mono e⟩
abbrev RE := Env → Hh → Option (Xc × Hh)
abbrev RM := Env → Hh → Option ((Env × Xc) × Hh)
def RPost (W : WX) (M0 : Mm) (H0 : Hp) : Option ((Env × Xc) × Hh) → Prop
  | some ((ρ, x), h) => ∀ M H σ cls d, M.u = M0.u → Ext M0 M H0 H → Rep M H h → RS M H ρ σ → XR M H cls d x → W cls d σ H
  | none => False
theorem RPost.mono {W : WX} {M0 M1 : Mm} {H0 H1 : Hp} {r : Option ((Env × Xc) × Hh)} (p : RPost W M0 H0 r) (u : M1.u = M0.u) (x : Ext M0 M1 H0 H1) : RPost W M1 H1 r := by
  match r, p with
  | some ((ρ, y), h), p => exact fun M H σ cls d e z => p M H σ cls d (e.trans u) (x.trans z)
end DL
set_option maxRecDepth 100000
set_option maxHeartbeats 400000
namespace DL
open PySem PySem.Spec PyProof.Rows L2
abbrev FR := List W → Hh → Option (Xc × Hh)
theorem XR.sub {M M' : Mm} {H : Hp} {cls : Value} {d : Option Addr} {x : Xc} (s : ∀ b, M'.Has b → M.Has b) : XR M H cls d x → XR M' H cls d x
  | ⟨gs, q, y, z⟩ => ⟨gs, q, y.to (fun b _ _ n m => n (s b m)) (fun _ _ q _ _ => q), z.to fun _ _ => RD.sub s⟩
end DL
set_option maxRecDepth 100000
set_option maxHeartbeats 400000
namespace DL
open PySem PySem.Spec PyProof.Rows L2
theorem all_cons {α : Type} {P : α → Prop} {a : α} {l : List α} (h : P a) (t : ∀ x ∈ l, P x) : ∀ x ∈ a :: l, P x := fun x m => by
  rcases List.mem_cons.mp m with rfl | m
  · exact h
  · exact t x m
end DL
set_option maxRecDepth 100000
set_option maxHeartbeats 400000
namespace DL
open PySem PySem.Spec PyProof.Rows L2
section
variable {X : Cx} {a : Addr} {pn pins : List (Addr × Obj)} {σ : L2.St} {H : Hp} {s : Shared} {E : Value → Shared → Prop}
structure EC (K : PySem.W.Frag) (C : Addr) : Prop where
  hg : PySem.W.findIn K (.ref C) "__getattribute__" = some (some (.builtin "BaseException.__getattribute__"))
  hk : PySem.W.findIn K (.ref C) "__getattr__" = some none
  hs : PySem.W.subIn K (.ref C) (.type "BaseException") = some true
  hd : PySem.W.hasDictIn K C = true
  ha : PySem.W.findIn K (.ref C) "__class__" = some (some (.builtin "object.__class__"))
  hn : PySem.W.specialIn K (.builtin "object.__class__") "__get__" = some (some (.builtin "getset_descriptor.__get__"))
  ht : PySem.W.takesIn K (.builtin "object.__class__") = some true
  hm : PySem.W.mroIn K C (.type "object") = some true
theorem EC.cl {K : PySem.W.Frag} {C : Addr} (e : EC K C) : (PySem.W.clsIn K C).isSome = true := by
  obtain ⟨cd, hc, _⟩ := PySem.W.any_some e.hd
  rw [hc]; rfl
end
section
variable {X : Cx} {e : Expr} {f : EM} {p pt pos : Pos} {ks : List (Nat × Addr)} {ys : List Nat}
inductive ClsPA (X : Cx) : List Expr → List V → List Value → Prop
  | nil : ClsPA X [] [] []
  | cons {x : Str} {np : Pos} {C : Addr} {es : List Expr} {cs : List V} {us : List Value} : X.mg x = some (.ref C) → ClsPA X es cs us → (hg : Gl X x := by rfl) → (hd : (x == ("__debug__" : Str)) = false := by decide) →
      (hs : starEach (.Name x np :: es) X.env = (false, eval (.Name x np) X.env) :: starEach es X.env := by rfl) → ClsPA X (.Name x np :: es) (.ref C :: cs) (.ref C :: us)
  | consB {x : Str} {np : Pos} {T : String} {es : List Expr} {cs : List V} {us : List Value} : X.mg x = none → bootBuiltins x = some (.type T) → ClsPA X es cs us → (hg : Gl X x := by rfl) → (hn : x ≠ "__name__" := by decide) → (hd : (x == ("__debug__" : Str)) = false := by decide) →
      (hs : starEach (.Name x np :: es) X.env = (false, eval (.Name x np) X.env) :: starEach es X.env := by rfl) → ClsPA X (.Name x np :: es) (.ty T :: cs) (.type T :: us)
theorem ClsPA.cv : ∀ {es : List Expr} {cs : List V} {us : List Value}, ClsPA X es cs us → Paired ClsV cs us
  | _, _, _, .nil => .nil
  | _, _, _, .cons _ t _ _ _ => .cons (.own _) t.cv
  | _, _, _, .consB _ _ t _ _ _ _ => .cons (.ty _) t.cv
end
end DL
set_option maxRecDepth 100000
set_option maxHeartbeats 400000
namespace DL
open PySem PySem.Spec PyProof.Rows L2
end DL
set_option maxRecDepth 100000
set_option maxHeartbeats 4000000
namespace DL
open PySem PySem.Spec PyProof.Rows L2
end DL
set_option maxRecDepth 100000
set_option maxHeartbeats 4000000
namespace DL
open PySem PySem.Spec PyProof.Rows L2
end DL
set_option maxRecDepth 100000
set_option maxHeartbeats 4000000
namespace DL
open PySem PySem.Spec PyProof.Rows L2
end DL
set_option maxRecDepth 100000
set_option maxHeartbeats 4000000
namespace DL
open PySem PySem.Spec PyProof.Rows L2
end DL
set_option maxRecDepth 100000
set_option maxHeartbeats 400000
namespace DL
open PySem PySem.Spec PyProof.Rows L2
section
variable {X : Cx}
def tupRW (ws : List W) (h : Hh) : Option (W × Hh) := match ws with
  | [w] => match deref h w with
    | some (.list ds) => some (.row ds, h)
    | _ => none
  | _ => none
theorem s_tupR : SemA (rTupB X.K) tupRW := by
  intro M H h vs ws Q rep rv c
  unfold tupRW at c
  split at c
  · obtain ⟨v, rfl, r⟩ := rvs1 rv
    split at c
    · rename_i ds e
      obtain ⟨a, xs, rfl, ha, q⟩ := deref_rr rep r e
      exact ⟨a, xs, rfl, .inl ⟨.of ha, true, fun l o nl ho => c.fin (ext_new nl) (rep.upd_new nl) ⟨l, o, xs, rfl, rep.new nl, ho, upd_same, q.mono (ext_new nl).ext⟩⟩⟩
    · exact c.no.elim
  · exact c.no.elim
theorem d_tupR {e : Expr} {p pos : Pos} {g : AM} (hm : X.mg "tuple" = none) (ha : DA X [e] g) (hg : Gl X "tuple" := by rfl) (he : starEach [e] X.env = (false, eval e X.env) :: starEach [] X.env := by rfl) (hpl : (backTo pos (starEach [] X.env)).any (·.1) = false := by rfl) : DE X (.Call (.Name "tuple" p) [e] [] pos) (fA tupRW g) :=
  d_callT call_tupB s_tupR hm bt_tuple ha hg (by decide) (by decide) he hpl
def fAsT (f : EM) : EM := fun ρ h => obnd (f ρ h) fun w h1 => match w with
  | .row ds => some (.dat (.tuple ds), h1)
  | w => some (w, h1)
theorem d_asT {e : Expr} {f : EM} (he : DE X e f) : DE X e (fAsT f) := he.weak fun σ H Q => by
  rintro ⟨M, h, ρ, r, rs, c⟩
  obtain ⟨w, h1, e1, c1⟩ := Cont.bind (δ := Unit) c
  refine ⟨M, h, ρ, r, rs, w, h1, e1, fun M1 H1 v x1 r1 v1 => ?_⟩
  have c2 := c1 M1 H1 x1
  cases w with
  | row ds =>
    obtain ⟨a, o, xs, rfl, na, od, oa, q⟩ := v1
    exact c2.here r1 (RD.tup na (.inr ⟨trivial, o, od, oa⟩) q)
  | dat d => exact (show Cont RV (some (W.dat d, h1)) M1 H1 Q from c2).fin (ExtE.refl M1 H1) r1 v1
  | ref n => exact (show Cont RV (some (W.ref n, h1)) M1 H1 Q from c2).fin (ExtE.refl M1 H1) r1 v1
  | scr ns => exact (show Cont RV (some (W.scr ns, h1)) M1 H1 Q from c2).fin (ExtE.refl M1 H1) r1 v1
  | pack its => exact (show Cont RV (some (W.pack its, h1)) M1 H1 Q from c2).fin (ExtE.refl M1 H1) r1 v1
  | lock es => exact (show Cont RV (some (W.lock es, h1)) M1 H1 Q from c2).fin (ExtE.refl M1 H1) r1 v1
  | ins C fs => exact (show Cont RV (some (W.ins C fs, h1)) M1 H1 Q from c2).fin (ExtE.refl M1 H1) r1 v1
  | exc k C fs => exact (show Cont RV (some (W.exc k C fs, h1)) M1 H1 Q from c2).fin (ExtE.refl M1 H1) r1 v1
def isRow (w : W) (h : Hh) : Bool := match w with
  | .row _ => true
  | _ => false
def indexR (w : W) (ws : List W) (h : Hh) : Option (W × Hh) := match w, ws with
  | .row ds, [.dat (.str z)] => match rowS ds with
    | some l => if z ∈ l then ok (.int (l.idxOf z)) h else none
    | none => none
  | _, _ => none
theorem d_indexR {o e : Expr} {apos cpos : Pos} {f : EM} {g : AM} (ho : DE X o f) (ha : DA X [e] g) (hb : attributeBase o "index" X.env (eval o X.env) = eval o X.env := by rfl)
    (hf : ((backTo cpos (starEach [e] X.env)).all (fun x => !x.1) && (backToKw cpos (keywordEach [] X.env)).all (fun x => x.1.isSome) && decide (([e] : List Expr).length + ([] : List Keyword).length + (if ([] : List Keyword).isEmpty then 0 else 1) < 30)) = true := by rfl)
    (hl : (apos.endLine == cpos.line) = true := by rfl) (hs : starEach [e] X.env = [(false, eval e X.env)] := by rfl) : DE X (.Call (.Attribute o "index" apos) [e] [] cpos) (fM isRow indexR f g) :=
  (pe_bt (r := rIxT X.K) PySem.F.slot_tuple_index PySem.F.type_tuple_index mt_tup_index ho ha hb hf hl hs).weak fun σ H Q => by
    rintro ⟨M, h, ρ, r, rs, c⟩
    obtain ⟨w, h1, e1, c1⟩ := Cont.bind (δ := Unit) c
    refine ⟨M, h, ρ, r, rs, w, h1, e1, fun M1 H1 v x1 r1 v1 => ?_⟩
    have c2 := c1 M1 H1 x1
    split at c2
    · rename_i ht
      cases w with
      | row ds =>
        obtain ⟨a, ob, xs, rfl, na, z1, z2, qa⟩ := v1
        refine ⟨⟨a, ob, xs, rfl, z1, z2⟩, M1, h1, ρ, r1, rs.mono x1, ?_⟩
        obtain ⟨w2, h2, e2, c3⟩ := Cont.bind (δ := Unit) c2
        refine ⟨w2, h2, e2, fun M2 H2 v2 x2 r2 q2 => ?_⟩
        have c4 := c3 M2 H2 x2
        have hb' : H2 a = some (.frz ob (.tup xs)) := x2.ext.st na z2
        have qb := RDs.mono x2.ext qa
        unfold indexR at c4
        split at c4
        · rename_i ds' z hq
          cases hq
          obtain ⟨y, rfl, ry⟩ := rvs1 q2
          split at c4
          · rename_i l hl'
            split at c4
            · rename_i hm
              have := rowS_map hl'
              subst this
              have := rds_strs qb
              subst this
              obtain ⟨f1, f2⟩ := first_at hm
              cases (show RD M2 H2 y (.str z) from ry)
              exact ⟨a, l, z, _, rfl, rfl, .inl (.inr ⟨ob, hb'⟩), f1, f2, c4.here r2 (.int _)⟩
            · exact c4.no.elim
          · exact c4.no.elim
        · exact c4.no.elim
      | _ => cases ht
    · exact c2.no.elim
end
end DL
set_option maxRecDepth 100000
set_option maxHeartbeats 1000000
namespace DL
open PySem PySem.Spec PyProof.Rows L2
section
variable {X : Cx} {p pos : Pos} {e : Expr} {g : AM}
def strIW (ws : List W) (h : Hh) : Option (W × Hh) := match ws with
  | [.dat (.int i)] => if i.natAbs.log2 < 1920 then ok (.str (toString i)) h else none
  | _ => none
theorem s_strI : SemA (fun xs H Q => ∃ i, xs = [.int i] ∧ i.natAbs.log2 < 1920 ∧ Q (.str (toString i)) H) strIW := by
  intro M H h vs ws Q rep rv c
  unfold strIW at c
  split at c
  · obtain ⟨v, rfl, r⟩ := rvs1 rv
    cases (show RD M H _ _ from r)
    split at c
    · rename_i hz
      exact ⟨_, rfl, hz, c.here rep (.str _)⟩
    · exact c.no.elim
  · exact c.no.elim
theorem d_strI (hm : X.mg "str" = none) (ha : DA X [e] g) (hg : Gl X "str" := by rfl) (he : starEach [e] X.env = (false, eval e X.env) :: starEach [] X.env := by rfl) (hpl : (backTo pos (starEach [] X.env)).any (·.1) = false := by rfl) : DE X (.Call (.Name "str" p) [e] [] pos) (fA strIW g) :=
  d_callT call_str_int s_strI hm bt_str ha hg (by decide) (by decide) he hpl
def fUp (f : EM) : EM := fun ρ h => obnd (f ρ h) fun w h1 => match w with
  | .dat (.str z) => if z.length ≤ 5592405 then ok (.str (Txt.upper z)) h1 else none
  | _ => none
theorem d_upper {o : Expr} {apos pos : Pos} {f : EM} (ho : DE X o f) (hbase : attributeBase o "upper" X.env (eval o X.env) = eval o X.env := by rfl) (hline : (apos.endLine == pos.line) = true := by rfl) :
    DE X (.Call (.Attribute o "upper" apos) [] [] pos) (fUp f) := (pe_upper ho hbase hline).weak fun σ H Q => by
  rintro ⟨M, h, ρ, r, rs, c⟩
  obtain ⟨w, h1, e1, c1⟩ := Cont.bind (δ := Unit) c
  refine ⟨M, h, ρ, r, rs, w, h1, e1, fun M1 H1 v x1 r1 v1 => ?_⟩
  have c2 := c1 M1 H1 x1
  split at c2
  · rename_i z
    cases (show RD M1 H1 v _ from v1)
    split at c2
    · rename_i hz
      exact ⟨⟨_, rfl⟩, _, rfl, rfl, hz, c2.fin (.refl _ _) r1 (show RV M1 H1 (.str _) (.dat (.str _)) from .str _)⟩
    · exact c2.no.elim
  · exact c2.no.elim
end
end DL
set_option maxRecDepth 100000
set_option maxHeartbeats 400000
namespace DL
open PySem PySem.Spec PyProof.Rows L2
end DL
set_option maxRecDepth 100000
namespace DL
open PySem L2
noncomputable def m_places_of : FM := fnM false 1 3 (sRet (fDc false (enumA (fCons (fVar 0) (fNil))) (gT 2 (gC (gN 1) (gC (gN 2) (gE)))) (bYes) (fVar 2) (fVar 1) [1, 2]))
noncomputable def m_look_alike : FM := fnM false 2 2 (sIf (fB (f2 (eqW true) (fA (sortW false) (fCons (fVar 0) (fNil))) (fA (sortW false) (fCons (fVar 1) (fNil))))) (sNever) (sSkip))
noncomputable def m_place_of : FM := fnM false 2 3 (sSeq (sAsg (fA (m_places_of) (fCons (fVar 0) (fNil))) (gN 2))
    (sSeq (sIf (fB (f2 (inW true) (fVar 1) (fVar 2))) (sNever) (sSkip))
    (sRet (f2 idxW (fVar 2) (fVar 1)))))
noncomputable def m_is_ahead : FM := fnM false 3 4 (sSeq (sAsg (fA (m_place_of) (fCons (fVar 0) (fCons (fVar 1) (fNil)))) (gN 3))
    (sRet (f2 lt_W (fVar 3) (fA (m_place_of) (fCons (fVar 0) (fCons (fVar 2) (fNil)))))))
noncomputable def m__law_box : FM := fnM true 2 3 (sSeq (sAsg (fC (.int 0)) (gN 2))
    (sSeq (sIf (fB (f2 lt_W (fVar 1) (fA lenW (fCons (fVar 0) (fNil))))) (sAsg (f2 idxW (fVar 0) (fVar 1)) (gN 2)) (sSkip))
    (sRet (fA (lstW true) (fCons (f2 (mulW false) (fA absW (fCons (fVar 2) (fNil))) (fA intC (fCons (f2 ge_W (fA absW (fCons (fVar 2) (fNil))) (f2 powW (fC (.int 10)) (fC (.int 18)))) (fNil)))) (fCons (f2 (addW false) (f2 (addW false) (f2 modW (fVar 2) (fC (.int 2147483629))) (f2 (mulW false) (fC (.int 7919)) (fVar 1))) (fC (.int 11))) (fCons (fC (.int 0)) (fNil))))))))
noncomputable def m__law_take : FM := fnM false 2 4 (sSeq (sIf (fB (f2 gt_W (f2 idxW (fVar 0) (fC (.int 0))) (fC (.int 0)))) (sSeq (sAsg (f2 modW (f2 idxW (fVar 0) (fC (.int 0))) (fVar 1)) (gN 3))
    (sSeq (sSub (f2 divW (f2 idxW (fVar 0) (fC (.int 0))) (fVar 1)) (fVar 0) (fC (.int 0)))
    (sRet (fVar 3)))) (sSkip))
    (sSeq (sSub (f2 (addW false) (f2 idxW (fVar 0) (fC (.int 2))) (fC (.int 1))) (fVar 0) (fC (.int 2)))
    (sSeq (sAsg (f2 modW (f2 powW (f2 (addW false) (f2 idxW (fVar 0) (fC (.int 1))) (f2 (mulW false) (fC (.int 39373)) (f2 idxW (fVar 0) (fC (.int 2))))) (fC (.int 5))) (fC (.int 2147483647))) (gN 2))
    (sRet (f2 modW (f2 divW (f2 modW (f2 (addW false) (f2 (mulW false) (fVar 2) (f2 (addW false) (f2 modW (fVar 2) (fC (.int 40009))) (fC (.int 7)))) (f2 (mulW false) (f2 idxW (fVar 0) (fC (.int 2))) (fC (.int 7919)))) (fC (.int 2147483629))) (fC (.int 64))) (fVar 1))))))
noncomputable def m__law_strewn : FM := fnM false 2 4 (sSeq (sAsg (fA (lstW true) (fNil)) (gN 2))
    (sSeq (sFor (seqI (fVar 1)) (gN 3)
    (sExpr (fM isL insertW (fVar 2) (fCons (fA (m__law_take) (fCons (fVar 0) (fCons (f2 (addW false) (fA lenW (fCons (fVar 2) (fNil))) (fC (.int 1))) (fNil)))) (fCons (fVar 3) (fNil))))))
    (sRet (fVar 2))))
noncomputable def m__law_crew : FM := fnM false 2 9 (sSeq (sPar (fCons (f2 (addW false) (fC (.int 1)) (fA (m__law_take) (fCons (fVar 0) (fCons (fVar 1) (fNil))))) (fCons (fC (.str "abcdefghijklmnopqrstuvwxyz")) (fCons (fA (lstW true) (fNil)) (fNil)))) [3, 4, 5])
    (sSeq (sPar (fCons (fA (m__law_take) (fCons (fVar 0) (fCons (fC (.int 26)) (fNil)))) (fCons (f2 idxW (fA (lstW false) (fCons (fC (.int 1)) (fCons (fC (.int 3)) (fCons (fC (.int 25)) (fNil))))) (fA (m__law_take) (fCons (fVar 0) (fCons (fC (.int 3)) (fNil))))) (fNil))) [6, 7])
    (sSeq (sFor (rng1I (fCons (fVar 3) (fNil))) (gN 2)
    (sSeq (sAsg (f2 idxW (fVar 4) (f2 modW (f2 (addW false) (fVar 6) (f2 (mulW false) (fVar 7) (f2 divW (fVar 2) (fC (.int 2))))) (fC (.int 26)))) (gN 8))
    (sExpr (fM isL appendW (fVar 5) (fCons (f2 (addW false) (fVar 8) (f2 idxW (fA (lstW false) (fCons (fC (.str "")) (fCons (fC (.str "a")) (fCons (fC (.str "zz")) (fNil))))) (f2 (mulW false) (f2 modW (fVar 2) (fC (.int 2))) (f2 (addW false) (fC (.int 1)) (f2 modW (fVar 6) (fC (.int 2))))))) (fNil))))))
    (sFrz 5 (sRet (fA (m__law_strewn) (fCons (fVar 0) (fCons (fVar 5) (fNil)))))))))
end DL
namespace DL
open PySem L2
noncomputable def m_by_names : FM := fnM false 1 3 (sRet (fDc false (seqI (fVar 0)) (gT 2 (gC (gN 1) (gC (gN 2) (gE)))) (bYes) (fVar 1) (fVar 2) [1, 2]))
noncomputable def m_people : FM := fnM false 1 3 (sRet (fA tupleW (fCons (fLc false (seqI (fVar 0)) (gT 2 (gC (gN 1) (gC (gN 2) (gE)))) (bYes) (fVar 1) [1, 2]) (fNil))))
noncomputable def m__law_lists : Nat → FM
  | 0 => fun _ _ => none
  | n + 1 => fnM false 1 2 (sRet (fIf (fB (f1 (isiW ["list", "tuple"]) (fVar 0))) (fLc false (seqI (fVar 0)) (gN 1) (bYes) (fA (m__law_lists n) (fCons (fVar 1) (fNil))) [1]) (fVar 0)))
noncomputable def m__law_of : FM := fnM false 2 2 (sRet (f2 idxW (fVar 1) (fA (m__law_take) (fCons (fVar 0) (fCons (fA lenW (fCons (fVar 1) (fNil))) (fNil))))))
noncomputable def m__law_ask : FM := fnM false 2 12 (sSeq (sPar (fCons (fA (sortW false) (fCons (fVar 1) (fNil))) (fCons (fA (m__law_take) (fCons (fVar 0) (fCons (fC (.int 6)) (fNil)))) (fNil))) [3, 4])
    (sSeq (sPar (fCons (fSl false (fA (m__law_strewn) (fCons (fVar 0) (fCons (fVar 3) (fNil)))) (oNone) (oSome (f2 (addW false) (fC (.int 1)) (fA (m__law_take) (fCons (fVar 0) (fCons (fC (.int 3)) (fNil))))))) (fCons (fA (m__law_strewn) (fCons (fVar 0) (fCons (fVar 3) (fNil)))) (fNil))) [5, 6])
    (sSeq (sAsg (fA (lstW true) (fNil)) (gN 2))
    (sSeq (sFor (enumA (fCons (fVar 3) (fNil))) (gT 2 (gC (gN 7) (gC (gN 8) (gE))))
    (sSeq (sPar (fCons (fA (m__law_of) (fCons (fVar 0) (fCons (fVar 3) (fNil)))) (fCons (fA (m__law_of) (fCons (fVar 0) (fCons (fVar 5) (fNil)))) (fNil))) [10, 11])
    (sSeq (sAsg (fIf (fB (f2 (eqW false) (fA (m__law_take) (fCons (fVar 0) (fCons (fC (.int 4)) (fNil)))) (fC (.int 0)))) (fVar 10) (fVar 8)) (gN 9))
    (sExpr (fM isL appendW (fVar 2) (fCons (fA tupW (fCons (fVar 8) (fCons (f2 idxW (fA (lstW false) (fCons (fVar 10) (fCons (fVar 10) (fCons (fVar 11) (fCons (fVar 9) (fCons (f2 idxW (fVar 6) (fVar 7)) (fCons (fVar 11) (fNil)))))))) (fVar 4)) (fNil)))) (fNil)))))))
    (sFrz 2 (sRet (fA tupleW (fCons (fVar 2) (fNil)))))))))
end DL
namespace DL
open PySem L2
noncomputable def m_gone : FM := fnM false 2 4 (sSeq (sPar (fCons (f2 idxW (fVar 0) (f2 idxW (fVar 1) (fC (.int 0)))) (fCons (f2 idxW (fVar 0) (f2 idxW (fVar 1) (fC (.int 1)))) (fNil))) [2, 3])
    (sRet (fIf (fB (f2 (eqW false) (fVar 2) (fVar 3))) (fVar 1) (fA tupW (fCons (fVar 2) (fCons (fVar 3) (fNil)))))))
noncomputable def m_same_pairs : FM := fnM false 2 3 (sRet (fAnd (fA allW (fCons (fLc false (seqI (fVar 0)) (gN 2) (bYes) (f1 (isiW ["tuple"]) (fVar 2)) [2]) (fNil))) (f2 (eqW false) (fVar 0) (fVar 1))))
noncomputable def m_ways_back : FM := fnM false 1 2 (sRet (fLc false (revI (fVar 0)) (gN 1) (bYes) (fA (m_by_names) (fCons (fVar 1) (fNil))) [1]))
noncomputable def m_walked : FM := fnM false 2 4 (sSeq (sAsg (fA (lstW true) (fCons (fVar 1) (fNil))) (gN 2))
    (sSeq (sFor (seqI (fVar 0)) (gN 3)
    (sExpr (fM isL appendW (fVar 2) (fCons (fA (m_gone) (fCons (fVar 3) (fCons (f2 idxW (fVar 2) (fNeg (fC (.int 1)))) (fNil)))) (fNil)))))
    (sRet (fVar 2))))
noncomputable def m__law_two : FM := fnM false 2 3 (sSeq (sAsg (fA (m__law_take) (fCons (fVar 0) (fCons (fA lenW (fCons (fVar 1) (fNil))) (fNil)))) (gN 2))
    (sRet (fA tupW (fCons (f2 idxW (fVar 1) (fVar 2)) (fCons (f2 idxW (fVar 1) (f2 modW (f2 (addW false) (f2 (addW false) (fVar 2) (fC (.int 1))) (fA (m__law_take) (fCons (fVar 0) (fCons (f2 subW (fA lenW (fCons (fVar 1) (fNil))) (fC (.int 1))) (fNil))))) (fA lenW (fCons (fVar 1) (fNil))))) (fNil))))))
noncomputable def m_walks : FM := fnM false 3 3 (sRet (fA (m_walked) (fCons (fA (m_ways_back) (fCons (fVar 0) (fNil))) (fCons (fA tupW (fCons (fVar 1) (fCons (fVar 2) (fNil)))) (fNil)))))
noncomputable def m_shows_ahead : FM := fnM false 5 7 (sSeq (sFor (seqI (fVar 1)) (gN 5)
    (sExpr (fA (m_look_alike) (fCons (fVar 0) (fCons (fA (m_people) (fCons (fVar 5) (fNil))) (fNil))))))
    (sSeq (sAsg (fA (m_walks) (fCons (fVar 1) (fCons (fVar 2) (fCons (fVar 3) (fNil))))) (gN 6))
    (sRet (fAnd (f1 (isiW ["list"]) (fVar 4)) (fAnd (fA (m_same_pairs) (fCons (fVar 4) (fCons (fVar 6) (fNil)))) (fA (m_is_ahead) (fCons (fVar 0) (fCons (f2 idxW (f2 idxW (fVar 6) (fNeg (fC (.int 1)))) (fC (.int 0))) (fCons (f2 idxW (f2 idxW (fVar 6) (fNeg (fC (.int 1)))) (fC (.int 1))) (fNil))))))))))
noncomputable def m__law_asks : FM := fnM false 3 4 (sRet (fLc false (rng1I (fCons (fA (m__law_take) (fCons (fVar 0) (fCons (f2 (addW false) (fVar 2) (fC (.int 1))) (fNil)))) (fNil))) (gN 3) (bYes) (fA (m__law_ask) (fCons (fVar 0) (fCons (fVar 1) (fNil)))) [3]))
end DL
namespace DL
open PySem L2
end DL
namespace DL
open PySem L2
end DL
namespace DL
open PySem L2
end DL
namespace DL
open PySem L2
end DL
set_option maxRecDepth 100000
namespace DL
open PySem L2
end DL
set_option maxRecDepth 100000
namespace DL
open PySem L2
end DL
set_option maxRecDepth 100000
namespace DL
open PySem L2
end DL
set_option maxRecDepth 100000
namespace DL
open PySem L2
end DL
set_option maxRecDepth 100000
namespace DL
open PySem L2
end DL
namespace DL
open PySem L2
end DL
namespace DL
open PySem L2
end DL
namespace DL
open PySem L2
end DL
namespace DL
open PySem L2
end DL
namespace DL
open PySem L2
end DL
set_option maxRecDepth 100000
set_option maxHeartbeats 400000
namespace DL
open PySem L2
@[reducible] def Dm {α : Sort u} (_ : α) : Type := Unit
def ob {α β : Type} (k : α → Hh → Option (β × Hh)) (u : Dm k) (r : Option (α × Hh)) : Option (β × Hh) := obnd r k
theorem obnd_x {α β : Type} (r : Option (α × Hh)) (k : α → Hh → Option (β × Hh)) : obnd r k = ob k () r := rfl
theorem ob_some {α β : Type} (k : α → Hh → Option (β × Hh)) (u : Dm k) (a : α) (h : Hh) : ob k u (some (a, h)) = k a h := rfl
def sb {α : Type} (k : α → Hh → Option (Out × Hh)) (u : Dm k) (r : Option (α × Hh)) : Option (Out × Hh) := sbnd r k
theorem sbnd_x {α : Type} (r : Option (α × Hh)) (k : α → Hh → Option (Out × Hh)) : sbnd r k = sb k () r := rfl
theorem sb_some {α : Type} (k : α → Hh → Option (Out × Hh)) (u : Dm k) (a : α) (h : Hh) : sb k u (some (a, h)) = k a h := rfl
def seqK (g : SM) (u : Dm g) (r : Option (Out × Hh)) : Option (Out × Hh) := match r with
  | some (.nx ρ1, h1) => g ρ1 h1
  | r => r
theorem sSeq_e (f g : SM) (ρ : Env) (h : Hh) : sSeq f g ρ h = seqK g () (f ρ h) := rfl
theorem seqK_nx (g : SM) (u : Dm g) (ρ : Env) (h : Hh) : seqK g u (some (.nx ρ, h)) = g ρ h := rfl
theorem seqK_rt (g : SM) (u : Dm g) (w : W) (h : Hh) : seqK g u (some (.rt w, h)) = some (.rt w, h) := rfl
theorem seqK_bk (g : SM) (u : Dm g) (ρ : Env) (h : Hh) : seqK g u (some (.bk ρ, h)) = some (.bk ρ, h) := rfl
theorem seqK_ct (g : SM) (u : Dm g) (ρ : Env) (h : Hh) : seqK g u (some (.ct ρ, h)) = some (.ct ρ, h) := rfl
def frK (g : SM) (u : Dm g) (r : Option (Env × Hh)) : Option (Out × Hh) := match r with
  | some (ρ, h) => g ρ h
  | none => none
theorem sFrz_e (i : Nat) (f : SM) (ρ : Env) (h : Hh) : sFrz i f ρ h = frK f () (frz i ρ h) := rfl
theorem frK_some (g : SM) (u : Dm g) (ρ : Env) (h : Hh) : frK g u (some (ρ, h)) = g ρ h := rfl
theorem isR_ref (n m : Nat) : isR n (some (.ref m)) = decide (m = n) := rfl
theorem isR_dat (n : Nat) (d : D) : isR n (some (.dat d)) = false := rfl
theorem isR_none (n : Nat) : isR n none = false := rfl
def retK (rm : Bool) (h : Hh) (r : Option (Out × Hh)) : Option (W × Hh) := match r with
    | some (.rt w, h') => leave rm h w h'
    | some (.nx _, h') => leave rm h (.dat .none) h'
    | _ => none
theorem retK_rt (rm : Bool) (h : Hh) (w : W) (h' : Hh) : retK rm h (some (.rt w, h')) = leave rm h w h' := rfl
theorem retK_nx (rm : Bool) (h : Hh) (ρ : Env) (h' : Hh) : retK rm h (some (.nx ρ, h')) = leave rm h (.dat .none) h' := rfl
def iteK {α : Type} (x y : α) (u : Dm (x, y)) (b : Bool) : α := if b = true then x else y
theorem ite_x {α : Type} (b : Bool) (x y : α) : (if b = true then x else y) = iteK x y () b := rfl
theorem iteK_t {α : Type} (x y : α) (u : Dm (x, y)) : iteK x y u true = x := rfl
theorem iteK_f {α : Type} (x y : α) (u : Dm (x, y)) : iteK x y u false = y := rfl
theorem subW_e (x y : W) (h : Hh) : subW x y h = intW (fun _ _ => true) (fun i j => i - j) x y h := rfl
theorem modW_e (x y : W) (h : Hh) : modW x y h = intW (fun _ j => decide (0 < j)) (fun i j => i % j) x y h := rfl
theorem divW_e (x y : W) (h : Hh) : divW x y h = intW (fun _ j => decide (0 < j ∧ j < 1073741824)) (fun i j => i / j) x y h := rfl
theorem powW_e (x y : W) (h : Hh) : powW x y h = intW (fun i j => decide (0 ≤ j ∧ j ≤ 1000000 ∧ i.natAbs < 18446744073709551616)) (fun i j => i ^ j.toNat) x y h := rfl
theorem lt_e (x y : W) (h : Hh) : lt_W x y h = ltW (fun i j => decide (i < j)) (fun i j => decide (i < j)) x y h := rfl
theorem gt_e (x y : W) (h : Hh) : gt_W x y h = ltW (fun i j => decide (j < i)) (fun i j => decide (j < i)) x y h := rfl
theorem le_e (x y : W) (h : Hh) : le_W x y h = ltW (fun i j => decide (i ≤ j)) (fun i j => !decide (j < i)) x y h := rfl
theorem ge_e (x y : W) (h : Hh) : ge_W x y h = ltW (fun i j => decide (j ≤ i)) (fun i j => !decide (i < j)) x y h := rfl
theorem allW_e (ws : List W) (h : Hh) : allW ws h = lW bools (fun bs => .bool (bs.all id)) ws h := rfl
theorem anyW_e (ws : List W) (h : Hh) : anyW ws h = lW bools (fun bs => .bool (bs.any id)) ws h := rfl
theorem sumW_e (ws : List W) (h : Hh) : sumW ws h = lW intsD (fun bs => .int bs.sum) ws h := rfl
theorem fnM_e (rm : Bool) (np nl : Nat) (body : SM) (ws : List W) (h : Hh) (e : ws.length = np) : fnM rm np nl body ws h = retK rm h (body (ws.map some ++ List.replicate (nl - np) none) h) := by
  unfold fnM
  rw [if_pos e]
  rfl
theorem iLT_none : (["list", "tuple"].any fun t => isT1 t (.none : D)) = false := by rfl
theorem iLT_bool (b : Bool) : (["list", "tuple"].any fun t => isT1 t (.bool b : D)) = false := by rfl
theorem iLT_int (i : Int) : (["list", "tuple"].any fun t => isT1 t (.int i : D)) = false := by rfl
theorem iLT_str (s : Str) : (["list", "tuple"].any fun t => isT1 t (.str s : D)) = false := by rfl
theorem iLT_list (ds : List D) : (["list", "tuple"].any fun t => isT1 t (.list ds : D)) = true := by rfl
theorem iLT_tup (ds : List D) : (["list", "tuple"].any fun t => isT1 t (.tuple ds : D)) = true := by rfl
theorem iL_none : (["list"].any fun t => isT1 t (.none : D)) = false := by rfl
theorem iL_bool (b : Bool) : (["list"].any fun t => isT1 t (.bool b : D)) = false := by rfl
theorem iL_int (i : Int) : (["list"].any fun t => isT1 t (.int i : D)) = false := by rfl
theorem iL_str (s : Str) : (["list"].any fun t => isT1 t (.str s : D)) = false := by rfl
theorem iL_list (ds : List D) : (["list"].any fun t => isT1 t (.list ds : D)) = true := by rfl
theorem iL_tup (ds : List D) : (["list"].any fun t => isT1 t (.tuple ds : D)) = false := by rfl
theorem iT_none : (["tuple"].any fun t => isT1 t (.none : D)) = false := by rfl
theorem iT_bool (b : Bool) : (["tuple"].any fun t => isT1 t (.bool b : D)) = false := by rfl
theorem iT_int (i : Int) : (["tuple"].any fun t => isT1 t (.int i : D)) = false := by rfl
theorem iT_str (s : Str) : (["tuple"].any fun t => isT1 t (.str s : D)) = false := by rfl
theorem iT_list (ds : List D) : (["tuple"].any fun t => isT1 t (.list ds : D)) = false := by rfl
theorem iT_tup (ds : List D) : (["tuple"].any fun t => isT1 t (.tuple ds : D)) = true := by rfl
theorem iS_none : (["str"].any fun t => isT1 t (.none : D)) = false := by rfl
theorem iS_bool (b : Bool) : (["str"].any fun t => isT1 t (.bool b : D)) = false := by rfl
theorem iS_int (i : Int) : (["str"].any fun t => isT1 t (.int i : D)) = false := by rfl
theorem iS_str (s : Str) : (["str"].any fun t => isT1 t (.str s : D)) = true := by rfl
theorem iS_list (ds : List D) : (["str"].any fun t => isT1 t (.list ds : D)) = false := by rfl
theorem iS_tup (ds : List D) : (["str"].any fun t => isT1 t (.tuple ds : D)) = false := by rfl
theorem iI_none : (["int"].any fun t => isT1 t (.none : D)) = false := by rfl
theorem iI_bool (b : Bool) : (["int"].any fun t => isT1 t (.bool b : D)) = true := by rfl
theorem iI_int (i : Int) : (["int"].any fun t => isT1 t (.int i : D)) = true := by rfl
theorem iI_str (s : Str) : (["int"].any fun t => isT1 t (.str s : D)) = false := by rfl
theorem iI_list (ds : List D) : (["int"].any fun t => isT1 t (.list ds : D)) = false := by rfl
theorem iI_tup (ds : List D) : (["int"].any fun t => isT1 t (.tuple ds : D)) = false := by rfl
theorem iB_none : (["bool"].any fun t => isT1 t (.none : D)) = false := by rfl
theorem iB_bool (b : Bool) : (["bool"].any fun t => isT1 t (.bool b : D)) = true := by rfl
theorem iB_int (i : Int) : (["bool"].any fun t => isT1 t (.int i : D)) = false := by rfl
theorem iB_str (s : Str) : (["bool"].any fun t => isT1 t (.str s : D)) = false := by rfl
theorem iB_list (ds : List D) : (["bool"].any fun t => isT1 t (.list ds : D)) = false := by rfl
theorem iB_tup (ds : List D) : (["bool"].any fun t => isT1 t (.tuple ds : D)) = false := by rfl
theorem lcL_map {k : TM} {t : BM} {f : EM} {ρ : Env} {h : Hh} (p : D → Bool) (g : D → D) : ∀ {ds : List D}, (∀ d ∈ ds, ∃ ρ1, k (.dat d) ρ h = some ρ1 ∧ t ρ1 h = some (p d, h) ∧ (p d = true → f ρ1 h = some (.dat (g d), h))) → lcL k t f ρ ds h = some ((ds.filter p).map g, h)
  | [], _ => rfl
  | d :: ds, H => by
    obtain ⟨ρ1, e1, e2, e3⟩ := H d List.mem_cons_self
    have ih := lcL_map (k := k) (t := t) (f := f) (ρ := ρ) (h := h) p g (ds := ds) fun e he => H e (List.mem_cons_of_mem _ he)
    unfold lcL
    simp only [e1, e2, obnd]
    cases hp : p d with
    | true =>
      simp only [if_true]
      rw [e3 hp]
      simp only [ih, List.filter_cons, hp, if_true, List.map_cons]
    | false => simp only [Bool.false_eq_true, if_false, ih, List.filter_cons, hp]
theorem lcL_all {k : TM} {t : BM} {f : EM} {ρ : Env} {h : Hh} (g : D → D) {ds : List D} (H : ∀ d ∈ ds, ∃ ρ1, k (.dat d) ρ h = some ρ1 ∧ t ρ1 h = some (true, h) ∧ f ρ1 h = some (.dat (g d), h)) : lcL k t f ρ ds h = some (ds.map g, h) := by
  have := lcL_map (k := k) (t := t) (f := f) (ρ := ρ) (h := h) (fun _ => true) g (ds := ds) fun d hd => by
    obtain ⟨ρ1, a, b, c⟩ := H d hd
    exact ⟨ρ1, a, b, fun _ => c⟩
  rwa [List.filter_eq_self.mpr (fun _ _ => rfl)] at this
theorem lcL_inv {k : TM} {f : EM} {ρ : Env} (I : Nat → Hh → Prop) (R : Nat → D → Prop) : ∀ {ds : List D} {n : Nat} {h : Hh}, I n h → (∀ (j : Nat) (d : D), ds[j]? = some d → ∀ h, I (n + j) h → ∃ ρ1 d' h', k (.dat d) ρ h = some ρ1 ∧ f ρ1 h = some (.dat d', h') ∧ R (n + j) d' ∧ I (n + j + 1) h') →
    ∃ rs h', lcL k bYes f ρ ds h = some (rs, h') ∧ rs.length = ds.length ∧ (∀ (j : Nat) (r : D), rs[j]? = some r → R (n + j) r) ∧ I (n + ds.length) h'
  | [], n, h, i, _ => ⟨[], h, rfl, rfl, (fun j r hr => by simp at hr), i⟩
  | d :: ds, n, h, i, H => by
    obtain ⟨ρ1, d', h1, e1, e2, r, i1⟩ := H 0 d rfl h i
    obtain ⟨rs, h2, e3, hl, hr, i2⟩ := lcL_inv (k := k) (f := f) (ρ := ρ) I R (ds := ds) (n := n + 1) i1 fun j e he h q => by
      have := H (j + 1) e (by simpa using he) h (by rw [← show n + 1 + j = n + (j + 1) by omega]; exact q)
      rw [show n + 1 + j = n + (j + 1) by omega]
      exact this
    refine ⟨d' :: rs, h2, ?_, by simp [hl], ?_, ?_⟩
    · unfold lcL
      simp only [e1, bYes, obnd, if_true, e2]
      rw [e3]
    · intro j x hx
      cases j with
      | zero => simp at hx; subst hx; exact r
      | succ j =>
        have := hr j x (by simpa using hx)
        rw [show n + 1 + j = n + (j + 1) by omega] at this
        exact this
    · rw [List.length_cons, show n + (ds.length + 1) = n + 1 + ds.length by omega]; exact i2
theorem forL_inv {k : TM} {body : SM} (I : Nat → Env → Hh → Prop) : ∀ {ds : List D} {n : Nat} {ρ : Env} {h : Hh}, I n ρ h → (∀ (j : Nat) (d : D), ds[j]? = some d → ∀ ρ h, I (n + j) ρ h → ∃ ρ1 ρ2 h2, k (.dat d) ρ h = some ρ1 ∧ body ρ1 h = some (.nx ρ2, h2) ∧ I (n + j + 1) ρ2 h2) →
    ∃ ρ' h', forL k body ds ρ h = some (.nx ρ', h') ∧ I (n + ds.length) ρ' h'
  | [], n, ρ, h, i, _ => ⟨ρ, h, rfl, i⟩
  | d :: ds, n, ρ, h, i, H => by
    obtain ⟨ρ1, ρ2, h2, e1, e2, i2⟩ := H 0 d rfl ρ h i
    obtain ⟨ρ', h', e3, i3⟩ := forL_inv (k := k) (body := body) I (ds := ds) (n := n + 1) i2 fun j e he ρ h q => by
      obtain ⟨a, b, c, x, y, z⟩ := H (j + 1) e (by simpa using he) ρ h (by rw [← show n + 1 + j = n + (j + 1) by omega]; exact q)
      exact ⟨a, b, c, x, y, by rw [show n + 1 + j + 1 = n + (j + 1) + 1 by omega]; exact z⟩
    refine ⟨ρ', h', ?_, by rw [List.length_cons, show n + (ds.length + 1) = n + 1 + ds.length by omega]; exact i3⟩
    unfold forL
    simp only [e1, e2, e3]
theorem getK_cons (e : D × D) (es : List (D × D)) (k : Key) : getK (e :: es) k = if dKey e.1 = some k then some e.2 else getK es k := by
  unfold getK
  rw [List.find?_cons]
  by_cases h : dKey e.1 = some k
  · simp [h]
  · simp [h]
def sdic (l : List (Str × D)) : List (D × D) := l.map fun p => (.str p.1, p.2)
theorem dKey_str (s : Str) : dKey (.str s) = some (.inr s) := rfl
theorem getK_sdic (s : Str) : ∀ l : List (Str × D), getK (sdic l) (.inr s) = l.lookup s
  | [] => rfl
  | (t, d) :: l => by
    show getK ((.str t, d) :: sdic l) (.inr s) = _
    rw [getK_cons, getK_sdic s l, List.lookup_cons, dKey_str]
    by_cases h : t = s
    · subst h; simp
    · have h1 : ¬ (some (Sum.inr t : Key) = some (Sum.inr s)) := fun z => h (by cases z; rfl)
      have h2 : (s == t) = false := by simpa using fun z => h z.symm
      rw [if_neg h1, h2]
theorem isT_sdic : ∀ l : List (Str × D), isT (sdic l) = false
  | [] => rfl
  | (t, d) :: l => rfl
theorem getD_sdic (l : List (Str × D)) (s : Str) : getD (sdic l) (.str s) = some (l.lookup s) := by
  unfold getD
  rw [isT_sdic, if_neg (by simp), dKey_str]
  simp [getK_sdic]
theorem sdic_snoc (l : List (Str × D)) (s : Str) (d : D) : sdic (l ++ [(s, d)]) = sdic l ++ [(.str s, d)] := by simp [sdic]
theorem putK_sdic {l : List (Str × D)} {s : Str} (d : D) (h : l.lookup s = none) : putK' (sdic l) (.inr s) d = sdic (l ++ [(s, d)]) := by
  unfold putK'
  rw [getK_sdic, h, sdic_snoc]
  rfl
theorem lookup_none {l : List (Str × D)} {s : Str} (h : s ∉ l.map (·.1)) : l.lookup s = none := by
  induction l with
  | nil => rfl
  | cons p l ih =>
    obtain ⟨t, d⟩ := p
    simp only [List.map_cons, List.mem_cons, not_or] at h
    rw [List.lookup_cons, show (s == t) = false by simpa using h.1]
    exact ih h.2
theorem merge_sdic : ∀ (ps : List (Str × D)) (l : List (Str × D)), ((l ++ ps).map (·.1)).Nodup → mergeD (sdic l) (ps.map fun p => (Sum.inr p.1, p.2)) = sdic (l ++ ps)
  | [], l, _ => by simp [mergeD]
  | (s, d) :: ps, l, h => by
    have hn : s ∉ l.map (·.1) := by
      rw [List.map_append, List.nodup_append] at h
      intro z
      exact h.2.2 _ z _ (by simp) rfl
    have e : mergeD (sdic l) (((s, d) :: ps).map fun p => (Sum.inr p.1, p.2)) = mergeD (putK' (sdic l) (.inr s) d) (ps.map fun p => (Sum.inr p.1, p.2)) := rfl
    rw [e, putK_sdic d (lookup_none hn), merge_sdic ps (l ++ [(s, d)]) (by simpa using h)]
    simp
def prs (ps : List (Str × D)) : List D := ps.map fun p => .tuple [.str p.1, p.2]
theorem pairsK_prs : ∀ ps : List (Str × D), pairsK (prs ps) = some (ps.map fun p => (Sum.inr p.1, p.2))
  | [] => rfl
  | (s, d) :: ps => by
    show (match dKey (.str s), pairsK (prs ps) with | some k, some r => some ((k, d) :: r) | _, _ => none) = _
    rw [pairsK_prs ps]
    rfl
theorem dcL_sdic {k : TM} {fk fv : EM} {ρ : Env} {h : Hh} (g : D → Str × D) : ∀ {ds : List D} {l : List (Str × D)}, ((l ++ ds.map g).map (·.1)).Nodup → (l ++ ds.map g).length ≤ sizeLine →
    (∀ d ∈ ds, ∃ ρ1, k (.dat d) ρ h = some ρ1 ∧ fk ρ1 h = some (.dat (.str (g d).1), h) ∧ fv ρ1 h = some (.dat (g d).2, h)) → dcL k bYes fk fv ρ ds (sdic l) h = some (sdic (l ++ ds.map g), h)
  | [], l, _, _, _ => by simp [dcL]
  | d :: ds, l, hn, hl, H => by
    obtain ⟨ρ1, e1, e2, e3⟩ := H d List.mem_cons_self
    have hn' : (g d).1 ∉ l.map (·.1) := by
      rw [List.map_append, List.nodup_append] at hn
      intro z
      exact hn.2.2 _ z _ (by simp) rfl
    unfold dcL
    simp only [e1, bYes, obnd, if_true, e2, e3, dKey_str]
    have hlen : (sdic l).length < sizeLine := by
      simp only [sdic, List.length_map]
      simp only [List.length_append, List.length_map, List.length_cons] at hl
      omega
    rw [if_pos hlen, putK_sdic _ (lookup_none hn')]
    have ih := dcL_sdic (k := k) (fk := fk) (fv := fv) (ρ := ρ) (h := h) g (ds := ds) (l := l ++ [((g d).1, (g d).2)]) (by simpa using hn) (by simpa using hl) fun e he => H e (List.mem_cons_of_mem _ he)
    rw [ih]
    simp
end DL
set_option maxRecDepth 100000
set_option maxHeartbeats 400000
namespace DL
open PySem L2
local macro_rules | `(tactic| walk_at "dl") => `(tactic| simp (config := { dsimp := false }) only [↓fnM_e, ↓sSeq_e, seqK_nx, seqK_rt, seqK_bk, seqK_ct, retK_rt, retK_nx, ↓sFrz_e, frK_some, ↓sAsg, ↓sRet, ↓sRetN, ↓sIf, ↓sExpr, ↓sSkip, ↓sNever, ↓sPar, ↓sFor, ↓sSub, ↓fVar, ↓fC, ↓fNil, ↓fCons, ↓fA, ↓f1, ↓f2, ↓fB, ↓fIf, ↓fNeg, ↓fNot, ↓fAnd, ↓fOr, ↓bNot, ↓bAnd, ↓bOr, ↓bYes, ↓obnd_x, ob_some, ↓sbnd_x, sb_some, ↓ite_x, iteK_t, iteK_f, gN, gT, gC, gE, ↓rng1I, ↓rng2I, ↓seqI, ↓enumA, ↓zipI, ↓strI, ↓fLc, ↓fDc, ↓fM, ↓fSl, ↓oNone, ↓oSome, ↓fRev, wipeE, ↓kwM, permM, permL, List.foldr, List.length_cons, List.length_nil, List.map_cons, List.map_nil, List.cons_append, List.nil_append, List.replicate, List.replicate_succ, List.replicate_zero, List.getElem?_cons_zero, List.getElem?_cons_succ, List.set_cons_zero, List.set_cons_succ, if_true, if_false, reduceIte, Nat.reduceAdd, Nat.reduceSub, Nat.reduceEqDiff, Nat.reduceLT, Nat.reduceLeDiff, Int.reduceLT, Int.reduceLE, Int.reduceNeg, Int.reduceMul, Int.reduceAdd, Int.reduceSub, Int.reduceToNat, Int.reducePow, Int.reduceEq, ok, bok, deref, mkL, lstW, tupW, dats, Option.map_some, appendW, insertW, setL, isL, listW, tupleW, lenW, absW, intC, maxW, minW, idxW, addW, subW_e, modW_e, divW_e, powW_e, mulW, intW, lt_e, gt_e, le_e, ge_e, ltW, allW_e, anyW_e, sumW_e, lW, setW, lstAt, cutW, backW, isW, isiW, iLT_none, iLT_bool, iLT_int, iLT_str, iLT_list, iLT_tup, iL_none, iL_bool, iL_int, iL_str, iL_list, iL_tup, iT_none, iT_bool, iT_int, iT_str, iT_list, iT_tup, iS_none, iS_bool, iS_int, iS_str, iS_list, iS_tup, iI_none, iI_bool, iI_int, iI_str, iI_list, iI_tup, iB_none, iB_bool, iB_int, iB_str, iB_list, iB_tup, Bool.false_eq_true, reduceCtorEq, Bool.not_true, Bool.not_false, decide_true, decide_false, List.zip_cons_cons, List.zip_nil_left, List.foldl_cons, List.foldl_nil, and_self, and_true, true_and, Bool.and_true, Bool.true_and, Bool.or_true, Bool.true_or, *])
def BoxAt (h : Hh) (b c : Nat) : Prop := ∃ d s k : Int, h[b]? = some (some (.lst [.int d, .int s, .int k])) ∧ 0 ≤ d ∧ 0 ≤ s ∧ s < 1099511627776 ∧ 0 ≤ k ∧ k ≤ c
structure Only (b : Nat) (h h' : Hh) : Prop where
  len : h'.length = h.length
  off : ∀ i : Nat, i ≠ b → h'[i]? = h[i]?
theorem Only.refl (b : Nat) (h : Hh) : Only b h h := ⟨rfl, fun _ _ => rfl⟩
theorem Only.trans {b : Nat} {h h1 h2 : Hh} (x : Only b h h1) (y : Only b h1 h2) : Only b h h2 := ⟨y.len.trans x.len, fun i n => (y.off i n).trans (x.off i n)⟩
theorem only_set (b : Nat) (h : Hh) (o : Option MO) : Only b h (h.set b o) := ⟨by simp, fun i n => by rw [List.getElem?_set_ne (fun z => n z.symm)]⟩
theorem BoxAt.mono {h : Hh} {b c c' : Nat} (x : BoxAt h b c) (hc : c ≤ c') : BoxAt h b c' := by
  obtain ⟨d, s, k, e, h1, h2, h3, h4, h5⟩ := x
  exact ⟨d, s, k, e, h1, h2, h3, h4, by omega⟩
theorem BoxAt.lt {h : Hh} {b c : Nat} (x : BoxAt h b c) : b < h.length := by
  obtain ⟨d, s, k, e, _⟩ := x
  exact (List.getElem?_eq_some_iff.mp e).1
theorem live_only {b c c' : Nat} {h h' : Hh} (x : BoxAt h b c) (y : BoxAt h' b c') (o : Only b h h') : live h' = live h := by
  apply List.ext_getElem?
  intro i
  unfold live
  rw [List.getElem?_map, List.getElem?_map]
  by_cases hi : i = b
  · subst hi
    obtain ⟨_, _, _, e1, _⟩ := x
    obtain ⟨_, _, _, e2, _⟩ := y
    rw [e1, e2]
    rfl
  · rw [o.off i hi]
theorem leave_dat {h h' : Hh} {d : D} (e : live (h'.take h.length) = live h) : leave false h (.dat d) h' = some (.dat d, h'.take h.length) := by
  unfold leave
  rw [if_pos e]
theorem leave_dat' {b c c' : Nat} {h h' : Hh} {d : D} (x : BoxAt h b c) (y : BoxAt h' b c') (o : Only b h h') : leave false h (.dat d) h' = some (.dat d, h') := by
  have e : h'.take h.length = h' := List.take_of_length_le (by rw [o.len]; exact Nat.le_refl _)
  rw [leave_dat (by rw [e]; exact live_only x y o), e]
theorem leave_same' {h : Hh} {d : D} : leave false h (.dat d) h = some (.dat d, h) := by
  have e : h.take h.length = h := List.take_of_length_le (Nat.le_refl _)
  rw [leave_dat (by rw [e]), e]
theorem atI3 (x y z : D) : L2.atI [x, y, z] 0 = some x ∧ L2.atI [x, y, z] 1 = some y ∧ L2.atI [x, y, z] 2 = some z := ⟨rfl, rfl, rfl⟩
theorem ix3 : ixN 3 0 = some 0 ∧ ixN 3 1 = some 1 ∧ ixN 3 2 = some 2 := ⟨rfl, rfl, rfl⟩
theorem take_ok {h : Hh} {b c : Nat} {n : Int} (hb : BoxAt h b c) (hc : c < 1099511627776) (h0 : 0 < n) (h1 : n < 1073741824) :
    ∃ r h', m__law_take [.ref b, .dat (.int n)] h = some (.dat (.int r), h') ∧ 0 ≤ r ∧ r < n ∧ BoxAt h' b (c + 1) ∧ Only b h h' := by
  obtain ⟨d, s, k, e, hd, hs, hs2, hk, hk2⟩ := id hb
  have lb := hb.lt
  have a0 := fun x y z : D => (atI3 x y z).1
  have a1 := fun x y z : D => (atI3 x y z).2.1
  have a2 := fun x y z : D => (atI3 x y z).2.2
  have i0 := ix3.1
  have i2 := ix3.2.2
  by_cases hp : 0 < d
  · have y : BoxAt (h.set b (some (.lst [.int (d / n), .int s, .int k]))) b c := ⟨d / n, s, k, by rw [List.getElem?_set_self lb], Int.ediv_nonneg hd (by omega), hs, hs2, hk, hk2⟩
    refine ⟨d % n, h.set b (some (.lst [.int (d / n), .int s, .int k])), ?_, Int.emod_nonneg _ (by omega), Int.emod_lt_of_pos _ h0, y.mono (by omega), only_set _ _ _⟩
    unfold m__law_take
    walk_at "dl"
    exact leave_dat' hb y (only_set _ _ _)
  · have y : BoxAt (h.set b (some (.lst [.int d, .int s, .int (k + 1)]))) b (c + 1) := ⟨d, s, k + 1, by rw [List.getElem?_set_self lb], hd, hs, hs2, by omega, by omega⟩
    have hp' : decide (0 < d) = false := by simpa using hp
    have g1 : (h.set b (some (.lst [.int d, .int s, .int (k + 1)])))[b]? = some (some (.lst [.int d, .int s, .int (k + 1)])) := by rw [List.getElem?_set_self lb]
    have hw : (s + 39373 * (k + 1)).natAbs < 18446744073709551616 := by omega
    have o1 : -18446744073709551616 < (s + 39373 * (k + 1)) ^ 5 % 2147483647 := by omega
    have o2 : (s + 39373 * (k + 1)) ^ 5 % 2147483647 < 18446744073709551616 := by omega
    have k1 : -18446744073709551616 < k + 1 := by omega
    have k2 : k + 1 < 18446744073709551616 := by omega
    refine ⟨((s + 39373 * (k + 1)) ^ 5 % 2147483647 * ((s + 39373 * (k + 1)) ^ 5 % 2147483647 % 40009 + 7) + (k + 1) * 7919) % 2147483629 / 64 % n, h.set b (some (.lst [.int d, .int s, .int (k + 1)])), ?_, Int.emod_nonneg _ (by omega), Int.emod_lt_of_pos _ h0, y, only_set _ _ _⟩
    unfold m__law_take
    walk_at "dl"
    exact leave_dat' hb y (only_set _ _ _)
theorem insert_perm {α : Type} (l : List α) (x : α) (i : Nat) : (l.take i ++ [x] ++ l.drop i).Perm (x :: l) := by
  have h1 : (l.take i ++ [x] ++ l.drop i).Perm ([x] ++ l.take i ++ l.drop i) := List.Perm.append_right _ List.perm_append_comm
  refine h1.trans ?_
  rw [List.append_assoc, List.take_append_drop]
  exact List.Perm.refl _
theorem only_app {b : Nat} {h h' : Hh} {o : Option MO} (hb : b < h.length) (x : Only b (h ++ [o]) h') : Only b h (h'.take h.length) ∧ ∃ g : Hh, h' = g ++ [o] ∧ g.length = h.length := by
  have hl : h'.length = h.length + 1 := by rw [x.len]; simp
  have e : h'[h.length]? = some o := by rw [x.off _ (by omega)]; simp
  have e2 : h' = h'.take h.length ++ [o] := by
    apply List.ext_getElem?
    intro i
    by_cases hi : i < h.length
    · rw [List.getElem?_append_left (by simp; omega), List.getElem?_take_of_lt hi]
    · by_cases hi2 : i = h.length
      · subst hi2
        rw [e, List.getElem?_append_right (by simp; omega)]
        simp [hl]
      · rw [List.getElem?_eq_none (by omega), List.getElem?_eq_none (by simp; omega)]
  refine ⟨⟨by simp [hl], fun i n => ?_⟩, h'.take h.length, e2, by simp [hl]⟩
  by_cases hi : i < h.length
  · rw [List.getElem?_take_of_lt hi, x.off i n, List.getElem?_append_left hi]
  · rw [List.getElem?_eq_none (by simp; omega), List.getElem?_eq_none (by omega)]
theorem box_app {h : Hh} {b c : Nat} {l : Hh} (x : BoxAt h b c) : BoxAt (h ++ l) b c := by
  have lb := x.lt
  obtain ⟨d, s, k, e, r⟩ := x
  exact ⟨d, s, k, by rw [List.getElem?_append_left lb]; exact e, r⟩
theorem box_take {h : Hh} {b c n : Nat} (x : BoxAt h b c) (hb : b < n) : BoxAt (h.take n) b c := by
  obtain ⟨d, s, k, e, r⟩ := x
  exact ⟨d, s, k, by rw [List.getElem?_take_of_lt hb]; exact e, r⟩
theorem take_snoc {α : Type} {l : List α} {n : Nat} {x : α} (e : l[n]? = some x) : l.take (n + 1) = l.take n ++ [x] := by
  rw [List.take_add_one, e]; rfl
theorem strewn_ok {h : Hh} {b c : Nat} {x : D} {ds : List D} (hx : x = .list ds ∨ x = .tuple ds) (hb : BoxAt h b c) (hc : c + ds.length < 1000000000) (hl : ds.length < 1000000) :
    ∃ rs h', m__law_strewn [.ref b, .dat x] h = some (.dat (.list rs), h') ∧ rs.Perm ds ∧ BoxAt h' b (c + ds.length) ∧ Only b h h' := by
  have hz : sizeLine = 16777216 := by rfl
  have key := forL_inv (k := gN 3) (body := sExpr (fM isL insertW (fVar 2) (fCons (fA (m__law_take) (fCons (fVar 0) (fCons (f2 (addW false) (fA lenW (fCons (fVar 2) (fNil))) (fC (.int 1))) (fNil)))) (fCons (fVar 3) (fNil)))))
    (fun n ρ g => ∃ (v : Option W) (rs : List D) (g' : Hh), ρ = [some (.ref b), some (.dat x), some (.ref h.length), v] ∧ g = g' ++ [some (.lst rs)] ∧ g'.length = h.length ∧ rs.Perm (ds.take n) ∧ BoxAt g' b (c + n) ∧ Only b h g') (ds := ds) (n := 0)
    (ρ := [some (.ref b), some (.dat x), some (.ref h.length), none]) (h := h ++ [some (.lst [])])
    ⟨none, [], h, rfl, rfl, rfl, by simp, hb, .refl _ _⟩ (by
      intro j d ej ρ g hi
      obtain ⟨v, rs, g', rfl, rfl, gl, pm, bx, on⟩ := hi
      rw [Nat.zero_add] at pm bx ⊢
      have hj : j < ds.length := (List.getElem?_eq_some_iff.mp ej).1
      have rl : rs.length = j := by rw [pm.length_eq, List.length_take]; omega
      have bg := bx.lt
      obtain ⟨r, g2, e2, r0, r1, bx2, on2⟩ := take_ok (n := (rs.length : Int) + 1) (box_app (l := [some (.lst rs)]) bx) (by omega) (by omega) (by omega)
      obtain ⟨on3, g3, rfl, g3l⟩ := only_app bg on2
      have hg : (g3 ++ [some (MO.lst rs)])[h.length]? = some (some (.lst rs)) := by rw [List.getElem?_append_right (by omega), g3l, gl]; simp
      have hg0 : (g' ++ [some (MO.lst rs)])[h.length]? = some (some (.lst rs)) := by rw [List.getElem?_append_right (by omega), gl]; simp
      have hs : (g3 ++ [some (MO.lst rs)]).set h.length (some (.lst (rs.take r.toNat ++ [d] ++ rs.drop r.toNat))) = g3 ++ [some (.lst (rs.take r.toNat ++ [d] ++ rs.drop r.toNat))] := by
        rw [List.set_append_right _ _ (by omega), show h.length - g3.length = 0 by omega]; rfl
      have c1 : rs.length < sizeLine := by omega
      have c2 : r < 1000000 := by omega
      refine ⟨[some (.ref b), some (.dat x), some (.ref h.length), some (.dat d)], [some (.ref b), some (.dat x), some (.ref h.length), some (.dat d)], g3 ++ [some (.lst (rs.take r.toNat ++ [d] ++ rs.drop r.toNat))], rfl, ?_, _, _, g3, rfl, rfl, by omega, ?_, ?_, ?_⟩
      · clear rl hz
        walk_at "dl"
      · rw [take_snoc ej]
        exact (insert_perm rs d _).trans ((List.Perm.cons d pm).trans (List.perm_append_singleton d _).symm)
      · have := box_take bx2 (n := g3.length) (by omega)
        rw [List.take_append_of_le_length (Nat.le_refl _), List.take_length] at this
        exact this
      · have e : (g3 ++ [some (MO.lst rs)]).take g'.length = g3 := by rw [← g3l, List.take_append_of_le_length (Nat.le_refl _), List.take_length]
        rw [e] at on3
        exact on.trans on3)
  obtain ⟨ρ', h', e, v, rs, g', rfl, rfl, gl, pm, bx, on⟩ := key
  rw [Nat.zero_add, List.take_length] at pm
  rw [Nat.zero_add] at bx
  refine ⟨rs, g', ?_, pm, bx, on⟩
  have hg : (g' ++ [some (MO.lst rs)])[h.length]? = some (some (.lst rs)) := by rw [List.getElem?_append_right (by omega), gl]; simp
  have et : (g' ++ [some (MO.lst rs)]).take h.length = g' := by rw [← gl, List.take_append_of_le_length (Nat.le_refl _), List.take_length]
  have hlv := live_only hb bx on
  have nl : ¬ h.length < h.length := by omega
  unfold m__law_strewn
  rcases hx with rfl | rfl
  · walk_at "dl"
    unfold leave
    walk_at "dl"
  · walk_at "dl"
    unfold leave
    walk_at "dl"
end DL
set_option maxRecDepth 100000
set_option maxHeartbeats 400000
namespace DL
open PySem L2
local macro_rules | `(tactic| walk_at "dl") => `(tactic| simp (config := { dsimp := false }) only [↓fnM_e, ↓sSeq_e, seqK_nx, seqK_rt, seqK_bk, seqK_ct, retK_rt, retK_nx, ↓sFrz_e, frK_some, ↓sAsg, ↓sRet, ↓sRetN, ↓sIf, ↓sExpr, ↓sSkip, ↓sNever, ↓sPar, ↓sFor, ↓sSub, ↓fVar, ↓fC, ↓fNil, ↓fCons, ↓fA, ↓f1, ↓f2, ↓fB, ↓fIf, ↓fNeg, ↓fNot, ↓fAnd, ↓fOr, ↓bNot, ↓bAnd, ↓bOr, ↓bYes, ↓obnd_x, ob_some, ↓sbnd_x, sb_some, ↓ite_x, iteK_t, iteK_f, gN, gT, gC, gE, ↓rng1I, ↓rng2I, ↓seqI, ↓enumA, ↓zipI, ↓strI, ↓fLc, ↓fDc, ↓fM, ↓fSl, ↓oNone, ↓oSome, ↓fRev, wipeE, ↓kwM, permM, permL, List.foldr, List.length_cons, List.length_nil, List.map_cons, List.map_nil, List.cons_append, List.nil_append, List.replicate, List.replicate_succ, List.replicate_zero, List.getElem?_cons_zero, List.getElem?_cons_succ, List.set_cons_zero, List.set_cons_succ, if_true, if_false, reduceIte, Nat.reduceAdd, Nat.reduceSub, Nat.reduceEqDiff, Nat.reduceLT, Nat.reduceLeDiff, Int.reduceLT, Int.reduceLE, Int.reduceNeg, Int.reduceMul, Int.reduceAdd, Int.reduceSub, Int.reduceToNat, Int.reducePow, Int.reduceEq, ok, bok, deref, mkL, lstW, tupW, dats, Option.map_some, appendW, insertW, setL, isL, listW, tupleW, lenW, absW, intC, maxW, minW, idxW, addW, subW_e, modW_e, divW_e, powW_e, mulW, intW, lt_e, gt_e, le_e, ge_e, ltW, allW_e, anyW_e, sumW_e, lW, setW, lstAt, cutW, backW, isW, isiW, iLT_none, iLT_bool, iLT_int, iLT_str, iLT_list, iLT_tup, iL_none, iL_bool, iL_int, iL_str, iL_list, iL_tup, iT_none, iT_bool, iT_int, iT_str, iT_list, iT_tup, iS_none, iS_bool, iS_int, iS_str, iS_list, iS_tup, iI_none, iI_bool, iI_int, iI_str, iI_list, iI_tup, iB_none, iB_bool, iB_int, iB_str, iB_list, iB_tup, Bool.false_eq_true, reduceCtorEq, Bool.not_true, Bool.not_false, decide_true, decide_false, List.zip_cons_cons, List.zip_nil_left, List.foldl_cons, List.foldl_nil, and_self, and_true, true_and, Bool.and_true, Bool.true_and, Bool.or_true, Bool.true_or, *])
theorem str_ext {a b : Str} (h : a.cps.toList = b.cps.toList) : a = b := by
  obtain ⟨⟨x⟩⟩ := a
  obtain ⟨⟨y⟩⟩ := b
  simp at h
  rw [h]
theorem cps_app (a b : Str) : (a ++ b).cps.toList = a.cps.toList ++ b.cps.toList := by
  show (a.cps ++ b.cps).toList = _
  simp
theorem len_app (a b : Str) : (a ++ b).length = a.length + b.length := by
  show (a.cps ++ b.cps).size = _
  simp [Str.length]
def lt1 (i : Nat) : Str := ⟨#[97 + i]⟩
def sfx : Nat → Str
  | 0 => ""
  | 1 => "a"
  | _ => "zz"
def nm (st sp at_ : Nat) : Str := lt1 ((st + sp * (at_ / 2)) % 26) ++ sfx (at_ % 2 * (1 + st % 2))
theorem sfx_len : (sfx 0).cps.toList = [] ∧ (sfx 1).cps.toList = [97] ∧ (sfx 2).cps.toList = [122, 122] := by decide +kernel
def Steps (sp : Nat) : Prop := sp = 1 ∨ sp = 3 ∨ sp = 25
theorem nm_cps (st sp a : Nat) : (nm st sp a).cps.toList = (97 + (st + sp * (a / 2)) % 26) :: (sfx (a % 2 * (1 + st % 2))).cps.toList := by
  unfold nm
  rw [cps_app]
  rfl
theorem nm_inj {st sp a b : Nat} (hs : Steps sp) (ha : a < 52) (hb : b < 52) (e : nm st sp a = nm st sp b) : a = b := by
  have e' := congrArg (fun s : Str => s.cps.toList) e
  simp only [nm_cps, List.cons.injEq] at e'
  obtain ⟨e1, e2⟩ := e'
  have e3 : a / 2 = b / 2 := by
    rcases hs with rfl | rfl | rfl <;> omega
  have e4 : a % 2 = b % 2 := by
    rcases Nat.mod_two_eq_zero_or_one a with h1 | h1 <;> rcases Nat.mod_two_eq_zero_or_one b with h2 | h2
    · rw [h1, h2]
    · exfalso
      rw [h1, h2, Nat.zero_mul, Nat.one_mul, sfx_len.1] at e2
      rcases Nat.mod_two_eq_zero_or_one st with h3 | h3
      · rw [h3, sfx_len.2.1] at e2; cases e2
      · rw [h3, sfx_len.2.2] at e2; cases e2
    · exfalso
      rw [h1, h2, Nat.zero_mul, Nat.one_mul, sfx_len.1] at e2
      rcases Nat.mod_two_eq_zero_or_one st with h3 | h3
      · rw [h3, sfx_len.2.1] at e2; cases e2
      · rw [h3, sfx_len.2.2] at e2; cases e2
    · rw [h1, h2]
  omega
structure Crew (most : Nat) (rs : List Str) : Prop where
  nd : rs.Nodup
  pos : 0 < rs.length
  le : rs.length ≤ most
  nam : ∀ s ∈ rs, ∃ st sp a, st < 26 ∧ Steps sp ∧ s = nm st sp a
theorem crew_of {most size st sp : Nat} {rs : List Str} (hm : most ≤ 52) (h0 : 0 < size) (h1 : size ≤ most) (hst : st < 26) (hs : Steps sp) (p : rs.Perm ((List.range size).map (nm st sp))) : Crew most rs := by
  refine ⟨?_, by rw [p.length_eq]; simpa using h0, by rw [p.length_eq]; simpa using h1, fun s hs' => ?_⟩
  · rw [p.nodup_iff]
    rw [List.Nodup, List.pairwise_map]
    refine List.Pairwise.imp_of_mem ?_ List.nodup_range
    intro a b ha hb hab e
    exact hab (nm_inj hs (by have := List.mem_range.mp ha; omega) (by have := List.mem_range.mp hb; omega) e)
  · obtain ⟨a, _, rfl⟩ := List.mem_map.mp (p.mem_iff.mp hs')
    exact ⟨st, sp, a, hst, hs, rfl⟩
def unS : D → Str
  | .str s => s
  | _ => ""
theorem perm_strs {rs : List D} {l : List Str} (p : rs.Perm (l.map .str)) : ∃ rs' : List Str, rs = rs'.map .str ∧ rs'.Perm l := by
  refine ⟨rs.map unS, ?_, ?_⟩
  · rw [List.map_map]
    have : ∀ d ∈ rs, (PyData.str ∘ unS) d = d := fun d hd => by
      obtain ⟨s, _, rfl⟩ := List.mem_map.mp (p.mem_iff.mp hd)
      rfl
    rw [List.map_congr_left this]
    simp
  · have := p.map unS
    rw [List.map_map] at this
    simpa [Function.comp_def, unS] using this
abbrev letters : Str := "abcdefghijklmnopqrstuvwxyz"
theorem letters_at {i : Nat} (h : i < 26) : L2.atI letters.cps.toList (i : Int) = some (97 + i) := by
  have : ∀ i : Fin 26, L2.atI letters.cps.toList ((i : Nat) : Int) = some (97 + i.1) := by decide +kernel
  exact this ⟨i, h⟩
theorem letters_len : letters.length ≤ sizeLine := by decide +kernel
theorem rng_get {n j : Nat} {d : D} (e : (rngD 0 n)[j]? = some d) : j < n ∧ d = .int (j : Int) := by
  obtain ⟨h1, h2⟩ := rngD_get e
  exact ⟨h1, by rw [h2]; simp⟩
theorem rng_len (n : Nat) : (rngD 0 n).length = n := by simp [rngD]
theorem sfx_at (j st : Nat) : L2.atI [PyData.str "", .str "a", .str "zz"] ((j : Int) % 2 * (1 + (st : Int) % 2)) = some (.str (sfx (j % 2 * (1 + st % 2)))) := by
  have e : (j : Int) % 2 * (1 + (st : Int) % 2) = ((j % 2 * (1 + st % 2) : Nat) : Int) := by push_cast; rfl
  have h : j % 2 * (1 + st % 2) = 0 ∨ j % 2 * (1 + st % 2) = 1 ∨ j % 2 * (1 + st % 2) = 2 := by
    rcases Nat.mod_two_eq_zero_or_one j with z | z <;> rw [z] <;> omega
  rw [e]
  rcases h with h | h | h <;> rw [h] <;> rfl
theorem sfx_le (k : Nat) : (sfx k).length ≤ 2 := by
  match k with
  | 0 => decide +kernel
  | 1 => decide +kernel
  | _ + 2 => show (sfx 2).length ≤ 2; decide +kernel
def crewBody : SM := sSeq (sAsg (f2 idxW (fVar 4) (f2 modW (f2 (addW false) (fVar 6) (f2 (mulW false) (fVar 7) (f2 divW (fVar 2) (fC (.int 2))))) (fC (.int 26)))) (gN 8))
    (sExpr (fM isL appendW (fVar 5) (fCons (f2 (addW false) (fVar 8) (f2 idxW (fA (lstW false) (fCons (fC (.str "")) (fCons (fC (.str "a")) (fCons (fC (.str "zz")) (fNil))))) (f2 (mulW false) (f2 modW (fVar 2) (fC (.int 2))) (f2 (addW false) (fC (.int 1)) (f2 modW (fVar 6) (fC (.int 2))))))) (fNil))))
theorem crew_turn {g : Hh} {b p : Nat} {st sp j sz most : Int} {l : List D} {w : Option W} {L sx : Str} {cc : Nat} (ll : L.length ≤ sizeLine) (la : L2.atI L.cps.toList ((st + sp * (j / 2)) % 26) = some cc) (hx : L2.atI [PyData.str "", .str "a", .str "zz"] (j % 2 * (1 + st % 2)) = some (.str sx))
    (hg : g[p]? = some (some (.lst l))) (hl : l.length < sizeLine) (s0 : 0 ≤ sp) (s1 : sp < 26) (hs : sx.length ≤ 2) :
    crewBody [some (.ref b), some (.dat (.int most)), some (.dat (.int j)), some (.dat (.int sz)), some (.dat (.str L)), some (.ref p), some (.dat (.int st)), some (.dat (.int sp)), w] g =
      some (.nx [some (.ref b), some (.dat (.int most)), some (.dat (.int j)), some (.dat (.int sz)), some (.dat (.str L)), some (.ref p), some (.dat (.int st)), some (.dat (.int sp)), some (.dat (.str ⟨#[cc]⟩))], g.set p (some (.lst (l ++ [.str (⟨#[cc]⟩ ++ sx)])))) := by
  have c0 : -18446744073709551616 < sp := by omega
  have c1 : sp < 18446744073709551616 := by omega
  have c3 : -18446744073709551616 < j % 2 := by omega
  have c4 : j % 2 < 18446744073709551616 := by omega
  have c5 : (Str.length ⟨#[cc]⟩) + sx.length ≤ sizeLine := by
    have hz : sizeLine = 16777216 := by rfl
    show 1 + _ ≤ _
    omega
  have c7 : 3 ≤ sizeLine := by decide
  unfold crewBody
  walk_at "dl"
theorem crew_turn_none {g : Hh} {b p st sp j : Nat} {sz most : Int} {l : List D} {w : Option W} (hg : g[p]? = some (some (.lst l))) (hl : l.length < sizeLine) (s1 : sp < 26) :
    ∃ w', crewBody [some (.ref b), some (.dat (.int most)), some (.dat (.int j)), some (.dat (.int sz)), some (.dat (.str letters)), some (.ref p), some (.dat (.int st)), some (.dat (.int sp)), w] g =
      some (.nx [some (.ref b), some (.dat (.int most)), some (.dat (.int j)), some (.dat (.int sz)), some (.dat (.str letters)), some (.ref p), some (.dat (.int st)), some (.dat (.int sp)), w'], g.set p (some (.lst (l ++ [.str (nm st sp j)])))) ∧ ∀ n, isR n w' = false := by
  have hi : ((st : Int) + sp * ((j : Int) / 2)) % 26 = (((st + sp * (j / 2)) % 26 : Nat) : Int) := by push_cast; rfl
  exact ⟨_, crew_turn letters_len (by rw [hi]; exact letters_at (Nat.mod_lt _ (by omega))) (sfx_at j st) hg hl (by omega) (by omega) (sfx_le _), fun _ => rfl⟩
theorem crew_run {h g1 g2 g3 g5 g6 : Hh} {b : Nat} {most r1 r2 r3 sp : Int} {L : Str} (hL : L = letters) {pool rs : List D} {v w : Option W} (e1 : m__law_take [.ref b, .dat (.int most)] h = some (.dat (.int r1), g1)) (e2 : m__law_take [.ref b, .dat (.int 26)] (g1 ++ [some (.lst [])]) = some (.dat (.int r2), g2))
    (e3 : m__law_take [.ref b, .dat (.int 3)] g2 = some (.dat (.int r3), g3)) (hsi : L2.atI [PyData.int 1, .int 3, .int 25] r3 = some (.int sp)) (b0 : -1000000000 ≤ 1 + r1) (b1 : 1 + r1 ≤ 1000000000)
    (key : forL (gN 2) crewBody (rngD 0 (1 + r1).toNat) [some (.ref b), some (.dat (.int most)), none, some (.dat (.int (1 + r1))), some (.dat (.str L)), some (.ref g1.length), some (.dat (.int r2)), some (.dat (.int sp)), none] g3 =
      some (.nx [some (.ref b), some (.dat (.int most)), v, some (.dat (.int (1 + r1))), some (.dat (.str L)), some (.ref g1.length), some (.dat (.int r2)), some (.dat (.int sp)), w], g5))
    (hv : ∀ n, isR n v = false) (hw : ∀ n, isR n w = false) (hp : g5[g1.length]? = some (some (.lst pool))) (hbn : (b = g1.length) = False)
    (e6 : m__law_strewn [.ref b, .dat (.list pool)] (g5.set g1.length none) = some (.dat (.list rs), g6)) :
    m__law_crew [.ref b, .dat (.int most)] h = leave false h (.dat (.list rs)) g6 := by
  have c7 : 3 ≤ sizeLine := by decide
  have c8 : 0 ≤ sizeLine := Nat.zero_le _
  have hf : frz 5 [some (.ref b), some (.dat (.int most)), v, some (.dat (.int (1 + r1))), some (.dat (.str L)), some (.ref g1.length), some (.dat (.int r2)), some (.dat (.int sp)), w] g5 =
      some ([some (.ref b), some (.dat (.int most)), v, some (.dat (.int (1 + r1))), some (.dat (.str L)), some (.dat (.list pool)), some (.dat (.int r2)), some (.dat (.int sp)), w], g5.set g1.length none) := by
    unfold frz
    simp only [List.getElem?_cons_zero, List.getElem?_cons_succ, hp, List.set_cons_zero, List.set_cons_succ, List.any_cons, List.any_nil, hv, hw, isR_ref, isR_dat, isR_none, hbn, decide_false, Bool.or_false, isTab, Bool.false_eq_true, if_false, moD]
  unfold crewBody at key
  subst hL
  unfold m__law_crew
  clear hv hw hp hbn
  walk_at "dl"
theorem leave_two {b c c' : Nat} {h g : Hh} {d : D} {o : Option MO} (x : BoxAt h b c) (y : BoxAt g b c') (on : Only b h g) : leave false h (.dat d) (g ++ [o]) = some (.dat d, g) := by
  have e : (g ++ [o]).take h.length = g := by rw [← on.len, List.take_append_of_le_length (Nat.le_refl _), List.take_length]
  rw [leave_dat (by rw [e]; exact live_only x y on), e]
theorem crew_ok {h : Hh} {b c most : Nat} (hb : BoxAt h b c) (hc : c < 100000000) (h0 : 0 < most) (h1 : most ≤ 52) :
    ∃ rs h', m__law_crew [.ref b, .dat (.int most)] h = some (.dat (.list (rs.map .str)), h') ∧ Crew most rs ∧ BoxAt h' b (c + 3 + most) ∧ Only b h h' := by
  have hz : sizeLine = 16777216 := by rfl
  obtain ⟨r1, g1, e1, p1, q1, b1, o1⟩ := take_ok (n := (most : Int)) hb (by omega) (by omega) (by omega)
  obtain ⟨r2, g2, e2, p2, q2, b2, o2⟩ := take_ok (n := 26) (box_app (l := [some (.lst [])]) b1) (by omega) (by omega) (by omega)
  obtain ⟨r3, g3, e3, p3, q3, b3, o3⟩ := take_ok (n := 3) b2 (by omega) (by omega) (by omega)
  have lb := hb.lt
  have l1 := o1.len
  obtain ⟨o4, g4, e4, l4⟩ := only_app b1.lt (o2.trans o3)
  have eg : g3.take g1.length = g4 := by rw [e4, ← l4, List.take_append_of_le_length (Nat.le_refl _), List.take_length]
  rw [eg] at o4
  have b4 : BoxAt g4 b (c + 3) := by
    have := box_take b3 (n := g1.length) (by omega)
    rw [eg] at this
    exact this
  obtain ⟨st, rfl⟩ : ∃ st : Nat, r2 = st := ⟨r2.toNat, by omega⟩
  obtain ⟨sz, rfl⟩ : ∃ sz : Nat, r1 = sz := ⟨r1.toNat, by omega⟩
  obtain ⟨sp, hsp, hsi⟩ : ∃ sp : Nat, Steps sp ∧ L2.atI [PyData.int 1, .int 3, .int 25] r3 = some (.int (sp : Int)) := by
    have : r3 = 0 ∨ r3 = 1 ∨ r3 = 2 := by omega
    rcases this with rfl | rfl | rfl
    · exact ⟨1, .inl rfl, rfl⟩
    · exact ⟨3, .inr (.inl rfl), rfl⟩
    · exact ⟨25, .inr (.inr rfl), rfl⟩
  have sp26 : sp < 26 := by rcases hsp with rfl | rfl | rfl <;> omega
  have key := forL_inv (k := gN 2) (body := crewBody)
    (fun n ρ g => ∃ v w : Option W, (∀ n, isR n v = false) ∧ (∀ n, isR n w = false) ∧ ρ = [some (.ref b), some (.dat (.int most)), v, some (.dat (.int (1 + sz))), some (.dat (.str letters)), some (.ref g1.length), some (.dat (.int st)), some (.dat (.int sp)), w] ∧ g = g4 ++ [some (.lst ((List.range n).map fun a => .str (nm st sp a)))])
    (ds := rngD 0 (1 + (sz : Int)).toNat) (n := 0)
    (ρ := [some (.ref b), some (.dat (.int most)), none, some (.dat (.int (1 + sz))), some (.dat (.str letters)), some (.ref g1.length), some (.dat (.int st)), some (.dat (.int sp)), none]) (h := g3)
    ⟨none, none, fun _ => rfl, fun _ => rfl, rfl, e4⟩ (by
      intro j d ej ρ g hi
      obtain ⟨v, w, hv, hw, rfl, rfl⟩ := hi
      obtain ⟨hj, rfl⟩ := rng_get ej
      rw [Nat.zero_add]
      have hg : (g4 ++ [some (MO.lst ((List.range j).map fun a => PyData.str (nm st sp a)))])[g1.length]? = some (some (.lst ((List.range j).map fun a => .str (nm st sp a)))) := by rw [List.getElem?_append_right (by omega), l4]; simp
      have hs : (g4 ++ [some (MO.lst ((List.range j).map fun a => PyData.str (nm st sp a)))]).set g1.length (some (.lst ((List.range j).map (fun a => PyData.str (nm st sp a)) ++ [.str (nm st sp j)]))) = g4 ++ [some (.lst ((List.range (j + 1)).map fun a => .str (nm st sp a)))] := by
        rw [List.set_append_right _ _ (by omega), show g1.length - g4.length = 0 by omega, List.range_succ, List.map_append]; rfl
      obtain ⟨w', ew⟩ := crew_turn_none (b := b) (st := st) (j := j) (sz := 1 + (sz : Int)) (most := most) (w := w) hg (by simp; omega) sp26
      refine ⟨_, _, _, rfl, ew.1, some (.dat (.int j)), w', fun _ => rfl, ew.2, rfl, hs⟩)
  obtain ⟨ρ', g5, ek, v, w, hv, hw, rfl, rfl⟩ := key
  have hn : 0 + (rngD 0 (1 + (sz : Int)).toNat).length = 1 + sz := by rw [rng_len]; omega
  rw [hn] at ek
  have hgp : (g4 ++ [some (MO.lst ((List.range (1 + sz)).map fun a => PyData.str (nm st sp a)))])[g1.length]? = some (some (.lst ((List.range (1 + sz)).map fun a => .str (nm st sp a)))) := by rw [List.getElem?_append_right (by omega), l4]; simp
  have hgs : (g4 ++ [some (MO.lst ((List.range (1 + sz)).map fun a => PyData.str (nm st sp a)))]).set g1.length none = g4 ++ [none] := by
    rw [List.set_append_right _ _ (by omega), show g1.length - g4.length = 0 by omega]; rfl
  obtain ⟨rs, g6, e6, pm, b6, o6⟩ := strewn_ok (x := .list ((List.range (1 + sz)).map fun a => PyData.str (nm st sp a))) (.inl rfl) (box_app (l := [none]) b4) (by simp; omega) (by simp; omega)
  obtain ⟨o7, g7, e7, l7⟩ := only_app b4.lt o6
  subst e7
  have e8 : (g7 ++ [none]).take g4.length = g7 := by rw [← l7, List.take_append_of_le_length (Nat.le_refl _), List.take_length]
  rw [e8] at o7
  have b7 := box_take b6 (n := g4.length) b4.lt
  rw [e8] at b7
  obtain ⟨ss, rfl, ps⟩ := perm_strs (rs := rs) (l := (List.range (1 + sz)).map (nm st sp)) (by rw [List.map_map]; exact pm)
  have on := o1.trans (o4.trans o7)
  refine ⟨ss, g7, ?_, crew_of h1 (by omega) (by omega) (by omega) hsp ps, b7.mono (by simp; omega), on⟩
  rw [crew_run rfl e1 e2 e3 hsi (by omega) (by omega) ek hv hw hgp (eq_false (by omega)) (by rw [hgs]; exact e6)]
  exact leave_two hb b7 on
end DL
set_option maxRecDepth 100000
set_option maxHeartbeats 400000
namespace DL
open PySem L2
local macro_rules | `(tactic| walk_at "dl") => `(tactic| simp (config := { dsimp := false }) only [↓fnM_e, ↓sSeq_e, seqK_nx, seqK_rt, seqK_bk, seqK_ct, retK_rt, retK_nx, ↓sFrz_e, frK_some, ↓sAsg, ↓sRet, ↓sRetN, ↓sIf, ↓sExpr, ↓sSkip, ↓sNever, ↓sPar, ↓sFor, ↓sSub, ↓fVar, ↓fC, ↓fNil, ↓fCons, ↓fA, ↓f1, ↓f2, ↓fB, ↓fIf, ↓fNeg, ↓fNot, ↓fAnd, ↓fOr, ↓bNot, ↓bAnd, ↓bOr, ↓bYes, ↓obnd_x, ob_some, ↓sbnd_x, sb_some, ↓ite_x, iteK_t, iteK_f, gN, gT, gC, gE, ↓rng1I, ↓rng2I, ↓seqI, ↓enumA, ↓zipI, ↓strI, ↓fLc, ↓fDc, ↓fM, ↓fSl, ↓oNone, ↓oSome, ↓fRev, wipeE, ↓kwM, permM, permL, List.foldr, List.length_cons, List.length_nil, List.map_cons, List.map_nil, List.cons_append, List.nil_append, List.replicate, List.replicate_succ, List.replicate_zero, List.getElem?_cons_zero, List.getElem?_cons_succ, List.set_cons_zero, List.set_cons_succ, if_true, if_false, reduceIte, Nat.reduceAdd, Nat.reduceSub, Nat.reduceEqDiff, Nat.reduceLT, Nat.reduceLeDiff, Int.reduceLT, Int.reduceLE, Int.reduceNeg, Int.reduceMul, Int.reduceAdd, Int.reduceSub, Int.reduceToNat, Int.reducePow, Int.reduceEq, ok, bok, deref, mkL, lstW, tupW, dats, Option.map_some, appendW, insertW, setL, isL, listW, tupleW, lenW, absW, intC, maxW, minW, idxW, addW, subW_e, modW_e, divW_e, powW_e, mulW, intW, lt_e, gt_e, le_e, ge_e, ltW, allW_e, anyW_e, sumW_e, lW, setW, lstAt, cutW, backW, isW, isiW, iLT_none, iLT_bool, iLT_int, iLT_str, iLT_list, iLT_tup, iL_none, iL_bool, iL_int, iL_str, iL_list, iL_tup, iT_none, iT_bool, iT_int, iT_str, iT_list, iT_tup, iS_none, iS_bool, iS_int, iS_str, iS_list, iS_tup, iI_none, iI_bool, iI_int, iI_str, iI_list, iI_tup, iB_none, iB_bool, iB_int, iB_str, iB_list, iB_tup, Bool.false_eq_true, reduceCtorEq, Bool.not_true, Bool.not_false, decide_true, decide_false, List.zip_cons_cons, List.zip_nil_left, List.foldl_cons, List.foldl_nil, and_self, and_true, true_and, Bool.and_true, Bool.true_and, Bool.or_true, Bool.true_or, *])
theorem bools_true : ∀ n : Nat, bools (List.replicate n (.bool true)) = some (List.replicate n true)
  | 0 => rfl
  | n + 1 => by rw [List.replicate_succ, bools, bools_true n]; rfl
theorem all_true (n : Nat) : (List.replicate n true).all id = true := by induction n with
  | zero => rfl
  | succ n ih => rw [List.replicate_succ, List.all_cons, ih]; rfl
mutual
def plainD : D → Bool
  | .dict _ => false
  | .list ds => plainDs ds && decide (ds.length ≤ sizeLine)
  | .tuple ds => plainDs ds && decide (ds.length ≤ sizeLine)
  | _ => true
def plainDs : List D → Bool
  | [] => true
  | d :: ds => plainD d && plainDs ds
end
theorem plainDs_mem : ∀ {ds : List D} {d : D}, plainDs ds = true → d ∈ ds → plainD d = true
  | _ :: _, _, h, .head _ => by rw [plainDs, Bool.and_eq_true] at h; exact h.1
  | _ :: ds, _, h, .tail _ m => by rw [plainDs, Bool.and_eq_true] at h; exact plainDs_mem h.2 m
theorem depthAll_mem : ∀ {ds : List D} {d : D}, d ∈ ds → d.depth ≤ PyData.depthAll ds
  | _ :: _, _, .head _ => by rw [PyData.depthAll]; exact Nat.le_max_left _ _
  | _ :: ds, _, .tail _ m => by rw [PyData.depthAll]; exact Nat.le_trans (depthAll_mem m) (Nat.le_max_right _ _)
theorem forL_end {k : TM} {body : SM} (I : Nat → Env → Hh → Prop) {ds : List D} {ρ : Env} {h : Hh} (i : I 0 ρ h) (H : ∀ (j : Nat) (d : D), ds[j]? = some d → ∀ ρ h, I j ρ h → ∃ ρ1 ρ2 h2, k (.dat d) ρ h = some ρ1 ∧ body ρ1 h = some (.nx ρ2, h2) ∧ I (j + 1) ρ2 h2) :
    ∃ ρ' h', forL k body ds ρ h = some (.nx ρ', h') ∧ I ds.length ρ' h' := by
  have := forL_inv (k := k) (body := body) I (ds := ds) (n := 0) i fun j d e ρ h q => by
    have := H j d e ρ h (by rw [Nat.zero_add] at q; exact q)
    rw [Nat.zero_add]; exact this
  rw [Nat.zero_add] at this
  exact this
theorem leave_ref {h : Hh} {ds : List D} : leave true h (.ref h.length) (h ++ [some (.lst ds)]) = some (.ref h.length, h ++ [some (.lst ds)]) := by
  have e : (h ++ [some (MO.lst ds)]).take h.length = h := by rw [List.take_append_of_le_length (Nat.le_refl _), List.take_length]
  have e2 : (h ++ [some (MO.lst ds)])[h.length]? = some (some (.lst ds)) := by rw [List.getElem?_append_right (Nat.le_refl _)]; simp
  unfold leave
  rw [e, if_pos rfl]
  simp only [Nat.lt_irrefl, if_false, e2, if_true]
theorem box_run {ns : List Int} {k cell a : Int} {z : Bool} {h : Hh} (hc : (decide (k < (ns.length : Int)) = true ∧ L2.atI ns k = some cell) ∨ (decide (k < (ns.length : Int)) = false ∧ cell = 0)) (ha : (if cell < 0 then -cell else cell) = a) (hz : decide (1000000000000000000 ≤ a) = z) :
    m__law_box [.scr ns, .dat (.int k)] h = some (.ref h.length, h ++ [some (.lst [.int (a * (if z = true then 1 else 0)), .int (cell % 2147483629 + 7919 * k + 11), .int 0])]) := by
  have c7 : 3 ≤ sizeLine := by decide
  have hna : Int.natAbs 10 < 18446744073709551616 := by decide
  have lv := leave_ref (h := h) (ds := [.int (a * (if z = true then 1 else 0)), .int (cell % 2147483629 + 7919 * k + 11), .int 0])
  unfold m__law_box
  rcases hc with ⟨h1, h2⟩ | ⟨h1, rfl⟩
  · cases z with
    | true => walk_at "dl"; exact leave_ref
    | false => walk_at "dl"; exact leave_ref
  · have e0 : a = 0 := by rw [← ha]; rfl
    subst e0
    have e1 : z = false := by rw [← hz]; rfl
    subst e1
    clear hz ha
    walk_at "dl"
    exact leave_ref
theorem box_new {ns : List Int} {k : Int} {h : Hh} (hk : 0 ≤ k) (hk2 : k < 100) :
    ∃ d s : Int, m__law_box [.scr ns, .dat (.int k)] h = some (.ref h.length, h ++ [some (.lst [.int d, .int s, .int 0])]) ∧ 0 ≤ d ∧ 0 ≤ s ∧ s < 1099511627776 := by
  obtain ⟨cell, hc⟩ : ∃ cell : Int, (decide (k < (ns.length : Int)) = true ∧ L2.atI ns k = some cell) ∨ (decide (k < (ns.length : Int)) = false ∧ cell = 0) := by
    by_cases h1 : k < (ns.length : Int)
    · have h2 : k.toNat < ns.length := by omega
      refine ⟨ns[k.toNat], .inl ⟨by simpa using h1, ?_⟩⟩
      have := atI_nat (xs := ns) (j := k.toNat) (List.getElem?_eq_getElem h2)
      rwa [show ((k.toNat : Nat) : Int) = k by omega] at this
    · exact ⟨0, .inr ⟨by simpa using h1, rfl⟩⟩
  refine ⟨_, _, box_run hc rfl rfl, ?_, by omega, by omega⟩
  split <;> split <;> omega
noncomputable def lawM (T : Int) (right : FM) : FM := fnM false 1 4 (sSeq (sFor (rng1I (fCons (fA maxW (fCons (fC (.int 1)) (fCons (fA minW (fCons (fC (.int 3)) (fCons (fA lenW (fCons (fVar 0) (fNil))) (fNil)))) (fNil)))) (fNil))) (gN 1)
    (sSeq (sAsg (fA (m__law_box) (fCons (fVar 0) (fCons (fVar 1) (fNil)))) (gN 2))
    (sIf (bNot (fB (fA allW (fCons (fLc false (rng1I (fCons (fC (.int T)) (fNil))) (gN 3) (bYes) (fA right (fCons (fVar 2) (fNil))) [3]) (fNil))))) (sRet (fC (.bool false))) (sSkip))))
    (sRet (fC (.bool true))))
theorem bools_all : ∀ {rs : List D}, (∀ r ∈ rs, r = .bool true) → rs = List.replicate rs.length (.bool true)
  | [], _ => rfl
  | r :: rs, h => by
    rw [List.length_cons, List.replicate_succ, ← bools_all fun x hx => h x (List.mem_cons_of_mem _ hx), ← h r List.mem_cons_self]
end DL
set_option maxRecDepth 100000
set_option maxHeartbeats 400000
namespace DL
open PySem L2
local macro_rules | `(tactic| walk_at "dl") => `(tactic| simp (config := { dsimp := false }) only [↓fnM_e, ↓sSeq_e, seqK_nx, seqK_rt, seqK_bk, seqK_ct, retK_rt, retK_nx, ↓sFrz_e, frK_some, ↓sAsg, ↓sRet, ↓sRetN, ↓sIf, ↓sExpr, ↓sSkip, ↓sNever, ↓sPar, ↓sFor, ↓sSub, ↓fVar, ↓fC, ↓fNil, ↓fCons, ↓fA, ↓f1, ↓f2, ↓fB, ↓fIf, ↓fNeg, ↓fNot, ↓fAnd, ↓fOr, ↓bNot, ↓bAnd, ↓bOr, ↓bYes, ↓obnd_x, ob_some, ↓sbnd_x, sb_some, ↓ite_x, iteK_t, iteK_f, gN, gT, gC, gE, ↓rng1I, ↓rng2I, ↓seqI, ↓enumA, ↓zipI, ↓strI, ↓fLc, ↓fDc, ↓fM, ↓fSl, ↓oNone, ↓oSome, ↓fRev, wipeE, ↓kwM, permM, permL, List.foldr, List.length_cons, List.length_nil, List.map_cons, List.map_nil, List.cons_append, List.nil_append, List.replicate, List.replicate_succ, List.replicate_zero, List.getElem?_cons_zero, List.getElem?_cons_succ, List.set_cons_zero, List.set_cons_succ, if_true, if_false, reduceIte, Nat.reduceAdd, Nat.reduceSub, Nat.reduceEqDiff, Nat.reduceLT, Nat.reduceLeDiff, Int.reduceLT, Int.reduceLE, Int.reduceNeg, Int.reduceMul, Int.reduceAdd, Int.reduceSub, Int.reduceToNat, Int.reducePow, Int.reduceEq, ok, bok, deref, mkL, lstW, tupW, dats, Option.map_some, appendW, insertW, setL, isL, listW, tupleW, lenW, absW, intC, maxW, minW, idxW, addW, subW_e, modW_e, divW_e, powW_e, mulW, intW, lt_e, gt_e, le_e, ge_e, ltW, allW_e, anyW_e, sumW_e, lW, setW, lstAt, cutW, backW, isW, isiW, iLT_none, iLT_bool, iLT_int, iLT_str, iLT_list, iLT_tup, iL_none, iL_bool, iL_int, iL_str, iL_list, iL_tup, iT_none, iT_bool, iT_int, iT_str, iT_list, iT_tup, iS_none, iS_bool, iS_int, iS_str, iS_list, iS_tup, iI_none, iI_bool, iI_int, iI_str, iI_list, iI_tup, iB_none, iB_bool, iB_int, iB_str, iB_list, iB_tup, Bool.false_eq_true, reduceCtorEq, Bool.not_true, Bool.not_false, decide_true, decide_false, List.zip_cons_cons, List.zip_nil_left, List.foldl_cons, List.foldl_nil, and_self, and_true, true_and, Bool.and_true, Bool.true_and, Bool.or_true, Bool.true_or, *])
def TxtOk (s : Str) : Prop := s.length ≤ 100 ∧ ∀ c ∈ s.cps.toList, c < 128
theorem TxtOk.ok {s : Str} (h : TxtOk s) : PyData.strOk s = true := by
  unfold PyData.strOk
  rw [Array.all_eq_true']
  intro c hc
  have := h.2 c (by simpa using hc)
  simp; omega
abbrev Txts (l : List Str) : Prop := ∀ s ∈ l, TxtOk s
theorem nm_ok {st sp a : Nat} : TxtOk (nm st sp a) := by
  refine ⟨?_, fun c hc => ?_⟩
  · unfold nm
    rw [len_app]
    have := sfx_le (a % 2 * (1 + st % 2))
    show 1 + _ ≤ _
    omega
  · rw [nm_cps] at hc
    rcases List.mem_cons.mp hc with rfl | hc
    · omega
    · generalize a % 2 * (1 + st % 2) = k at hc
      match k, hc with
      | 0, hc => rw [sfx_len.1] at hc; cases hc
      | 1, hc => rw [sfx_len.2.1] at hc; simp at hc; omega
      | _ + 2, hc => 
        have hc' : c ∈ (sfx 2).cps.toList := hc
        rw [sfx_len.2.2] at hc'; simp at hc'; omega
theorem Crew.txts {most : Nat} {rs : List Str} (h : Crew most rs) : Txts rs := fun s hs => by
  obtain ⟨st, sp, a, _, _, rfl⟩ := h.nam s hs
  exact nm_ok
theorem Txts.perm {l m : List Str} (h : Txts l) (p : m.Perm l) : Txts m := fun s hs => h s (p.mem_iff.mp hs)
def leS (a b : Str) : Bool := decide (a.cps.toList ≤ b.cps.toList)
theorem leS_trans (a b c : Str) (h1 : leS a b = true) (h2 : leS b c = true) : leS a c = true := by
  unfold leS at *
  simp only [decide_eq_true_eq] at *
  exact List.le_trans h1 h2
theorem leS_total (a b : Str) : (leS a b || leS b a) = true := by
  unfold leS
  simp only [Bool.or_eq_true, decide_eq_true_eq]
  exact List.le_total _ _
theorem leS_antisymm {a b : Str} (h1 : leS a b = true) (h2 : leS b a = true) : a = b := by
  unfold leS at *
  simp only [decide_eq_true_eq] at *
  exact str_ext (List.le_antisymm h1 h2)
def sortS (l : List Str) : List Str := l.mergeSort leS
theorem sortS_perm (l : List Str) : (sortS l).Perm l := List.mergeSort_perm _ _
theorem sortS_pw (l : List Str) : (sortS l).Pairwise fun a b => leS a b = true := List.pairwise_mergeSort leS_trans leS_total l
theorem sortS_eq {a b : List Str} (h : a.Perm b) : sortS a = sortS b :=
  List.Perm.eq_of_pairwise (fun x y _ _ h1 h2 => leS_antisymm h1 h2) (sortS_pw a) (sortS_pw b) ((sortS_perm a).trans (h.trans (sortS_perm b).symm))
theorem sortD_strs (l : List Str) : sortD (l.map .str) = (sortS l).map .str := by
  unfold sortD sortS
  have e := PySem.W.dataLe_str (fun s : Str => s)
  rw [← PySem.W.sort_maps (r := leS) (s := PySem.W.dataLe false fun d : D => d) (fun s : Str => (.str s : D)) (l := l) fun a _ b _ => ?_]
  have := congrFun (congrFun e a) b
  unfold leS
  rw [← this]
  rfl
theorem alike_strs (l : List Str) : (l.map PyData.str).all (fun d => (l.map PyData.str).all fun e => PySem.W.alike d e) = true := by
  rw [List.all_eq_true]
  intro d hd
  rw [List.all_eq_true]
  intro e he
  obtain ⟨a, _, rfl⟩ := List.mem_map.mp hd
  obtain ⟨b, _, rfl⟩ := List.mem_map.mp he
  rfl
theorem shp_strs {l : List Str} (ht : Txts l) : (l.map PyData.str).all shp = true := by
  rw [List.all_eq_true]
  intro d hd
  obtain ⟨a, ha, rfl⟩ := List.mem_map.mp hd
  simp [shp, PyData.canLay0, PyData.depth, (ht a ha).ok]
theorem sortable_strs {l : List Str} (ht : Txts l) : sortable (l.map .str) = true := by
  unfold sortable
  rw [alike_strs, shp_strs ht]
  simp only [Bool.true_and, Bool.and_true, Bool.or_eq_true]
  right
  rw [List.all_eq_true]
  intro d hd
  obtain ⟨a, _, rfl⟩ := List.mem_map.mp hd
  rfl
abbrev IsSeq (x : D) (ds : List D) : Prop := x = .list ds ∨ x = .tuple ds
theorem sortW_strs {x : D} {l : List Str} {h : Hh} (hx : IsSeq x (l.map .str)) (ht : Txts l) : sortW false [.dat x] h = some (.dat (.list ((sortS l).map .str)), h) := by
  have e := sortD_strs l
  have e2 := sortable_strs ht
  clear ht
  rcases hx with rfl | rfl <;> (unfold sortW; walk_at "dl")
theorem canLay_strs : ∀ {l : List Str}, Txts l → PyData.canLayAll0 (l.map .str) = true
  | [], _ => rfl
  | s :: l, h => by rw [List.map_cons, PyData.canLayAll0, canLay_strs fun t ht => h t (List.mem_cons_of_mem _ ht)]; simp [PyData.canLay0, (h s List.mem_cons_self).ok]
theorem depth_strs : ∀ l : List Str, PyData.depthAll (l.map .str) = 0
  | [] => rfl
  | s :: l => by rw [List.map_cons, PyData.depthAll, depth_strs l]; simp [PyData.depth]
theorem shp_list {l : List Str} (ht : Txts l) : shp (.list (l.map .str)) = true := by
  unfold shp
  rw [PyData.canLay0, canLay_strs ht, PyData.depth, depth_strs]
  rfl
theorem eqW_list {neg : Bool} {ds : List D} {h : Hh} (hs : shp (.list ds) = true) : eqW neg (.dat (.list ds)) (.dat (.list ds)) h = some (.dat (.bool (!neg)), h) := by
  have e : PyData.eqv (.list ds) (.list ds) = true := SeqAt.eqv_refl _ (SeqAt.canLay_of_shaped hs)
  unfold eqW
  simp only [deref, eqS, hs, e, Bool.and_self, if_true]
  cases neg <;> rfl
theorem look_alike_ok {x y : D} {l m : List Str} {h : Hh} (hx : IsSeq x (l.map .str)) (hy : IsSeq y (m.map .str)) (p : l.Perm m) (ht : Txts l) : m_look_alike [.dat x, .dat y] h = some (.dat .none, h) := by
  have e1 := sortW_strs (h := h) hx ht
  have e2 := sortW_strs (h := h) hy (ht.perm p.symm)
  rw [← sortS_eq p] at e2
  have e3 := eqW_list (neg := true) (h := h) (shp_list (ht.perm (sortS_perm l)))
  have lv := leave_same' (h := h) (d := .none)
  unfold m_look_alike
  clear hx hy p ht
  walk_at "dl"
end DL
set_option maxRecDepth 100000
set_option maxHeartbeats 400000
namespace DL
open PySem L2
local macro_rules | `(tactic| walk_at "dl") => `(tactic| simp (config := { dsimp := false }) only [↓fnM_e, ↓sSeq_e, seqK_nx, seqK_rt, seqK_bk, seqK_ct, retK_rt, retK_nx, ↓sFrz_e, frK_some, ↓sAsg, ↓sRet, ↓sRetN, ↓sIf, ↓sExpr, ↓sSkip, ↓sNever, ↓sPar, ↓sFor, ↓sSub, ↓fVar, ↓fC, ↓fNil, ↓fCons, ↓fA, ↓f1, ↓f2, ↓fB, ↓fIf, ↓fNeg, ↓fNot, ↓fAnd, ↓fOr, ↓bNot, ↓bAnd, ↓bOr, ↓bYes, ↓obnd_x, ob_some, ↓sbnd_x, sb_some, ↓ite_x, iteK_t, iteK_f, gN, gT, gC, gE, ↓rng1I, ↓rng2I, ↓seqI, ↓enumA, ↓zipI, ↓strI, ↓fLc, ↓fDc, ↓fM, ↓fSl, ↓oNone, ↓oSome, ↓fRev, wipeE, ↓kwM, permM, permL, List.foldr, List.length_cons, List.length_nil, List.map_cons, List.map_nil, List.cons_append, List.nil_append, List.replicate, List.replicate_succ, List.replicate_zero, List.getElem?_cons_zero, List.getElem?_cons_succ, List.set_cons_zero, List.set_cons_succ, if_true, if_false, reduceIte, Nat.reduceAdd, Nat.reduceSub, Nat.reduceEqDiff, Nat.reduceLT, Nat.reduceLeDiff, Int.reduceLT, Int.reduceLE, Int.reduceNeg, Int.reduceMul, Int.reduceAdd, Int.reduceSub, Int.reduceToNat, Int.reducePow, Int.reduceEq, ok, bok, deref, mkL, lstW, tupW, dats, Option.map_some, appendW, insertW, setL, isL, listW, tupleW, lenW, absW, intC, maxW, minW, idxW, addW, subW_e, modW_e, divW_e, powW_e, mulW, intW, lt_e, gt_e, le_e, ge_e, ltW, allW_e, anyW_e, sumW_e, lW, setW, lstAt, cutW, backW, isW, isiW, iLT_none, iLT_bool, iLT_int, iLT_str, iLT_list, iLT_tup, iL_none, iL_bool, iL_int, iL_str, iL_list, iL_tup, iT_none, iT_bool, iT_int, iT_str, iT_list, iT_tup, iS_none, iS_bool, iS_int, iS_str, iS_list, iS_tup, iI_none, iI_bool, iI_int, iI_str, iI_list, iI_tup, iB_none, iB_bool, iB_int, iB_str, iB_list, iB_tup, Bool.false_eq_true, reduceCtorEq, Bool.not_true, Bool.not_false, decide_true, decide_false, List.zip_cons_cons, List.zip_nil_left, List.foldl_cons, List.foldl_nil, and_self, and_true, true_and, Bool.and_true, Bool.true_and, Bool.or_true, Bool.true_or, *])
def plc : Nat → List Str → List (Str × D)
  | _, [] => []
  | k, s :: r => (s, .int (k : Int)) :: plc (k + 1) r
theorem plc_keys : ∀ (k : Nat) (r : List Str), (plc k r).map (·.1) = r
  | _, [] => rfl
  | k, s :: r => by rw [plc, List.map_cons, plc_keys (k + 1) r]
theorem plc_look : ∀ (k : Nat) (r : List Str) (s : Str), (plc k r).lookup s = if s ∈ r then some (.int ((k + r.idxOf s : Nat) : Int)) else none
  | _, [], s => rfl
  | k, t :: r, s => by
    rw [plc, List.lookup_cons]
    by_cases h : s = t
    · subst h
      simp
    · have h1 : (s == t) = false := by simpa using h
      have h2 : (t == s) = false := by simpa using fun z => h z.symm
      rw [h1, plc_look (k + 1) r s]
      simp only [List.mem_cons, h, false_or]
      by_cases hm : s ∈ r
      · simp only [hm, if_true, List.idxOf_cons, h2, cond_false]
        rw [show k + 1 + List.idxOf s r = k + (List.idxOf s r + 1) by omega]
      · simp only [hm, if_false]
def enP : D → Str × D
  | .tuple [i, .str s] => (s, i)
  | _ => ("", .none)
theorem enum_plc : ∀ (k : Nat) (r : List Str), (enumD k (r.map .str)).map enP = plc k r
  | _, [] => rfl
  | k, s :: r => by rw [List.map_cons, enumD, List.map_cons, enum_plc (k + 1) r]; rfl
theorem enum_mem : ∀ {k : Nat} {r : List Str} {d : D}, d ∈ enumD k (r.map .str) → ∃ (i : Nat) (s : Str), d = .tuple [.int (i : Int), .str s]
  | _, [], _, h => by cases h
  | k, s :: r, d, h => by
    rw [List.map_cons, enumD] at h
    rcases List.mem_cons.mp h with rfl | h
    · exact ⟨k, s, rfl⟩
    · exact enum_mem h
theorem places_ok {x : D} {r : List Str} {h : Hh} (hx : IsSeq x (r.map .str)) (nd : r.Nodup) (hl : r.length ≤ 1000) : m_places_of [.dat x] h = some (.dat (.dict (sdic (plc 0 r))), h) := by
  have e := dcL_sdic (k := gT 2 (gC (gN 1) (gC (gN 2) gE))) (fk := fVar 2) (fv := fVar 1) (ρ := [some (.dat x), none, none]) (h := h) enP (ds := enumD 0 (r.map .str)) (l := []) (by rw [List.nil_append, enum_plc, plc_keys]; exact nd)
    (by rw [List.nil_append, List.length_map, enumD_len, List.length_map]; exact Nat.le_trans hl (by decide)) (by
      intro d hd
      obtain ⟨i, s, rfl⟩ := enum_mem hd
      refine ⟨[some (.dat x), some (.dat (.int i)), some (.dat (.str s))], ?_, rfl, rfl⟩
      walk_at "dl")
  rw [List.nil_append, enum_plc] at e
  have e' : dcL (gT 2 (gC (gN 1) (gC (gN 2) gE))) bYes (fVar 2) (fVar 1) [some (.dat x), none, none] (enumD 0 (r.map .str)) [] h = some (sdic (plc 0 r), h) := e
  have lv := leave_same' (h := h) (d := .dict (sdic (plc 0 r)))
  unfold m_places_of
  clear nd hl e
  rcases hx with rfl | rfl <;> (walk_at "dl"; simp only [mkK, Bool.false_eq_true, if_false, obnd_some, retK_rt]; walk_at "dl")
theorem place_ok {x : D} {r : List Str} {s : Str} {h : Hh} (hx : IsSeq x (r.map .str)) (nd : r.Nodup) (hl : r.length ≤ 1000) (hs : s ∈ r) : m_place_of [.dat x, .dat (.str s)] h = some (.dat (.int (r.idxOf s : Int)), h) := by
  have e := places_ok (h := h) hx nd hl
  have e2 : getD (sdic (plc 0 r)) (.str s) = some (some (.int (r.idxOf s : Int))) := by rw [getD_sdic, plc_look, if_pos hs, Nat.zero_add]
  have e3 : inW true (.dat (.str s)) (.dat (.dict (sdic (plc 0 r)))) h = some (.dat (.bool false), h) := by
    unfold inW
    simp only [deref, e2]
    rfl
  have lv := leave_same' (h := h) (d := .int (r.idxOf s : Int))
  unfold m_place_of
  clear hx nd hl hs
  walk_at "dl"
theorem ahead_ok {x : D} {r : List Str} {s t : Str} {h : Hh} (hx : IsSeq x (r.map .str)) (nd : r.Nodup) (hl : r.length ≤ 1000) (hs : s ∈ r) (ht : t ∈ r) : m_is_ahead [.dat x, .dat (.str s), .dat (.str t)] h = some (.dat (.bool (decide (r.idxOf s < r.idxOf t))), h) := by
  have e := place_ok (h := h) hx nd hl hs
  have e2 := place_ok (h := h) hx nd hl ht
  have e3 : decide (((r.idxOf s : Nat) : Int) < ((r.idxOf t : Nat) : Int)) = decide (r.idxOf s < r.idxOf t) := by simp
  have lv := leave_same' (h := h) (d := .bool (decide (r.idxOf s < r.idxOf t)))
  unfold m_is_ahead
  clear hx nd hl hs ht
  walk_at "dl"
end DL
set_option maxRecDepth 100000
set_option maxHeartbeats 400000
namespace DL
open PySem L2
mutual
/-- texts, lists and tuples of such -/
def txD : D → Bool
  | .str s => decide (s.length ≤ 100) && s.cps.toList.all (· < 128)
  | .list ds => txDs ds
  | .tuple ds => txDs ds
  | .none => true
  | .bool _ => true
  | _ => false
def txDs : List D → Bool
  | [] => true
  | d :: ds => txD d && txDs ds
end
mutual
def costD : D → Nat
  | .str s => 10 * s.length + 2
  | .list ds => costDs ds + 3
  | .tuple ds => costDs ds + 3
  | _ => 5
def costDs : List D → Nat
  | [] => 0
  | d :: ds => costD d + 2 + costDs ds
end
theorem tx_str {s : Str} (h : TxtOk s) : txD (.str s) = true := by
  rw [txD]
  simp only [Bool.and_eq_true, decide_eq_true_eq, List.all_eq_true]
  exact ⟨h.1, fun c hc => h.2 c hc⟩
theorem str_tx {s : Str} (h : txD (.str s) = true) : TxtOk s := by
  rw [txD] at h
  simp only [Bool.and_eq_true, decide_eq_true_eq, List.all_eq_true] at h
  exact ⟨h.1, fun c hc => h.2 c hc⟩
mutual
theorem tx_lay : ∀ {d : D}, txD d = true → d.canLay0 = true ∧ d.showable = true ∧ d.shown.length ≤ costD d
  | .none, _ => by refine ⟨by simp [PyData.canLay0], by simp [PyData.showable], ?_⟩; rw [PyData.shown, costD]; · decide +kernel
                   all_goals simp
  | .bool b, _ => by
    refine ⟨by simp [PyData.canLay0], by simp [PyData.showable], ?_⟩
    rw [PyData.shown, costD]
    · cases b <;> decide +kernel
    all_goals simp
  | .int _, h => by simp [txD] at h
  | .dict _, h => by simp [txD] at h
  | .str s, h => by
    have t := str_tx h
    refine ⟨by rw [PyData.canLay0]; exact t.ok, by simp [PyData.showable], ?_⟩
    rw [PyData.shown, costD]
    exact StrLaws.reprText_len s fun c hc => by have := t.2 c hc; omega
  | .list ds, h => by
    rw [txD] at h
    obtain ⟨h1, h2, h3⟩ := tx_lays h
    refine ⟨by rw [PyData.canLay0]; exact h1, by rw [PyData.showable]; exact h2, ?_⟩
    rw [PyData.shown, costD]
    exact Nat.le_trans (listText_len_le _) (by omega)
  | .tuple ds, h => by
    rw [txD] at h
    obtain ⟨h1, h2, h3⟩ := tx_lays h
    refine ⟨by rw [PyData.canLay0]; exact h1, by rw [PyData.showable]; exact h2, ?_⟩
    rw [PyData.shown, costD]
    exact Nat.le_trans (tupleText_len_le _) (by omega)
theorem tx_lays : ∀ {ds : List D}, txDs ds = true → PyData.canLayAll0 ds = true ∧ PyData.showableAll ds = true ∧ ((PyData.shownAll ds).map (·.length)).sum + 2 * (PyData.shownAll ds).length ≤ costDs ds
  | [], _ => ⟨rfl, rfl, Nat.le_refl _⟩
  | d :: ds, h => by
    rw [txDs, Bool.and_eq_true] at h
    obtain ⟨a1, a2, a3⟩ := tx_lay h.1
    obtain ⟨b1, b2, b3⟩ := tx_lays h.2
    refine ⟨by rw [PyData.canLayAll0, a1, b1]; rfl, by rw [PyData.showableAll, a2, b2]; rfl, ?_⟩
    rw [PyData.shownAll, costDs, List.map_cons, List.sum_cons, List.length_cons]
    omega
end
end DL
set_option maxRecDepth 100000
set_option maxHeartbeats 400000
namespace DL
open PySem L2
theorem idx_of {r : List Str} (nd : r.Nodup) {i : Nat} (hi : i < r.length) : r.idxOf r[i] = i := nd.idxOf_getElem i hi
end DL
set_option maxRecDepth 100000
set_option maxHeartbeats 400000
namespace DL
open PySem L2
local macro_rules | `(tactic| walk_at "dl") => `(tactic| simp (config := { dsimp := false }) only [↓fnM_e, ↓sSeq_e, seqK_nx, seqK_rt, seqK_bk, seqK_ct, retK_rt, retK_nx, ↓sFrz_e, frK_some, ↓sAsg, ↓sRet, ↓sRetN, ↓sIf, ↓sExpr, ↓sSkip, ↓sNever, ↓sPar, ↓sFor, ↓sSub, ↓fVar, ↓fC, ↓fNil, ↓fCons, ↓fA, ↓f1, ↓f2, ↓fB, ↓fIf, ↓fNeg, ↓fNot, ↓fAnd, ↓fOr, ↓bNot, ↓bAnd, ↓bOr, ↓bYes, ↓obnd_x, ob_some, ↓sbnd_x, sb_some, ↓ite_x, iteK_t, iteK_f, gN, gT, gC, gE, ↓rng1I, ↓rng2I, ↓seqI, ↓enumA, ↓zipI, ↓strI, ↓fLc, ↓fDc, ↓fM, ↓fSl, ↓oNone, ↓oSome, ↓fRev, wipeE, ↓kwM, permM, permL, List.foldr, List.length_cons, List.length_nil, List.map_cons, List.map_nil, List.cons_append, List.nil_append, List.replicate, List.replicate_succ, List.replicate_zero, List.getElem?_cons_zero, List.getElem?_cons_succ, List.set_cons_zero, List.set_cons_succ, if_true, if_false, reduceIte, Nat.reduceAdd, Nat.reduceSub, Nat.reduceEqDiff, Nat.reduceLT, Nat.reduceLeDiff, Int.reduceLT, Int.reduceLE, Int.reduceNeg, Int.reduceMul, Int.reduceAdd, Int.reduceSub, Int.reduceToNat, Int.reducePow, Int.reduceEq, ok, bok, deref, mkL, lstW, tupW, dats, Option.map_some, appendW, insertW, setL, isL, listW, tupleW, lenW, absW, intC, maxW, minW, idxW, addW, subW_e, modW_e, divW_e, powW_e, mulW, intW, lt_e, gt_e, le_e, ge_e, ltW, allW_e, anyW_e, sumW_e, lW, setW, lstAt, cutW, backW, isW, isiW, iLT_none, iLT_bool, iLT_int, iLT_str, iLT_list, iLT_tup, iL_none, iL_bool, iL_int, iL_str, iL_list, iL_tup, iT_none, iT_bool, iT_int, iT_str, iT_list, iT_tup, iS_none, iS_bool, iS_int, iS_str, iS_list, iS_tup, iI_none, iI_bool, iI_int, iI_str, iI_list, iI_tup, iB_none, iB_bool, iB_int, iB_str, iB_list, iB_tup, Bool.false_eq_true, reduceCtorEq, Bool.not_true, Bool.not_false, decide_true, decide_false, List.zip_cons_cons, List.zip_nil_left, List.foldl_cons, List.foldl_nil, and_self, and_true, true_and, Bool.and_true, Bool.true_and, Bool.or_true, Bool.true_or, *])
def Pre (h0 h : Hh) : Prop := ∀ i : Nat, i < h0.length → h[i]? = h0[i]?
theorem Pre.only {h0 h h' : Hh} {b : Nat} (p : Pre h0 h) (hb : h0.length ≤ b) (o : Only b h h') : Pre h0 h' := fun i hi => (o.off i (by omega)).trans (p i hi)
theorem Pre.app {h0 h l : Hh} (p : Pre h0 h) (hl : h0.length ≤ h.length) : Pre h0 (h ++ l) := fun i hi => by
  rw [List.getElem?_append_left (by omega)]; exact p i hi
theorem Pre.take {h0 h : Hh} (p : Pre h0 h) (hl : h0.length ≤ h.length) : h.take h0.length = h0 := by
  apply List.ext_getElem?
  intro i
  by_cases hi : i < h0.length
  · rw [List.getElem?_take_of_lt hi]; exact p i hi
  · rw [List.getElem?_eq_none (by rw [List.length_take]; omega), List.getElem?_eq_none (by omega)]
end DL
set_option maxRecDepth 100000
set_option maxHeartbeats 400000
namespace DL
open PySem L2
local macro_rules | `(tactic| walk_at "dl") => `(tactic| simp (config := { dsimp := false }) only [↓fnM_e, ↓sSeq_e, seqK_nx, seqK_rt, seqK_bk, seqK_ct, retK_rt, retK_nx, ↓sFrz_e, frK_some, ↓sAsg, ↓sRet, ↓sRetN, ↓sIf, ↓sExpr, ↓sSkip, ↓sNever, ↓sPar, ↓sFor, ↓sSub, ↓fVar, ↓fC, ↓fNil, ↓fCons, ↓fA, ↓f1, ↓f2, ↓fB, ↓fIf, ↓fNeg, ↓fNot, ↓fAnd, ↓fOr, ↓bNot, ↓bAnd, ↓bOr, ↓bYes, ↓obnd_x, ob_some, ↓sbnd_x, sb_some, ↓ite_x, iteK_t, iteK_f, gN, gT, gC, gE, ↓rng1I, ↓rng2I, ↓seqI, ↓enumA, ↓zipI, ↓strI, ↓fLc, ↓fDc, ↓fM, ↓fSl, ↓oNone, ↓oSome, ↓fRev, wipeE, ↓kwM, permM, permL, List.foldr, List.length_cons, List.length_nil, List.map_cons, List.map_nil, List.cons_append, List.nil_append, List.replicate, List.replicate_succ, List.replicate_zero, List.getElem?_cons_zero, List.getElem?_cons_succ, List.set_cons_zero, List.set_cons_succ, if_true, if_false, reduceIte, Nat.reduceAdd, Nat.reduceSub, Nat.reduceEqDiff, Nat.reduceLT, Nat.reduceLeDiff, Int.reduceLT, Int.reduceLE, Int.reduceNeg, Int.reduceMul, Int.reduceAdd, Int.reduceSub, Int.reduceToNat, Int.reducePow, Int.reduceEq, ok, bok, deref, mkL, lstW, tupW, dats, Option.map_some, appendW, insertW, setL, isL, listW, tupleW, lenW, absW, intC, maxW, minW, idxW, addW, subW_e, modW_e, divW_e, powW_e, mulW, intW, lt_e, gt_e, le_e, ge_e, ltW, allW_e, anyW_e, sumW_e, lW, setW, lstAt, cutW, backW, isW, isiW, iLT_none, iLT_bool, iLT_int, iLT_str, iLT_list, iLT_tup, iL_none, iL_bool, iL_int, iL_str, iL_list, iL_tup, iT_none, iT_bool, iT_int, iT_str, iT_list, iT_tup, iS_none, iS_bool, iS_int, iS_str, iS_list, iS_tup, iI_none, iI_bool, iI_int, iI_str, iI_list, iI_tup, iB_none, iB_bool, iB_int, iB_str, iB_list, iB_tup, Bool.false_eq_true, reduceCtorEq, Bool.not_true, Bool.not_false, decide_true, decide_false, List.zip_cons_cons, List.zip_nil_left, List.foldl_cons, List.foldl_nil, and_self, and_true, true_and, Bool.and_true, Bool.true_and, Bool.or_true, Bool.true_or, *])
def prW (l : Bool) (p : Str × Str) : D := if l = true then .list [.str p.1, .str p.2] else .tuple [.str p.1, .str p.2]
abbrev prT (p : Str × Str) : D := .tuple [.str p.1, .str p.2]
def tld (ps : List (Str × Str)) : List (Str × D) := ps.map fun p => (p.1, .str p.2)
theorem tld_keys (ps : List (Str × Str)) : (tld ps).map (·.1) = ps.map (·.1) := by simp [tld]
def unP : D → Str × D
  | .tuple [.str a, d] => (a, d)
  | .list [.str a, d] => (a, d)
  | _ => ("", .none)
theorem unP_map (l : Bool) (ps : List (Str × Str)) : (ps.map (prW l)).map unP = tld ps := by
  rw [List.map_map]
  unfold tld
  apply List.map_congr_left
  intro p _
  cases l <;> rfl
theorem by_names_ok {x : D} {l : Bool} {ps : List (Str × Str)} {h : Hh} (hx : IsSeq x (ps.map (prW l))) (nd : (ps.map (·.1)).Nodup) (hl : ps.length ≤ 1000) : m_by_names [.dat x] h = some (.dat (.dict (sdic (tld ps))), h) := by
  have e := dcL_sdic (k := gT 2 (gC (gN 1) (gC (gN 2) gE))) (fk := fVar 1) (fv := fVar 2) (ρ := [some (.dat x), none, none]) (h := h) unP (ds := ps.map (prW l)) (l := []) (by rw [List.nil_append, unP_map, tld_keys]; exact nd)
    (by rw [List.nil_append, List.length_map, List.length_map]; exact Nat.le_trans hl (by decide)) (by
      intro d hd
      obtain ⟨p, _, rfl⟩ := List.mem_map.mp hd
      refine ⟨[some (.dat x), some (.dat (.str p.1)), some (.dat (.str p.2))], ?_, ?_, ?_⟩
      · clear hx hd
        cases l <;> (unfold prW; walk_at "dl")
      · cases l <;> rfl
      · cases l <;> rfl)
  rw [List.nil_append, unP_map] at e
  have e' : dcL (gT 2 (gC (gN 1) (gC (gN 2) gE))) bYes (fVar 1) (fVar 2) [some (.dat x), none, none] (ps.map (prW l)) [] h = some (sdic (tld ps), h) := e
  have lv := leave_same' (h := h) (d := .dict (sdic (tld ps)))
  unfold m_by_names
  clear nd hl e
  rcases hx with rfl | rfl <;> (walk_at "dl"; simp only [mkK, Bool.false_eq_true, if_false, obnd_some, retK_rt]; walk_at "dl")
theorem people_ok {x : D} {l : Bool} {ps : List (Str × Str)} {h : Hh} (hx : IsSeq x (ps.map (prW l))) (hl : ps.length ≤ 1000) : m_people [.dat x] h = some (.dat (.tuple ((ps.map (·.1)).map .str)), h) := by
  have e : lcL (gT 2 (gC (gN 1) (gC (gN 2) gE))) bYes (fVar 1) [some (.dat x), none, none] (ps.map (prW l)) h = some ((ps.map (·.1)).map .str, h) := by
    rw [lcL_all (fun d => .str (unP d).1)]
    · rw [List.map_map, List.map_map]
      congr 2
      apply List.map_congr_left
      intro p _
      cases l <;> rfl
    · intro d hd
      obtain ⟨p, _, rfl⟩ := List.mem_map.mp hd
      refine ⟨[some (.dat x), some (.dat (.str p.1)), some (.dat (.str p.2))], ?_, rfl, ?_⟩
      · clear hx hd
        cases l <;> (unfold prW; walk_at "dl")
      · cases l <;> rfl
  have l1 : ((ps.map (·.1)).map PyData.str).length ≤ sizeLine := by rw [List.length_map, List.length_map]; exact Nat.le_trans hl (by decide)
  have lv := leave_same' (h := h) (d := .tuple ((ps.map (·.1)).map .str))
  unfold m_people
  clear hl
  rcases hx with rfl | rfl <;> walk_at "dl"
end DL
set_option maxRecDepth 100000
set_option maxHeartbeats 400000
namespace DL
open PySem L2
local macro_rules | `(tactic| walk_at "dl") => `(tactic| simp (config := { dsimp := false }) only [↓fnM_e, ↓sSeq_e, seqK_nx, seqK_rt, seqK_bk, seqK_ct, retK_rt, retK_nx, ↓sFrz_e, frK_some, ↓sAsg, ↓sRet, ↓sRetN, ↓sIf, ↓sExpr, ↓sSkip, ↓sNever, ↓sPar, ↓sFor, ↓sSub, ↓fVar, ↓fC, ↓fNil, ↓fCons, ↓fA, ↓f1, ↓f2, ↓fB, ↓fIf, ↓fNeg, ↓fNot, ↓fAnd, ↓fOr, ↓bNot, ↓bAnd, ↓bOr, ↓bYes, ↓obnd_x, ob_some, ↓sbnd_x, sb_some, ↓ite_x, iteK_t, iteK_f, gN, gT, gC, gE, ↓rng1I, ↓rng2I, ↓seqI, ↓enumA, ↓zipI, ↓strI, ↓fLc, ↓fDc, ↓fM, ↓fSl, ↓oNone, ↓oSome, ↓fRev, wipeE, ↓kwM, permM, permL, List.foldr, List.length_cons, List.length_nil, List.map_cons, List.map_nil, List.cons_append, List.nil_append, List.replicate, List.replicate_succ, List.replicate_zero, List.getElem?_cons_zero, List.getElem?_cons_succ, List.set_cons_zero, List.set_cons_succ, if_true, if_false, reduceIte, Nat.reduceAdd, Nat.reduceSub, Nat.reduceEqDiff, Nat.reduceLT, Nat.reduceLeDiff, Int.reduceLT, Int.reduceLE, Int.reduceNeg, Int.reduceMul, Int.reduceAdd, Int.reduceSub, Int.reduceToNat, Int.reducePow, Int.reduceEq, ok, bok, deref, mkL, lstW, tupW, dats, Option.map_some, appendW, insertW, setL, isL, listW, tupleW, lenW, absW, intC, maxW, minW, idxW, addW, subW_e, modW_e, divW_e, powW_e, mulW, intW, lt_e, gt_e, le_e, ge_e, ltW, allW_e, anyW_e, sumW_e, lW, setW, lstAt, cutW, backW, isW, isiW, iLT_none, iLT_bool, iLT_int, iLT_str, iLT_list, iLT_tup, iL_none, iL_bool, iL_int, iL_str, iL_list, iL_tup, iT_none, iT_bool, iT_int, iT_str, iT_list, iT_tup, iS_none, iS_bool, iS_int, iS_str, iS_list, iS_tup, iI_none, iI_bool, iI_int, iI_str, iI_list, iI_tup, iB_none, iB_bool, iB_int, iB_str, iB_list, iB_tup, Bool.false_eq_true, reduceCtorEq, Bool.not_true, Bool.not_false, decide_true, decide_false, List.zip_cons_cons, List.zip_nil_left, List.foldl_cons, List.foldl_nil, and_self, and_true, true_and, Bool.and_true, Bool.true_and, Bool.or_true, Bool.true_or, *])
def goal (ps : List (Str × Str)) (s : Str) : Str := (ps.lookup s).getD s
def keyN (r : List Str) (ps : List (Str × Str)) (s : Str) : Nat × Nat := (r.idxOf (goal ps s), r.idxOf s)
def leK (a b : Nat × Nat) : Bool := decide (a.1 < b.1 ∨ (a.1 = b.1 ∧ a.2 ≤ b.2))
def led (r : List Str) (ps : List (Str × Str)) : List Str := r.mergeSort fun a b => leK (keyN r ps a) (keyN r ps b)
structure CallOf (r : List Str) (ps : List (Str × Str)) : Prop where
  perm : (ps.map (·.1)).Perm r
  tgt : ∀ p ∈ ps, p.2 ∈ r
theorem CallOf.nodup {r : List Str} {ps : List (Str × Str)} (c : CallOf r ps) (nd : r.Nodup) : (ps.map (·.1)).Nodup := c.perm.nodup_iff.mpr nd
theorem CallOf.of_perm {r r' : List Str} {ps : List (Str × Str)} (c : CallOf r ps) (p : r.Perm r') : CallOf r' ps := ⟨c.perm.trans p, fun q hq => p.mem_iff.mp (c.tgt q hq)⟩
theorem look_tld : ∀ (ps : List (Str × Str)) (s : Str), (tld ps).lookup s = (ps.lookup s).map .str
  | [], s => rfl
  | (a, b) :: ps, s => by
    have ih := look_tld ps s
    unfold tld at ih ⊢
    rw [List.map_cons, List.lookup_cons, List.lookup_cons]
    cases s == a with
    | true => rfl
    | false => exact ih
theorem look_mem : ∀ {ps : List (Str × Str)} {s : Str}, s ∈ ps.map (·.1) → ∃ t, ps.lookup s = some t ∧ (s, t) ∈ ps
  | [], s, h => by cases h
  | (a, b) :: ps, s, h => by
    rw [List.lookup_cons]
    cases e : s == a with
    | true =>
      have : s = a := by simpa using e
      subst this
      exact ⟨b, rfl, List.mem_cons_self⟩
    | false =>
      have hne : s ≠ a := by simpa using e
      rw [List.map_cons] at h
      rcases List.mem_cons.mp h with z | h
      · exact absurd z hne
      · obtain ⟨t, h1, h2⟩ := look_mem h
        exact ⟨t, h1, List.mem_cons_of_mem _ h2⟩
theorem CallOf.goal_mem {r : List Str} {ps : List (Str × Str)} (c : CallOf r ps) {s : Str} (hs : s ∈ r) : ps.lookup s = some (goal ps s) ∧ goal ps s ∈ r := by
  obtain ⟨t, h1, h2⟩ := look_mem (c.perm.mem_iff.mpr hs)
  have e : goal ps s = t := by unfold goal; rw [h1]; rfl
  rw [e]
  exact ⟨h1, c.tgt _ h2⟩
end DL
set_option maxRecDepth 100000
set_option maxHeartbeats 400000
namespace DL
open PySem L2
local macro_rules | `(tactic| walk_at "dl") => `(tactic| simp (config := { dsimp := false }) only [↓fnM_e, ↓sSeq_e, seqK_nx, seqK_rt, seqK_bk, seqK_ct, retK_rt, retK_nx, ↓sFrz_e, frK_some, ↓sAsg, ↓sRet, ↓sRetN, ↓sIf, ↓sExpr, ↓sSkip, ↓sNever, ↓sPar, ↓sFor, ↓sSub, ↓fVar, ↓fC, ↓fNil, ↓fCons, ↓fA, ↓f1, ↓f2, ↓fB, ↓fIf, ↓fNeg, ↓fNot, ↓fAnd, ↓fOr, ↓bNot, ↓bAnd, ↓bOr, ↓bYes, ↓obnd_x, ob_some, ↓sbnd_x, sb_some, ↓ite_x, iteK_t, iteK_f, gN, gT, gC, gE, ↓rng1I, ↓rng2I, ↓seqI, ↓enumA, ↓zipI, ↓strI, ↓fLc, ↓fDc, ↓fM, ↓fSl, ↓oNone, ↓oSome, ↓fRev, wipeE, ↓kwM, permM, permL, List.foldr, List.length_cons, List.length_nil, List.map_cons, List.map_nil, List.cons_append, List.nil_append, List.replicate, List.replicate_succ, List.replicate_zero, List.getElem?_cons_zero, List.getElem?_cons_succ, List.set_cons_zero, List.set_cons_succ, if_true, if_false, reduceIte, Nat.reduceAdd, Nat.reduceSub, Nat.reduceEqDiff, Nat.reduceLT, Nat.reduceLeDiff, Int.reduceLT, Int.reduceLE, Int.reduceNeg, Int.reduceMul, Int.reduceAdd, Int.reduceSub, Int.reduceToNat, Int.reducePow, Int.reduceEq, ok, bok, deref, mkL, lstW, tupW, dats, Option.map_some, appendW, insertW, setL, isL, listW, tupleW, lenW, absW, intC, maxW, minW, idxW, addW, subW_e, modW_e, divW_e, powW_e, mulW, intW, lt_e, gt_e, le_e, ge_e, ltW, allW_e, anyW_e, sumW_e, lW, setW, lstAt, cutW, backW, isW, isiW, iLT_none, iLT_bool, iLT_int, iLT_str, iLT_list, iLT_tup, iL_none, iL_bool, iL_int, iL_str, iL_list, iL_tup, iT_none, iT_bool, iT_int, iT_str, iT_list, iT_tup, iS_none, iS_bool, iS_int, iS_str, iS_list, iS_tup, iI_none, iI_bool, iI_int, iI_str, iI_list, iI_tup, iB_none, iB_bool, iB_int, iB_str, iB_list, iB_tup, Bool.false_eq_true, reduceCtorEq, Bool.not_true, Bool.not_false, decide_true, decide_false, List.zip_cons_cons, List.zip_nil_left, List.foldl_cons, List.foldl_nil, and_self, and_true, true_and, Bool.and_true, Bool.true_and, Bool.or_true, Bool.true_or, *])
theorem prW_false : prW false = prT := by funext p; rfl
theorem of_ok {x : D} {ds : List D} {h : Hh} {b c : Nat} (hx : IsSeq x ds) (hb : BoxAt h b c) (hc : c < 1000000000) (h0 : 0 < ds.length) (h1 : ds.length ≤ 1000) :
    ∃ d h', m__law_of [.ref b, .dat x] h = some (.dat d, h') ∧ d ∈ ds ∧ BoxAt h' b (c + 1) ∧ Only b h h' := by
  obtain ⟨r, h', e, r0, r1, b1, o1⟩ := take_ok (n := (ds.length : Int)) hb (by omega) (by omega) (by omega)
  have hr : r.toNat < ds.length := by omega
  have e2 : L2.atI ds r = some ds[r.toNat] := by
    have := atI_nat (xs := ds) (j := r.toNat) (List.getElem?_eq_getElem hr)
    rwa [show ((r.toNat : Nat) : Int) = r by omega] at this
  obtain ⟨d, hd, e3⟩ : ∃ d, d ∈ ds ∧ L2.atI ds r = some d := ⟨_, List.getElem_mem hr, e2⟩
  refine ⟨d, h', ?_, hd, b1, o1⟩
  have lv := leave_dat' (d := d) hb b1 o1
  unfold m__law_of
  clear e2 hd hb b1 o1 r0 r1 hr h0 h1 hc
  rcases hx with rfl | rfl <;> walk_at "dl"
end DL
set_option maxRecDepth 100000
set_option maxHeartbeats 400000
namespace DL
open PySem L2
local macro_rules | `(tactic| walk_at "dl") => `(tactic| simp (config := { dsimp := false }) only [↓fnM_e, ↓sSeq_e, seqK_nx, seqK_rt, seqK_bk, seqK_ct, retK_rt, retK_nx, ↓sFrz_e, frK_some, ↓sAsg, ↓sRet, ↓sRetN, ↓sIf, ↓sExpr, ↓sSkip, ↓sNever, ↓sPar, ↓sFor, ↓sSub, ↓fVar, ↓fC, ↓fNil, ↓fCons, ↓fA, ↓f1, ↓f2, ↓fB, ↓fIf, ↓fNeg, ↓fNot, ↓fAnd, ↓fOr, ↓bNot, ↓bAnd, ↓bOr, ↓bYes, ↓obnd_x, ob_some, ↓sbnd_x, sb_some, ↓ite_x, iteK_t, iteK_f, gN, gT, gC, gE, ↓rng1I, ↓rng2I, ↓seqI, ↓enumA, ↓zipI, ↓strI, ↓fLc, ↓fDc, ↓fM, ↓fSl, ↓oNone, ↓oSome, ↓fRev, wipeE, ↓kwM, permM, permL, List.foldr, List.length_cons, List.length_nil, List.map_cons, List.map_nil, List.cons_append, List.nil_append, List.replicate, List.replicate_succ, List.replicate_zero, List.getElem?_cons_zero, List.getElem?_cons_succ, List.set_cons_zero, List.set_cons_succ, if_true, if_false, reduceIte, Nat.reduceAdd, Nat.reduceSub, Nat.reduceEqDiff, Nat.reduceLT, Nat.reduceLeDiff, Int.reduceLT, Int.reduceLE, Int.reduceNeg, Int.reduceMul, Int.reduceAdd, Int.reduceSub, Int.reduceToNat, Int.reducePow, Int.reduceEq, ok, bok, deref, mkL, lstW, tupW, dats, Option.map_some, appendW, insertW, setL, isL, listW, tupleW, lenW, absW, intC, maxW, minW, idxW, addW, subW_e, modW_e, divW_e, powW_e, mulW, intW, lt_e, gt_e, le_e, ge_e, ltW, allW_e, anyW_e, sumW_e, lW, setW, lstAt, cutW, backW, isW, isiW, iLT_none, iLT_bool, iLT_int, iLT_str, iLT_list, iLT_tup, iL_none, iL_bool, iL_int, iL_str, iL_list, iL_tup, iT_none, iT_bool, iT_int, iT_str, iT_list, iT_tup, iS_none, iS_bool, iS_int, iS_str, iS_list, iS_tup, iI_none, iI_bool, iI_int, iI_str, iI_list, iI_tup, iB_none, iB_bool, iB_int, iB_str, iB_list, iB_tup, Bool.false_eq_true, reduceCtorEq, Bool.not_true, Bool.not_false, decide_true, decide_false, List.zip_cons_cons, List.zip_nil_left, List.foldl_cons, List.foldl_nil, and_self, and_true, true_and, Bool.and_true, Bool.true_and, Bool.or_true, Bool.true_or, *])
noncomputable def askBody : SM := sSeq (sPar (fCons (fA (m__law_of) (fCons (fVar 0) (fCons (fVar 3) (fNil)))) (fCons (fA (m__law_of) (fCons (fVar 0) (fCons (fVar 5) (fNil)))) (fNil))) [10, 11])
    (sSeq (sAsg (fIf (fB (f2 (eqW false) (fA (m__law_take) (fCons (fVar 0) (fCons (fC (.int 4)) (fNil)))) (fC (.int 0)))) (fVar 10) (fVar 8)) (gN 9))
    (sExpr (fM isL appendW (fVar 2) (fCons (fA tupW (fCons (fVar 8) (fCons (f2 idxW (fA (lstW false) (fCons (fVar 10) (fCons (fVar 10) (fCons (fVar 11) (fCons (fVar 9) (fCons (f2 idxW (fVar 6) (fVar 7)) (fCons (fVar 11) (fNil)))))))) (fVar 4)) (fNil)))) (fNil)))))
theorem eqW_ints {neg : Bool} {i j : Int} {h : Hh} : eqW neg (.dat (.int i)) (.dat (.int j)) h = bok (if neg = true then !decide (i = j) else decide (i = j)) h := by
  rfl
theorem ask_turn {b p : Nat} {x : W} {folk some_ swap fs : List D} {so j r : Int} {a n m w t : Str} {v9 v10 v11 : Option W} {g g1 g2 g3 : Hh} (e1 : m__law_of [.ref b, .dat (.list folk)] g = some (.dat (.str a), g1)) (e2 : m__law_of [.ref b, .dat (.list some_)] g1 = some (.dat (.str n), g2))
    (e3 : m__law_take [.ref b, .dat (.int 4)] g2 = some (.dat (.int r), g3)) (e5 : L2.atI swap j = some (.str w)) (e6 : L2.atI [PyData.str a, .str a, .str n, (if decide (r = 0) = true then .str a else .str m), .str w, .str n] so = some (.str t)) (hg : g3[p]? = some (some (.lst fs))) (hl : fs.length < sizeLine) :
    ∃ v9' : Option W, askBody [some (.ref b), some x, some (.ref p), some (.dat (.list folk)), some (.dat (.int so)), some (.dat (.list some_)), some (.dat (.list swap)), some (.dat (.int j)), some (.dat (.str m)), v9, v10, v11] g =
      some (.nx [some (.ref b), some x, some (.ref p), some (.dat (.list folk)), some (.dat (.int so)), some (.dat (.list some_)), some (.dat (.list swap)), some (.dat (.int j)), some (.dat (.str m)), v9', some (.dat (.str a)), some (.dat (.str n))], g3.set p (some (.lst (fs ++ [.tuple [.str m, .str t]])))) ∧ ∀ k, isR k v9' = false := by
  have e4 := eqW_ints (neg := false) (i := r) (j := 0) (h := g3)
  have c2 : 2 ≤ sizeLine := by decide
  have c6 : 6 ≤ sizeLine := by decide
  unfold askBody
  cases hz : decide (r = 0) with
  | true =>
    rw [hz] at e4 e6
    refine ⟨some (.dat (.str a)), ?_, fun _ => rfl⟩
    clear hz
    simp only [if_true] at e6
    walk_at "dl"
  | false =>
    rw [hz] at e4 e6
    refine ⟨some (.dat (.str m)), ?_, fun _ => rfl⟩
    clear hz
    simp only [Bool.false_eq_true, if_false] at e6
    walk_at "dl"
theorem cut_to {α : Type} (xs : List α) {k : Nat} : cutG xs none (some (k : Int)) = xs.take k := by
  have e : HT.sIx xs.length xs.length (some (k : Int)) = min k xs.length := HT.sIx_nat _ _ _
  have e0 : HT.sIx xs.length 0 none = 0 := rfl
  unfold cutG
  rw [e, e0]
  simp only [List.drop_zero, Nat.sub_zero]
  rw [List.take_eq_take_iff]
  omega
end DL
set_option maxRecDepth 100000
set_option maxHeartbeats 400000
namespace DL
open PySem L2
local macro_rules | `(tactic| walk_at "dl") => `(tactic| simp (config := { dsimp := false }) only [↓fnM_e, ↓sSeq_e, seqK_nx, seqK_rt, seqK_bk, seqK_ct, retK_rt, retK_nx, ↓sFrz_e, frK_some, ↓sAsg, ↓sRet, ↓sRetN, ↓sIf, ↓sExpr, ↓sSkip, ↓sNever, ↓sPar, ↓sFor, ↓sSub, ↓fVar, ↓fC, ↓fNil, ↓fCons, ↓fA, ↓f1, ↓f2, ↓fB, ↓fIf, ↓fNeg, ↓fNot, ↓fAnd, ↓fOr, ↓bNot, ↓bAnd, ↓bOr, ↓bYes, ↓obnd_x, ob_some, ↓sbnd_x, sb_some, ↓ite_x, iteK_t, iteK_f, gN, gT, gC, gE, ↓rng1I, ↓rng2I, ↓seqI, ↓enumA, ↓zipI, ↓strI, ↓fLc, ↓fDc, ↓fM, ↓fSl, ↓oNone, ↓oSome, ↓fRev, wipeE, ↓kwM, permM, permL, List.foldr, List.length_cons, List.length_nil, List.map_cons, List.map_nil, List.cons_append, List.nil_append, List.replicate, List.replicate_succ, List.replicate_zero, List.getElem?_cons_zero, List.getElem?_cons_succ, List.set_cons_zero, List.set_cons_succ, if_true, if_false, reduceIte, Nat.reduceAdd, Nat.reduceSub, Nat.reduceEqDiff, Nat.reduceLT, Nat.reduceLeDiff, Int.reduceLT, Int.reduceLE, Int.reduceNeg, Int.reduceMul, Int.reduceAdd, Int.reduceSub, Int.reduceToNat, Int.reducePow, Int.reduceEq, ok, bok, deref, mkL, lstW, tupW, dats, Option.map_some, appendW, insertW, setL, isL, listW, tupleW, lenW, absW, intC, maxW, minW, idxW, addW, subW_e, modW_e, divW_e, powW_e, mulW, intW, lt_e, gt_e, le_e, ge_e, ltW, allW_e, anyW_e, sumW_e, lW, setW, lstAt, cutW, backW, isW, isiW, iLT_none, iLT_bool, iLT_int, iLT_str, iLT_list, iLT_tup, iL_none, iL_bool, iL_int, iL_str, iL_list, iL_tup, iT_none, iT_bool, iT_int, iT_str, iT_list, iT_tup, iS_none, iS_bool, iS_int, iS_str, iS_list, iS_tup, iI_none, iI_bool, iI_int, iI_str, iI_list, iI_tup, iB_none, iB_bool, iB_int, iB_str, iB_list, iB_tup, Bool.false_eq_true, reduceCtorEq, Bool.not_true, Bool.not_false, decide_true, decide_false, List.zip_cons_cons, List.zip_nil_left, List.foldl_cons, List.foldl_nil, and_self, and_true, true_and, Bool.and_true, Bool.true_and, Bool.or_true, Bool.true_or, *])
theorem ask_run {h g1 g2 g3 g4 g5 : Hh} {b p : Nat} {x : D} {folk st sw ps : List D} {r6 r3 : Int} {k3 : Nat} {v7 v8 v9 v10 v11 : Option W} (e0 : sortW false [.dat x] h = some (.dat (.list folk), h)) (e1 : m__law_take [.ref b, .dat (.int 6)] h = some (.dat (.int r6), g1))
    (e2 : m__law_strewn [.ref b, .dat (.list folk)] g1 = some (.dat (.list st), g2)) (e3 : m__law_take [.ref b, .dat (.int 3)] g2 = some (.dat (.int r3), g3)) (hk : 1 + r3 = (k3 : Int)) (e4 : m__law_strewn [.ref b, .dat (.list folk)] g3 = some (.dat (.list sw), g4)) (hp : p = g4.length)
    (key : forL (gT 2 (gC (gN 7) (gC (gN 8) (gE)))) askBody (enumD 0 folk) [some (.ref b), some (.dat x), some (.ref p), some (.dat (.list folk)), some (.dat (.int r6)), some (.dat (.list (st.take k3))), some (.dat (.list sw)), none, none, none, none, none] (g4 ++ [some (.lst [])]) =
      some (.nx [some (.ref b), some (.dat x), some (.ref p), some (.dat (.list folk)), some (.dat (.int r6)), some (.dat (.list (st.take k3))), some (.dat (.list sw)), v7, v8, v9, v10, v11], g5))
    (h7 : ∀ n, isR n v7 = false) (h8 : ∀ n, isR n v8 = false) (h9 : ∀ n, isR n v9 = false) (h10 : ∀ n, isR n v10 = false) (h11 : ∀ n, isR n v11 = false) (hg : g5[p]? = some (some (.lst ps))) (hbp : (b = p) = False) :
    m__law_ask [.ref b, .dat x] h = leave false h (.dat (.tuple ps)) (g5.set p none) := by
  have c8 : 0 ≤ sizeLine := Nat.zero_le _
  have ct := cut_to st (k := k3)
  have hf : frz 2 [some (.ref b), some (.dat x), some (.ref p), some (.dat (.list folk)), some (.dat (.int r6)), some (.dat (.list (st.take k3))), some (.dat (.list sw)), v7, v8, v9, v10, v11] g5 =
      some ([some (.ref b), some (.dat x), some (.dat (.list ps)), some (.dat (.list folk)), some (.dat (.int r6)), some (.dat (.list (st.take k3))), some (.dat (.list sw)), v7, v8, v9, v10, v11], g5.set p none) := by
    unfold frz
    simp only [List.getElem?_cons_zero, List.getElem?_cons_succ, hg, List.set_cons_zero, List.set_cons_succ, List.any_cons, List.any_nil, h7, h8, h9, h10, h11, isR_ref, isR_dat, isR_none, hbp, decide_false, Bool.or_false, isTab, Bool.false_eq_true, if_false, moD]
  unfold askBody at key
  subst hp
  unfold m__law_ask
  clear h7 h8 h9 h10 h11 hg hbp
  walk_at "dl"
theorem enum_get {r : List Str} {j : Nat} {d : D} (e : (enumD 0 (r.map .str))[j]? = some d) : ∃ hj : j < r.length, d = .tuple [.int (j : Int), .str r[j]] := by
  obtain ⟨s, hs, rfl⟩ := enumD_get e
  rw [List.getElem?_map] at hs
  cases q : r[j]? with
  | none => rw [q] at hs; cases hs
  | some t =>
    rw [q] at hs
    obtain ⟨hj, rfl⟩ := List.getElem?_eq_some_iff.mp q
    cases hs
    exact ⟨hj, by rw [Nat.zero_add]⟩
theorem atI_strs {l : List Str} {j : Nat} (hj : j < l.length) : L2.atI (l.map PyData.str) (j : Int) = some (.str l[j]) :=
  atI_nat (xs := l.map PyData.str) (j := j) (by rw [List.getElem?_map, List.getElem?_eq_getElem hj]; rfl)
theorem app_take {g : Hh} {o : Option MO} {n : Nat} (e : g.length = n) : (g ++ [o]).take n = g := by
  rw [← e, List.take_append_of_le_length (Nat.le_refl _), List.take_length]
theorem app_get {g : Hh} {o : Option MO} {n : Nat} (e : g.length = n) : (g ++ [o])[n]? = some o := by
  rw [List.getElem?_append_right (by omega), e]; simp
theorem app_set {g : Hh} {o o' : Option MO} {n : Nat} (e : g.length = n) : (g ++ [o]).set n o' = g ++ [o'] := by
  rw [List.set_append_right _ _ (by omega), show n - g.length = 0 by omega]; rfl
theorem ask_ok {x : D} {l : List Str} {h : Hh} {b c : Nat} (hx : IsSeq x (l.map .str)) (ht : Txts l) (hb : BoxAt h b c) (hc : c < 1000000) (h0 : 0 < l.length) (h1 : l.length ≤ 1000) :
    ∃ (ps : List (Str × Str)) (h' : Hh), m__law_ask [.ref b, .dat x] h = some (.dat (.tuple (ps.map prT)), h') ∧ ps.map (·.1) = sortS l ∧ (∀ p ∈ ps, p.2 ∈ l) ∧ BoxAt h' b (c + 2 + 5 * l.length) ∧ Only b h h' := by
  have hz : sizeLine = 16777216 := by rfl
  have e0 := sortW_strs (h := h) hx ht
  have sp := sortS_perm l
  have sl := sp.length_eq
  obtain ⟨r6, g1, e1, p1, q1, b1, o1⟩ := take_ok (n := 6) hb (by omega) (by omega) (by omega)
  obtain ⟨st', g2, e2, pm2, b2, o2⟩ := strewn_ok (x := .list ((sortS l).map .str)) (.inl rfl) b1 (by rw [List.length_map]; omega) (by rw [List.length_map]; omega)
  obtain ⟨st, rfl, ps2⟩ := perm_strs pm2
  obtain ⟨r3, g3, e3, p3, q3, b3, o3⟩ := take_ok (n := 3) b2 (by rw [List.length_map]; omega) (by omega) (by omega)
  obtain ⟨sw', g4, e4, pm4, b4, o4⟩ := strewn_ok (x := .list ((sortS l).map .str)) (.inl rfl) b3 (by rw [List.length_map]; omega) (by rw [List.length_map]; omega)
  obtain ⟨sw, rfl, ps4⟩ := perm_strs pm4
  obtain ⟨k3, hk, hk1⟩ : ∃ k3 : Nat, 1 + r3 = (k3 : Int) ∧ 0 < k3 := ⟨(1 + r3).toNat, by omega, by omega⟩
  have b4' : BoxAt g4 b (c + 2 + 2 * l.length) := b4.mono (by rw [List.length_map]; omega)
  have on4 := o1.trans (o2.trans (o3.trans o4))
  have lb := b4.lt
  have swl := ps4.length_eq
  have stl := ps2.length_eq
  have st3 : (st.map PyData.str).take k3 = (st.take k3).map .str := List.map_take.symm
  have st3l : 0 < (st.take k3).length := by rw [List.length_take]; omega
  have st3m : (st.take k3).length ≤ 1000 := by rw [List.length_take]; omega
  have key := forL_inv (k := gT 2 (gC (gN 7) (gC (gN 8) (gE)))) (body := askBody)
    (fun n ρ g => ∃ (v7 v8 v9 v10 v11 : Option W) (ps : List (Str × Str)) (g' : Hh), (∀ n, isR n v7 = false) ∧ (∀ n, isR n v8 = false) ∧ (∀ n, isR n v9 = false) ∧ (∀ n, isR n v10 = false) ∧ (∀ n, isR n v11 = false) ∧
      ρ = [some (.ref b), some (.dat x), some (.ref g4.length), some (.dat (.list ((sortS l).map .str))), some (.dat (.int r6)), some (.dat (.list ((st.take k3).map .str))), some (.dat (.list (sw.map .str))), v7, v8, v9, v10, v11] ∧ g = g' ++ [some (.lst (ps.map prT))] ∧
      ps.map (·.1) = (sortS l).take n ∧ (∀ p ∈ ps, p.2 ∈ l) ∧ BoxAt g' b (c + 2 + 2 * l.length + 3 * n) ∧ Only b g4 g') (ds := enumD 0 ((sortS l).map .str)) (n := 0)
    (ρ := [some (.ref b), some (.dat x), some (.ref g4.length), some (.dat (.list ((sortS l).map .str))), some (.dat (.int r6)), some (.dat (.list ((st.take k3).map .str))), some (.dat (.list (sw.map .str))), none, none, none, none, none]) (h := g4 ++ [some (.lst [])])
    ⟨none, none, none, none, none, [], g4, fun _ => rfl, fun _ => rfl, fun _ => rfl, fun _ => rfl, fun _ => rfl, rfl, rfl, rfl, by simp, b4', .refl _ _⟩ (by
      intro j d ej ρ g hi
      obtain ⟨v7, v8, v9, v10, v11, ps, g', i7, i8, i9, i10, i11, rfl, rfl, pf, pt, bx, on⟩ := hi
      obtain ⟨hj, rfl⟩ := enum_get ej
      rw [Nat.zero_add] at pf bx ⊢
      obtain ⟨d1, k1, f1, m1, bx1, on1⟩ := of_ok (x := .list ((sortS l).map .str)) (.inl rfl) (box_app (l := [some (.lst (ps.map prT))]) bx) (by omega) (by rw [List.length_map]; omega) (by rw [List.length_map]; omega)
      obtain ⟨a, ha, rfl⟩ := List.mem_map.mp m1
      obtain ⟨d2, k2, f2, m2, bx2, on2⟩ := of_ok (x := .list ((st.take k3).map .str)) (.inl rfl) bx1 (by omega) (by rw [List.length_map]; omega) (by rw [List.length_map]; omega)
      obtain ⟨n, hn, rfl⟩ := List.mem_map.mp m2
      obtain ⟨r4, g3', f3, p4, q4, bx3, on3⟩ := take_ok (n := 4) bx2 (by omega) (by omega) (by omega)
      obtain ⟨onA, gA, rfl, gAl⟩ := only_app bx.lt (on1.trans (on2.trans on3))
      have gl := on.len
      have hla : a ∈ l := sp.mem_iff.mp ha
      have hln : n ∈ l := sp.mem_iff.mp (ps2.mem_iff.mp (List.mem_of_mem_take hn))
      have hlm : (sortS l)[j] ∈ l := sp.mem_iff.mp (List.getElem_mem hj)
      have hlw : sw[j]'(by omega) ∈ l := sp.mem_iff.mp (ps4.mem_iff.mp (List.getElem_mem _))
      obtain ⟨t, htl, e6⟩ : ∃ t, t ∈ l ∧ L2.atI [PyData.str a, .str a, .str n, (if decide (r4 = 0) = true then .str a else .str (sortS l)[j]), .str (sw[j]'(by omega)), .str n] r6 = some (.str t) := by
        have : r6 = 0 ∨ r6 = 1 ∨ r6 = 2 ∨ r6 = 3 ∨ r6 = 4 ∨ r6 = 5 := by omega
        rcases this with rfl | rfl | rfl | rfl | rfl | rfl
        · exact ⟨_, hla, rfl⟩
        · exact ⟨_, hla, rfl⟩
        · exact ⟨_, hln, rfl⟩
        · cases decide (r4 = 0)
          · exact ⟨_, hlm, rfl⟩
          · exact ⟨_, hla, rfl⟩
        · exact ⟨_, hlw, rfl⟩
        · exact ⟨_, hln, rfl⟩
      have pl : ps.length = j := by
        have := congrArg List.length pf
        rw [List.length_map, List.length_take] at this
        omega
      obtain ⟨v9', et, h9'⟩ := ask_turn (p := g4.length) (x := .dat x) (v9 := v9) (v10 := v10) (v11 := v11) f1 f2 f3 (atI_strs (l := sw) (j := j) (by omega)) e6 (app_get (by omega)) (by rw [List.length_map]; omega)
      rw [app_set (by omega)] at et
      refine ⟨_, _, _, ?_, et, _, _, v9', _, _, ps ++ [((sortS l)[j], t)], gA, fun _ => rfl, fun _ => rfl, h9', fun _ => rfl, fun _ => rfl, rfl, ?_, ?_, ?_, ?_, ?_⟩
      · clear hz e0 e1 e2 e3 e4 f1 f2 f3 et e6 ej pl
        walk_at "dl"
      · simp
      · rw [List.map_append, pf, take_snoc (List.getElem?_eq_getElem hj)]; rfl
      · intro p hp
        rcases List.mem_append.mp hp with hp | hp
        · exact pt p hp
        · rw [List.mem_singleton] at hp; subst hp; exact htl
      · have := box_take bx3 (n := gA.length) (by rw [gAl]; exact bx.lt)
        rw [app_take rfl] at this
        exact this.mono (by omega)
      · rw [app_take gAl] at onA
        exact on.trans onA)
  obtain ⟨ρ', g5, ek, v7, v8, v9, v10, v11, ps, g', i7, i8, i9, i10, i11, rfl, rfl, pf, pt, bx, on⟩ := key
  rw [Nat.zero_add, enumD_len, List.length_map] at pf bx
  rw [List.take_length] at pf
  refine ⟨ps, g', ?_, pf, pt, bx.mono (by omega), on4.trans on⟩
  have gl := on.len
  rw [ask_run (st := st.map .str) (sw := sw.map .str) (k3 := k3) e0 e1 e2 e3 hk e4 rfl (by rw [st3]; exact ek) i7 i8 i9 i10 i11 (app_get (by omega)) (eq_false (by omega)), app_set (by omega)]
  exact leave_two hb bx (on4.trans on)
end DL
set_option maxRecDepth 100000
set_option maxHeartbeats 400000
namespace DL
open PySem L2
local macro_rules | `(tactic| walk_at "dl") => `(tactic| simp (config := { dsimp := false }) only [↓fnM_e, ↓sSeq_e, seqK_nx, seqK_rt, seqK_bk, seqK_ct, retK_rt, retK_nx, ↓sFrz_e, frK_some, ↓sAsg, ↓sRet, ↓sRetN, ↓sIf, ↓sExpr, ↓sSkip, ↓sNever, ↓sPar, ↓sFor, ↓sSub, ↓fVar, ↓fC, ↓fNil, ↓fCons, ↓fA, ↓f1, ↓f2, ↓fB, ↓fIf, ↓fNeg, ↓fNot, ↓fAnd, ↓fOr, ↓bNot, ↓bAnd, ↓bOr, ↓bYes, ↓obnd_x, ob_some, ↓sbnd_x, sb_some, ↓ite_x, iteK_t, iteK_f, gN, gT, gC, gE, ↓rng1I, ↓rng2I, ↓seqI, ↓enumA, ↓zipI, ↓strI, ↓fLc, ↓fDc, ↓fM, ↓fSl, ↓oNone, ↓oSome, ↓fRev, wipeE, ↓kwM, permM, permL, List.foldr, List.length_cons, List.length_nil, List.map_cons, List.map_nil, List.cons_append, List.nil_append, List.replicate, List.replicate_succ, List.replicate_zero, List.getElem?_cons_zero, List.getElem?_cons_succ, List.set_cons_zero, List.set_cons_succ, if_true, if_false, reduceIte, Nat.reduceAdd, Nat.reduceSub, Nat.reduceEqDiff, Nat.reduceLT, Nat.reduceLeDiff, Int.reduceLT, Int.reduceLE, Int.reduceNeg, Int.reduceMul, Int.reduceAdd, Int.reduceSub, Int.reduceToNat, Int.reducePow, Int.reduceEq, ok, bok, deref, mkL, lstW, tupW, dats, Option.map_some, appendW, insertW, setL, isL, listW, tupleW, lenW, absW, intC, maxW, minW, idxW, addW, subW_e, modW_e, divW_e, powW_e, mulW, intW, lt_e, gt_e, le_e, ge_e, ltW, allW_e, anyW_e, sumW_e, lW, setW, lstAt, cutW, backW, isW, isiW, iLT_none, iLT_bool, iLT_int, iLT_str, iLT_list, iLT_tup, iL_none, iL_bool, iL_int, iL_str, iL_list, iL_tup, iT_none, iT_bool, iT_int, iT_str, iT_list, iT_tup, iS_none, iS_bool, iS_int, iS_str, iS_list, iS_tup, iI_none, iI_bool, iI_int, iI_str, iI_list, iI_tup, iB_none, iB_bool, iB_int, iB_str, iB_list, iB_tup, Bool.false_eq_true, reduceCtorEq, Bool.not_true, Bool.not_false, decide_true, decide_false, List.zip_cons_cons, List.zip_nil_left, List.foldl_cons, List.foldl_nil, and_self, and_true, true_and, Bool.and_true, Bool.true_and, Bool.or_true, Bool.true_or, *])
def NameOk (s : Str) : Prop := 1 ≤ s.length ∧ s.length ≤ 6 ∧ ∀ c ∈ s.cps.toList, 97 ≤ c ∧ c ≤ 122
theorem nm_name {st sp a : Nat} : NameOk (nm st sp a) := by
  refine ⟨?_, ?_, fun c hc => ?_⟩
  · unfold nm
    rw [len_app]
    show 1 ≤ 1 + _
    omega
  · unfold nm
    rw [len_app]
    have := sfx_le (a % 2 * (1 + st % 2))
    show 1 + _ ≤ _
    omega
  · rw [nm_cps] at hc
    rcases List.mem_cons.mp hc with rfl | hc
    · omega
    · generalize a % 2 * (1 + st % 2) = k at hc
      match k, hc with
      | 0, hc => rw [sfx_len.1] at hc; cases hc
      | 1, hc => rw [sfx_len.2.1] at hc; simp at hc; omega
      | _ + 2, hc =>
        have hc' : c ∈ (sfx 2).cps.toList := hc
        rw [sfx_len.2.2] at hc'; simp at hc'; omega
theorem Crew.names {most : Nat} {rs : List Str} (h : Crew most rs) : ∀ s ∈ rs, NameOk s := fun s hs => by
  obtain ⟨st, sp, a, _, _, rfl⟩ := h.nam s hs
  exact nm_name
mutual
def lsts : D → D
  | .list ds => .list (lstsA ds)
  | .tuple ds => .list (lstsA ds)
  | d => d
def lstsA : List D → List D
  | [] => []
  | d :: ds => lsts d :: lstsA ds
end
theorem lstsA_map : ∀ ds : List D, lstsA ds = ds.map lsts
  | [] => rfl
  | d :: ds => by rw [lstsA, lstsA_map ds, List.map_cons]
theorem lists_seq {n : Nat} {x : D} {ds : List D} {h : Hh} (ih : ∀ d ∈ ds, m__law_lists n [.dat d] h = some (.dat (lsts d), h)) :
    lcL (gN 1) bYes (fA (m__law_lists n) (fCons (fVar 1) (fNil))) [some (.dat x), none] ds h = some (lstsA ds, h) := by
  rw [lstsA_map]
  apply lcL_all
  intro d hd
  have e := ih d hd
  refine ⟨[some (.dat x), some (.dat d)], rfl, rfl, ?_⟩
  walk_at "dl"
theorem lstsA_len (ds : List D) : (lstsA ds).length = ds.length := by rw [lstsA_map, List.length_map]
theorem lists_ok : ∀ (n : Nat) (d : D) (h : Hh), plainD d = true → d.depth < n → m__law_lists n [.dat d] h = some (.dat (lsts d), h)
  | 0, _, _, _, hd => by omega
  | n + 1, d, h, hp, hd => by
    have tk := fun d : D => leave_same' (h := h) (d := d)
    cases d with
    | none => unfold m__law_lists; rw [show lsts .none = .none from rfl]; walk_at "dl"
    | bool b => unfold m__law_lists; rw [show lsts (.bool b) = .bool b from rfl]; walk_at "dl"
    | int i => unfold m__law_lists; rw [show lsts (.int i) = .int i from rfl]; walk_at "dl"
    | str s => unfold m__law_lists; rw [show lsts (.str s) = .str s from rfl]; walk_at "dl"
    | list ds =>
      simp only [plainD, Bool.and_eq_true, decide_eq_true_eq] at hp
      simp only [PyData.depth] at hd
      have e3 := lists_seq (n := n) (x := .list ds) (ds := ds) (h := h) (fun d hd' => lists_ok n d h (plainDs_mem hp.1 hd') (by have := depthAll_mem hd'; omega))
      have el : (lstsA ds).length ≤ sizeLine := by rw [lstsA_len]; exact hp.2
      rw [show lsts (.list ds) = .list (lstsA ds) from rfl]
      unfold m__law_lists
      clear hd hp
      walk_at "dl"
    | tuple ds =>
      simp only [plainD, Bool.and_eq_true, decide_eq_true_eq] at hp
      simp only [PyData.depth] at hd
      have e3 := lists_seq (n := n) (x := .tuple ds) (ds := ds) (h := h) (fun d hd' => lists_ok n d h (plainDs_mem hp.1 hd') (by have := depthAll_mem hd'; omega))
      have el : (lstsA ds).length ≤ sizeLine := by rw [lstsA_len]; exact hp.2
      rw [show lsts (.tuple ds) = .list (lstsA ds) from rfl]
      unfold m__law_lists
      clear hd hp
      walk_at "dl"
    | dict es => simp [plainD] at hp
theorem lsts_call (ps : List (Str × Str)) : lstsA (ps.map prT) = ps.map (prW true) := by
  rw [lstsA_map, List.map_map]; rfl
end DL
set_option maxRecDepth 100000
set_option maxHeartbeats 400000
namespace DL
open PySem L2
theorem plain_pairs : ∀ ps : List (Str × Str), plainDs (ps.map prT) = true
  | [] => rfl
  | a :: l => by rw [List.map_cons, plainDs, plain_pairs l]; rfl
theorem depth_pairs : ∀ ps : List (Str × Str), PyData.depthAll (ps.map prT) ≤ 1
  | [] => Nat.zero_le _
  | a :: l => by
    rw [List.map_cons, PyData.depthAll]
    have := depth_pairs l
    have e : PyData.depth (prT a) = 1 := rfl
    omega
theorem plain_call {ps : List (Str × Str)} (hl : ps.length ≤ 1000) : plainD (.tuple (ps.map prT)) = true := by
  rw [plainD, plain_pairs, Bool.true_and, decide_eq_true_eq, List.length_map]
  exact Nat.le_trans hl (by decide)
theorem depth_call (ps : List (Str × Str)) : PyData.depth (.tuple (ps.map prT)) ≤ 2 := by
  rw [PyData.depth]
  have := depth_pairs ps
  omega
abbrev TxtP (ps : List (Str × Str)) : Prop := ∀ p ∈ ps, TxtOk p.1 ∧ TxtOk p.2
theorem CallOf.txts {r : List Str} {ps : List (Str × Str)} (c : CallOf r ps) (ht : Txts r) : TxtP ps := fun p hp =>
  ⟨ht _ (c.perm.mem_iff.mp (List.mem_map.mpr ⟨p, hp, rfl⟩)), ht _ (c.tgt p hp)⟩
theorem tx_pairs : ∀ {ps : List (Str × Str)}, TxtP ps → txDs (ps.map prT) = true
  | [], _ => rfl
  | p :: ps, h => by
    obtain ⟨h1, h2⟩ := h p List.mem_cons_self
    rw [List.map_cons, txDs, tx_pairs fun q hq => h q (List.mem_cons_of_mem _ hq)]
    simp only [prT, txD, txDs, tx_str h1, tx_str h2, Bool.and_true]
    have a := tx_str h1
    have b := tx_str h2
    rw [txD] at a b
    rw [a, b]; rfl
theorem prTx_pairs : ∀ ps : List (Str × Str), prTx (ps.map prT) = some ps
  | [] => rfl
  | p :: ps => by
    rw [List.map_cons]
    show (prTx (ps.map prT)).map ((p.1, p.2) :: ·) = _
    rw [prTx_pairs ps]; rfl
theorem callD_pairs {ps : List (Str × Str)} (h0 : 0 < ps.length) (nd : (ps.map (·.1)).Nodup) : callD (ps.map prT) = true := by
  suffices e : pairD (ps.map prT) = true by
    unfold callD
    first | rw [e, Bool.true_or] | rw [e]
  unfold pairD
  rw [prTx_pairs]
  cases ps with
  | nil => simp at h0
  | cons p ps => simp only [List.isEmpty_cons, Bool.not_false, Bool.true_and, decide_eq_true_eq]; exact nd
theorem prs_tld (ps : List (Str × Str)) : ps.map prT = prs (tld ps) := by
  unfold prs tld
  rw [List.map_map]; rfl
theorem dict_call {ps : List (Str × Str)} {h : Hh} (h0 : 0 < ps.length) (nd : (ps.map (·.1)).Nodup) : dictA false [.dat (.tuple (ps.map prT))] h = some (.dat (.dict (sdic (tld ps))), h) := by
  have e := pairsK_prs (tld ps)
  have e2 := merge_sdic (tld ps) [] (by rw [List.nil_append, tld_keys]; exact nd)
  have e3 : mergeD [] ((tld ps).map fun p => (Sum.inr p.1, p.2)) = sdic (tld ps) := e2
  have ec := callD_pairs h0 nd
  unfold dictA
  simp only [deref, ec, if_true]
  rw [prs_tld, e]
  simp only [e3, mkK, Bool.false_eq_true, if_false]
end DL
set_option maxRecDepth 100000
set_option maxHeartbeats 400000
namespace DL
open PySem L2
local macro_rules | `(tactic| walk_at "dl") => `(tactic| simp (config := { dsimp := false }) only [↓fnM_e, ↓sSeq_e, seqK_nx, seqK_rt, seqK_bk, seqK_ct, retK_rt, retK_nx, ↓sFrz_e, frK_some, ↓sAsg, ↓sRet, ↓sRetN, ↓sIf, ↓sExpr, ↓sSkip, ↓sNever, ↓sPar, ↓sFor, ↓sSub, ↓fVar, ↓fC, ↓fNil, ↓fCons, ↓fA, ↓f1, ↓f2, ↓fB, ↓fIf, ↓fNeg, ↓fNot, ↓fAnd, ↓fOr, ↓bNot, ↓bAnd, ↓bOr, ↓bYes, ↓obnd_x, ob_some, ↓sbnd_x, sb_some, ↓ite_x, iteK_t, iteK_f, gN, gT, gC, gE, ↓rng1I, ↓rng2I, ↓seqI, ↓enumA, ↓zipI, ↓strI, ↓fLc, ↓fDc, ↓fM, ↓fSl, ↓oNone, ↓oSome, ↓fRev, wipeE, ↓kwM, permM, permL, List.foldr, List.length_cons, List.length_nil, List.map_cons, List.map_nil, List.cons_append, List.nil_append, List.replicate, List.replicate_succ, List.replicate_zero, List.getElem?_cons_zero, List.getElem?_cons_succ, List.set_cons_zero, List.set_cons_succ, if_true, if_false, reduceIte, Nat.reduceAdd, Nat.reduceSub, Nat.reduceEqDiff, Nat.reduceLT, Nat.reduceLeDiff, Int.reduceLT, Int.reduceLE, Int.reduceNeg, Int.reduceMul, Int.reduceAdd, Int.reduceSub, Int.reduceToNat, Int.reducePow, Int.reduceEq, ok, bok, deref, mkL, lstW, tupW, dats, Option.map_some, appendW, insertW, setL, isL, listW, tupleW, lenW, absW, intC, maxW, minW, idxW, addW, subW_e, modW_e, divW_e, powW_e, mulW, intW, lt_e, gt_e, le_e, ge_e, ltW, allW_e, anyW_e, sumW_e, lW, setW, lstAt, cutW, backW, isW, isiW, iLT_none, iLT_bool, iLT_int, iLT_str, iLT_list, iLT_tup, iL_none, iL_bool, iL_int, iL_str, iL_list, iL_tup, iT_none, iT_bool, iT_int, iT_str, iT_list, iT_tup, iS_none, iS_bool, iS_int, iS_str, iS_list, iS_tup, iI_none, iI_bool, iI_int, iI_str, iI_list, iI_tup, iB_none, iB_bool, iB_int, iB_str, iB_list, iB_tup, Bool.false_eq_true, reduceCtorEq, Bool.not_true, Bool.not_false, decide_true, decide_false, List.zip_cons_cons, List.zip_nil_left, List.foldl_cons, List.foldl_nil, and_self, and_true, true_and, Bool.and_true, Bool.true_and, Bool.or_true, Bool.true_or, *])
end DL
set_option maxRecDepth 100000
set_option maxHeartbeats 400000
namespace DL
open PySem L2
local macro_rules | `(tactic| walk_at "dl") => `(tactic| simp (config := { dsimp := false }) only [↓fnM_e, ↓sSeq_e, seqK_nx, seqK_rt, seqK_bk, seqK_ct, retK_rt, retK_nx, ↓sFrz_e, frK_some, ↓sAsg, ↓sRet, ↓sRetN, ↓sIf, ↓sExpr, ↓sSkip, ↓sNever, ↓sPar, ↓sFor, ↓sSub, ↓fVar, ↓fC, ↓fNil, ↓fCons, ↓fA, ↓f1, ↓f2, ↓fB, ↓fIf, ↓fNeg, ↓fNot, ↓fAnd, ↓fOr, ↓bNot, ↓bAnd, ↓bOr, ↓bYes, ↓obnd_x, ob_some, ↓sbnd_x, sb_some, ↓ite_x, iteK_t, iteK_f, gN, gT, gC, gE, ↓rng1I, ↓rng2I, ↓seqI, ↓enumA, ↓zipI, ↓strI, ↓fLc, ↓fDc, ↓fM, ↓fSl, ↓oNone, ↓oSome, ↓fRev, wipeE, ↓kwM, permM, permL, List.foldr, List.length_cons, List.length_nil, List.map_cons, List.map_nil, List.cons_append, List.nil_append, List.replicate, List.replicate_succ, List.replicate_zero, List.getElem?_cons_zero, List.getElem?_cons_succ, List.set_cons_zero, List.set_cons_succ, if_true, if_false, reduceIte, Nat.reduceAdd, Nat.reduceSub, Nat.reduceEqDiff, Nat.reduceLT, Nat.reduceLeDiff, Int.reduceLT, Int.reduceLE, Int.reduceNeg, Int.reduceMul, Int.reduceAdd, Int.reduceSub, Int.reduceToNat, Int.reducePow, Int.reduceEq, ok, bok, deref, mkL, lstW, tupW, dats, Option.map_some, appendW, insertW, setL, isL, listW, tupleW, lenW, absW, intC, maxW, minW, idxW, addW, subW_e, modW_e, divW_e, powW_e, mulW, intW, lt_e, gt_e, le_e, ge_e, ltW, allW_e, anyW_e, sumW_e, lW, setW, lstAt, cutW, backW, isW, isiW, iLT_none, iLT_bool, iLT_int, iLT_str, iLT_list, iLT_tup, iL_none, iL_bool, iL_int, iL_str, iL_list, iL_tup, iT_none, iT_bool, iT_int, iT_str, iT_list, iT_tup, iS_none, iS_bool, iS_int, iS_str, iS_list, iS_tup, iI_none, iI_bool, iI_int, iI_str, iI_list, iI_tup, iB_none, iB_bool, iB_int, iB_str, iB_list, iB_tup, Bool.false_eq_true, reduceCtorEq, Bool.not_true, Bool.not_false, decide_true, decide_false, List.zip_cons_cons, List.zip_nil_left, List.foldl_cons, List.foldl_nil, and_self, and_true, true_and, Bool.and_true, Bool.true_and, Bool.or_true, Bool.true_or, *])
structure Folk (most : Nat) (rs : List Str) : Prop where
  nd : rs.Nodup
  pos : 0 < rs.length
  le : rs.length ≤ most
  nam : ∀ s ∈ rs, NameOk s
theorem NameOk.txt {s : Str} (h : NameOk s) : TxtOk s := ⟨by have := h.2.1; omega, fun c hc => by have := h.2.2 c hc; omega⟩
theorem Folk.txts {n : Nat} {rs : List Str} (h : Folk n rs) : Txts rs := fun s hs => (h.nam s hs).txt
theorem Crew.folk {n : Nat} {rs : List Str} (h : Crew n rs) : Folk n rs := ⟨h.nd, h.pos, h.le, h.names⟩
theorem Folk.perm {n : Nat} {rs ms : List Str} (h : Folk n rs) (p : ms.Perm rs) : Folk n ms := ⟨p.nodup_iff.mpr h.nd, by rw [p.length_eq]; exact h.pos, by rw [p.length_eq]; exact h.le, fun s hs => h.nam s (p.mem_iff.mp hs)⟩
abbrev qqq : Str := "qqq"
theorem qqq_cps : qqq.cps.toList = [113, 113, 113] := by decide +kernel
theorem qqq_nm {st sp a : Nat} : nm st sp a ≠ qqq := fun e => by
  have e' := congrArg (fun s : Str => s.cps.toList) e
  simp only [nm_cps, qqq_cps] at e'
  injection e' with _ e2
  generalize a % 2 * (1 + st % 2) = k at e2
  match k, e2 with
  | 0, e2 => rw [sfx_len.1] at e2; cases e2
  | 1, e2 => rw [sfx_len.2.1] at e2; simp at e2
  | _ + 2, e2 =>
    have e3 : (sfx 2).cps.toList = [113, 113] := e2
    rw [sfx_len.2.2] at e3; simp at e3
theorem qqq_len : qqq.length = 3 := by decide +kernel
theorem Crew.more {n : Nat} {rs : List Str} (h : Crew n rs) : Folk (n + 1) (rs ++ [qqq]) ∧ 2 ≤ (rs ++ [qqq]).length := by
  refine ⟨⟨?_, by simp, by simp; exact h.le, fun s hs => ?_⟩, by simp; exact h.pos⟩
  · rw [List.nodup_append]
    refine ⟨h.nd, by simp, fun a ha b hb e => ?_⟩
    rw [List.mem_singleton] at hb
    subst hb e
    obtain ⟨st, sp, x, _, _, e⟩ := h.nam _ ha
    exact qqq_nm e.symm
  · rcases List.mem_append.mp hs with hs | hs
    · exact h.names s hs
    · rw [List.mem_singleton] at hs
      subst hs
      refine ⟨by rw [qqq_len]; omega, by rw [qqq_len]; omega, fun c hc => ?_⟩
      rw [qqq_cps] at hc
      simp at hc
      omega
theorem two_run {b : Nat} {x : D} {ds : List D} {h g1 g2 : Hh} {i j n : Int} {d e : D} (hx : IsSeq x ds) (hn : (ds.length : Int) = n) (e1 : m__law_take [.ref b, .dat (.int n)] h = some (.dat (.int i), g1)) (e2 : m__law_take [.ref b, .dat (.int (n - 1))] g1 = some (.dat (.int j), g2)) (n0 : 0 < n)
    (a1 : L2.atI ds i = some d) (a2 : L2.atI ds ((i + 1 + j) % n) = some e) : m__law_two [.ref b, .dat x] h = leave false h (.dat (.tuple [d, e])) g2 := by
  have c2 : 2 ≤ sizeLine := by decide
  have m1 : decide (0 < n) = true := by simpa using n0
  unfold m__law_two
  clear n0
  rcases hx with rfl | rfl <;> walk_at "dl"
theorem two_ok {x : D} {l : List Str} {h : Hh} {b c : Nat} (hx : IsSeq x (l.map .str)) (nd : l.Nodup) (hb : BoxAt h b c) (hc : c < 1000000000) (h0 : 2 ≤ l.length) (h1 : l.length ≤ 1000) :
    ∃ (a e : Str) (h' : Hh), m__law_two [.ref b, .dat x] h = some (.dat (prT (a, e)), h') ∧ a ∈ l ∧ e ∈ l ∧ a ≠ e ∧ BoxAt h' b (c + 2) ∧ Only b h h' := by
  obtain ⟨i, g1, e1, i0, i1, b1, o1⟩ := take_ok (n := (l.length : Int)) hb (by omega) (by omega) (by omega)
  obtain ⟨j, g2, e2, j0, j1, b2, o2⟩ := take_ok (n := (l.length : Int) - 1) b1 (by omega) (by omega) (by omega)
  obtain ⟨i, rfl⟩ : ∃ k : Nat, i = k := ⟨i.toNat, by omega⟩
  obtain ⟨j, rfl⟩ : ∃ k : Nat, j = k := ⟨j.toNat, by omega⟩
  have hi : i < l.length := by omega
  have hk : (i + 1 + j) % l.length < l.length := Nat.mod_lt _ (by omega)
  have ek : ((i : Int) + 1 + (j : Int)) % (l.length : Int) = (((i + 1 + j) % l.length : Nat) : Int) := by push_cast; rfl
  have hne : i ≠ (i + 1 + j) % l.length := by
    intro z
    rcases Nat.lt_or_ge (i + 1 + j) l.length with q | q
    · rw [Nat.mod_eq_of_lt q] at z; omega
    · rw [Nat.mod_eq_sub_mod q, Nat.mod_eq_of_lt (by omega)] at z; omega
  refine ⟨l[i], l[(i + 1 + j) % l.length], g2, ?_, List.getElem_mem _, List.getElem_mem _, fun z => hne (by have q := congrArg l.idxOf z; rwa [idx_of nd hi, idx_of nd hk] at q), b2, o1.trans o2⟩
  rw [two_run (n := (l.length : Int)) hx (by rw [List.length_map]) e1 e2 (by omega) (atI_strs hi) (by rw [ek]; exact atI_strs hk)]
  exact leave_dat' hb b2 (o1.trans o2)
abbrev cT (ps : List (Str × Str)) : D := .tuple (ps.map prT)
theorem asks_run {b : Nat} {x : D} {h g1 g2 : Hh} {n r : Int} {cs : List D} (e1 : m__law_take [.ref b, .dat (.int (n + 1))] h = some (.dat (.int r), g1)) (b0 : -1000000000 ≤ r) (b1 : r ≤ 1000000000) (hl : cs.length ≤ sizeLine)
    (e2 : lcL (gN 3) bYes (fA (m__law_ask) (fCons (fVar 0) (fCons (fVar 1) (fNil)))) [some (.ref b), some (.dat x), some (.dat (.int n)), none] (rngD 0 r.toNat) g1 = some (cs, g2)) :
    m__law_asks [.ref b, .dat x, .dat (.int n)] h = leave false h (.dat (.list cs)) g2 := by
  unfold m__law_asks
  walk_at "dl"
abbrev Words (r : List Str) (ws : List (List (Str × Str))) : Prop := ∀ ps ∈ ws, CallOf r ps
theorem Words.perm {r r' : List Str} {ws : List (List (Str × Str))} (h : Words r ws) (p : r.Perm r') : Words r' ws := fun ps hp => (h ps hp).of_perm p
theorem asks_ok {x : D} {l : List Str} {h : Hh} {b c n : Nat} (hx : IsSeq x (l.map .str)) (ht : Txts l) (hb : BoxAt h b c) (hc : c < 100000) (h0 : 0 < l.length) (h1 : l.length ≤ 30) (hn : n ≤ 100) :
    ∃ (ws : List (List (Str × Str))) (h' : Hh), m__law_asks [.ref b, .dat x, .dat (.int n)] h = some (.dat (.list (ws.map cT)), h') ∧ Words l ws ∧ ws.length ≤ n ∧ BoxAt h' b (c + 1 + n * 152) ∧ Only b h h' := by
  obtain ⟨r, g1, e1, r0, r1, b1, o1⟩ := take_ok (n := (n : Int) + 1) hb (by omega) (by omega) (by omega)
  have key := lcL_inv (k := gN 3) (f := fA (m__law_ask) (fCons (fVar 0) (fCons (fVar 1) (fNil)))) (ρ := [some (.ref b), some (.dat x), some (.dat (.int n)), none])
    (fun k g => BoxAt g b (c + 1 + k * 152) ∧ Only b h g) (fun _ d => ∃ ps, d = cT ps ∧ CallOf l ps) (ds := rngD 0 r.toNat) (n := 0) (h := g1) ⟨by rw [Nat.zero_mul]; exact b1, o1⟩ (by
      intro j d ej g hi
      obtain ⟨bx, on⟩ := hi
      rw [Nat.zero_add] at bx ⊢
      have hj := (rng_get ej).1
      have j1 : j ≤ 100 := by omega
      obtain ⟨ps, g', e3, pf, pt, b3, o3⟩ := ask_ok hx ht bx (by omega) h0 (by omega)
      refine ⟨[some (.ref b), some (.dat x), some (.dat (.int n)), some (.dat d)], cT ps, g', rfl, ?_, ⟨ps, rfl, by rw [pf]; exact sortS_perm l, pt⟩, b3.mono (by omega), on.trans o3⟩
      clear hx ht hb hc h0 h1 hn r0 r1 b1 o1 bx on hj pf pt b3 o3 ej e1
      walk_at "dl")
  obtain ⟨cs, g2, e2, hl, hr, b2, o2⟩ := key
  rw [rng_len] at hl
  rw [rng_len, Nat.zero_add] at b2
  have hw : ∃ ws : List (List (Str × Str)), cs = ws.map cT ∧ Words l ws := by
    have : ∀ cs : List D, (∀ d ∈ cs, ∃ ps, d = cT ps ∧ CallOf l ps) → ∃ ws : List (List (Str × Str)), cs = ws.map cT ∧ Words l ws := fun cs => by
      induction cs with
      | nil => exact fun _ => ⟨[], rfl, fun ps hp => by cases hp⟩
      | cons d cs ih =>
        intro H
        obtain ⟨ps, rfl, hp⟩ := H d List.mem_cons_self
        obtain ⟨ws, rfl, hw⟩ := ih fun e he => H e (List.mem_cons_of_mem _ he)
        exact ⟨ps :: ws, rfl, fun q hq => by
          rcases List.mem_cons.mp hq with rfl | hq
          · exact hp
          · exact hw q hq⟩
    refine this cs fun d hd => ?_
    obtain ⟨j, hj, rfl⟩ := List.getElem_of_mem hd
    exact hr j _ (List.getElem?_eq_getElem hj)
  obtain ⟨ws, rfl, hw⟩ := hw
  rw [List.length_map] at hl
  have rn : r.toNat ≤ n := by omega
  have bn : BoxAt g2 b (c + 1 + n * 152) := b2.mono (by omega)
  have hz : sizeLine = 16777216 := rfl
  refine ⟨ws, g2, ?_, hw, by omega, bn, o2⟩
  rw [asks_run e1 (by omega) (by omega) (by rw [List.length_map]; omega) e2]
  exact leave_dat' hb bn o2
end DL
set_option maxRecDepth 100000
set_option maxHeartbeats 400000
namespace DL
open PySem L2
local macro_rules | `(tactic| walk_at "dl") => `(tactic| simp (config := { dsimp := false }) only [↓fnM_e, ↓sSeq_e, seqK_nx, seqK_rt, seqK_bk, seqK_ct, retK_rt, retK_nx, ↓sFrz_e, frK_some, ↓sAsg, ↓sRet, ↓sRetN, ↓sIf, ↓sExpr, ↓sSkip, ↓sNever, ↓sPar, ↓sFor, ↓sSub, ↓fVar, ↓fC, ↓fNil, ↓fCons, ↓fA, ↓f1, ↓f2, ↓fB, ↓fIf, ↓fNeg, ↓fNot, ↓fAnd, ↓fOr, ↓bNot, ↓bAnd, ↓bOr, ↓bYes, ↓obnd_x, ob_some, ↓sbnd_x, sb_some, ↓ite_x, iteK_t, iteK_f, gN, gT, gC, gE, ↓rng1I, ↓rng2I, ↓seqI, ↓enumA, ↓zipI, ↓strI, ↓fLc, ↓fDc, ↓fM, ↓fSl, ↓oNone, ↓oSome, ↓fRev, wipeE, ↓kwM, permM, permL, List.foldr, List.length_cons, List.length_nil, List.map_cons, List.map_nil, List.cons_append, List.nil_append, List.replicate, List.replicate_succ, List.replicate_zero, List.getElem?_cons_zero, List.getElem?_cons_succ, List.set_cons_zero, List.set_cons_succ, if_true, if_false, reduceIte, Nat.reduceAdd, Nat.reduceSub, Nat.reduceEqDiff, Nat.reduceLT, Nat.reduceLeDiff, Int.reduceLT, Int.reduceLE, Int.reduceNeg, Int.reduceMul, Int.reduceAdd, Int.reduceSub, Int.reduceToNat, Int.reducePow, Int.reduceEq, ok, bok, deref, mkL, lstW, tupW, dats, Option.map_some, appendW, insertW, setL, isL, listW, tupleW, lenW, absW, intC, maxW, minW, idxW, addW, subW_e, modW_e, divW_e, powW_e, mulW, intW, lt_e, gt_e, le_e, ge_e, ltW, allW_e, anyW_e, sumW_e, lW, setW, lstAt, cutW, backW, isW, isiW, iLT_none, iLT_bool, iLT_int, iLT_str, iLT_list, iLT_tup, iL_none, iL_bool, iL_int, iL_str, iL_list, iL_tup, iT_none, iT_bool, iT_int, iT_str, iT_list, iT_tup, iS_none, iS_bool, iS_int, iS_str, iS_list, iS_tup, iI_none, iI_bool, iI_int, iI_str, iI_list, iI_tup, iB_none, iB_bool, iB_int, iB_str, iB_list, iB_tup, Bool.false_eq_true, reduceCtorEq, Bool.not_true, Bool.not_false, decide_true, decide_false, List.zip_cons_cons, List.zip_nil_left, List.foldl_cons, List.foldl_nil, and_self, and_true, true_and, Bool.and_true, Bool.true_and, Bool.or_true, Bool.true_or, *])
def goneP (ps : List (Str × Str)) (p : Str × Str) : Str × Str := if goal ps p.1 = goal ps p.2 then p else (goal ps p.1, goal ps p.2)
def walkL : List (List (Str × Str)) → Str × Str → List (Str × Str)
  | [], p => [p]
  | ps :: ws, p => p :: walkL ws (goneP ps p)
def lastW (ws : List (List (Str × Str))) (p : Str × Str) : Str × Str := ws.foldl (fun q ps => goneP ps q) p
theorem walkL_snoc (ps : List (Str × Str)) : ∀ (ws : List (List (Str × Str))) (p : Str × Str), walkL (ws ++ [ps]) p = walkL ws p ++ [goneP ps (lastW ws p)]
  | [], p => rfl
  | qs :: ws, p => by
    show p :: walkL (ws ++ [ps]) (goneP qs p) = p :: (walkL ws (goneP qs p) ++ _)
    rw [walkL_snoc ps ws]; rfl
theorem walkL_len : ∀ (ws : List (List (Str × Str))) (p : Str × Str), (walkL ws p).length = ws.length + 1
  | [], p => rfl
  | qs :: ws, p => by rw [walkL, List.length_cons, walkL_len ws, List.length_cons]
theorem walkL_last : ∀ (ws : List (List (Str × Str))) (p : Str × Str), ∃ l, walkL ws p = l ++ [lastW ws p]
  | [], p => ⟨[], rfl⟩
  | qs :: ws, p => by
    obtain ⟨l, e⟩ := walkL_last ws (goneP qs p)
    exact ⟨p :: l, by rw [walkL, e]; rfl⟩
theorem goneP_in {r : List Str} {ps : List (Str × Str)} (c : CallOf r ps) {p : Str × Str} (h1 : p.1 ∈ r) (h2 : p.2 ∈ r) : (goneP ps p).1 ∈ r ∧ (goneP ps p).2 ∈ r := by
  unfold goneP
  split
  · exact ⟨h1, h2⟩
  · exact ⟨(c.goal_mem h1).2, (c.goal_mem h2).2⟩
theorem goneP_ne {ps : List (Str × Str)} {p : Str × Str} (h : p.1 ≠ p.2) : (goneP ps p).1 ≠ (goneP ps p).2 := by
  unfold goneP
  split
  · exact h
  · assumption
theorem lastW_in {r : List Str} : ∀ {ws : List (List (Str × Str))}, Words r ws → ∀ {p : Str × Str}, p.1 ∈ r → p.2 ∈ r → (lastW ws p).1 ∈ r ∧ (lastW ws p).2 ∈ r
  | [], _, p, h1, h2 => ⟨h1, h2⟩
  | ps :: ws, c, p, h1, h2 => by
    obtain ⟨q1, q2⟩ := goneP_in (c ps List.mem_cons_self) h1 h2
    exact lastW_in (ws := ws) (fun q hq => c q (List.mem_cons_of_mem _ hq)) q1 q2
theorem lastW_ne : ∀ (ws : List (List (Str × Str))) {p : Str × Str}, p.1 ≠ p.2 → (lastW ws p).1 ≠ (lastW ws p).2
  | [], p, h => h
  | ps :: ws, p, h => lastW_ne ws (goneP_ne (ps := ps) h)
abbrev dW (ps : List (Str × Str)) : D := .dict (sdic (tld ps))
theorem eqW_strs {neg : Bool} {i j : Str} {h : Hh} : eqW neg (.dat (.str i)) (.dat (.str j)) h = bok (if neg = true then !decide (i = j) else decide (i = j)) h := by
  unfold eqW
  simp only [deref, eqS]
theorem gone_ok {r : List Str} {ps : List (Str × Str)} {p : Str × Str} {h : Hh} (c : CallOf r ps) (h1 : p.1 ∈ r) (h2 : p.2 ∈ r) : m_gone [.dat (dW ps), .dat (prT p)] h = some (.dat (prT (goneP ps p)), h) := by
  obtain ⟨k1, _⟩ := c.goal_mem h1
  obtain ⟨k2, _⟩ := c.goal_mem h2
  have g1 : getD (sdic (tld ps)) (.str p.1) = some (some (.str (goal ps p.1))) := by rw [getD_sdic, look_tld, k1]; rfl
  have g2 : getD (sdic (tld ps)) (.str p.2) = some (some (.str (goal ps p.2))) := by rw [getD_sdic, look_tld, k2]; rfl
  have a0 : L2.atI [PyData.str p.1, .str p.2] 0 = some (.str p.1) := rfl
  have a1 : L2.atI [PyData.str p.1, .str p.2] 1 = some (.str p.2) := rfl
  have e3 := eqW_strs (neg := false) (i := goal ps p.1) (j := goal ps p.2) (h := h)
  have c2 : 2 ≤ sizeLine := by decide
  have lv := fun d : D => leave_same' (h := h) (d := d)
  unfold m_gone goneP
  by_cases z : goal ps p.1 = goal ps p.2
  · rw [if_pos z]
    have z' : decide (goal ps p.1 = goal ps p.2) = true := by simpa using z
    clear c h1 h2 k1 k2 z
    walk_at "dl"
  · rw [if_neg z]
    have z' : decide (goal ps p.1 = goal ps p.2) = false := by simpa using z
    clear c h1 h2 k1 k2 z
    walk_at "dl"
def cD (l : Bool) (ps : List (Str × Str)) : D := if l = true then .list (ps.map (prW true)) else .tuple (ps.map prT)
theorem cD_seq (l : Bool) (ps : List (Str × Str)) : IsSeq (cD l ps) (ps.map (prW l)) := by
  cases l
  · exact .inr (by rw [prW_false]; rfl)
  · exact .inl rfl
theorem cD_false : cD false = cT := by funext ps; rfl
theorem ways_ok {x : D} {l : Bool} {r : List Str} {ws : List (List (Str × Str))} {h : Hh} (hx : IsSeq x (ws.map (cD l))) (c : Words r ws) (nd : r.Nodup) (hr : r.length ≤ 1000) (hw : ws.length ≤ 1000) : m_ways_back [.dat x] h = some (.dat (.list (ws.reverse.map dW)), h) := by
  have hz : sizeLine = 16777216 := rfl
  have e1 : lcL (gN 1) bYes (fA (m_by_names) (fCons (fVar 1) (fNil))) [some (.dat x), none] (ws.reverse.map (cD l)) h = some (ws.reverse.map dW, h) := by
    have : ∀ vs : List (List (Str × Str)), (∀ v ∈ vs, CallOf r v) → lcL (gN 1) bYes (fA (m_by_names) (fCons (fVar 1) (fNil))) [some (.dat x), none] (vs.map (cD l)) h = some (vs.map dW, h) := fun vs => by
      induction vs with
      | nil => exact fun _ => rfl
      | cons ps vs ih =>
        intro H
        have hc := H ps List.mem_cons_self
        have hl : ps.length = r.length := by have := hc.perm.length_eq; rw [List.length_map] at this; exact this
        have e := by_names_ok (h := h) (cD_seq l ps) (hc.nodup nd) (by omega)
        have ih := ih fun v hv => H v (List.mem_cons_of_mem _ hv)
        have e' : fA (m_by_names) (fCons (fVar 1) (fNil)) [some (.dat x), some (.dat (cD l ps))] h = some (.dat (dW ps), h) := by
          clear hx c nd hr hw hz hc hl ih H
          walk_at "dl"
        rw [List.map_cons, List.map_cons]
        unfold lcL
        have k : gN 1 (.dat (cD l ps)) [some (.dat x), none] h = some [some (.dat x), some (.dat (cD l ps))] := rfl
        simp only [k, bYes, obnd, if_true, e', ih]
    exact this _ fun v hv => c v (List.mem_reverse.mp hv)
  have l1 : (ws.reverse.map dW).length ≤ sizeLine := by rw [List.length_map, List.length_reverse]; omega
  have lv := leave_same' (h := h) (d := .list (ws.reverse.map dW))
  rw [List.map_reverse] at e1
  unfold m_ways_back revI
  clear c nd hr hw hz
  rcases hx with rfl | rfl <;> walk_at "dl"
end DL
set_option maxRecDepth 100000
set_option maxHeartbeats 400000
namespace DL
open PySem L2
local macro_rules | `(tactic| walk_at "dl") => `(tactic| simp (config := { dsimp := false }) only [↓fnM_e, ↓sSeq_e, seqK_nx, seqK_rt, seqK_bk, seqK_ct, retK_rt, retK_nx, ↓sFrz_e, frK_some, ↓sAsg, ↓sRet, ↓sRetN, ↓sIf, ↓sExpr, ↓sSkip, ↓sNever, ↓sPar, ↓sFor, ↓sSub, ↓fVar, ↓fC, ↓fNil, ↓fCons, ↓fA, ↓f1, ↓f2, ↓fB, ↓fIf, ↓fNeg, ↓fNot, ↓fAnd, ↓fOr, ↓bNot, ↓bAnd, ↓bOr, ↓bYes, ↓obnd_x, ob_some, ↓sbnd_x, sb_some, ↓ite_x, iteK_t, iteK_f, gN, gT, gC, gE, ↓rng1I, ↓rng2I, ↓seqI, ↓enumA, ↓zipI, ↓strI, ↓fLc, ↓fDc, ↓fM, ↓fSl, ↓oNone, ↓oSome, ↓fRev, wipeE, ↓kwM, permM, permL, List.foldr, List.length_cons, List.length_nil, List.map_cons, List.map_nil, List.cons_append, List.nil_append, List.replicate, List.replicate_succ, List.replicate_zero, List.getElem?_cons_zero, List.getElem?_cons_succ, List.set_cons_zero, List.set_cons_succ, if_true, if_false, reduceIte, Nat.reduceAdd, Nat.reduceSub, Nat.reduceEqDiff, Nat.reduceLT, Nat.reduceLeDiff, Int.reduceLT, Int.reduceLE, Int.reduceNeg, Int.reduceMul, Int.reduceAdd, Int.reduceSub, Int.reduceToNat, Int.reducePow, Int.reduceEq, ok, bok, deref, mkL, lstW, tupW, dats, Option.map_some, appendW, insertW, setL, isL, listW, tupleW, lenW, absW, intC, maxW, minW, idxW, addW, subW_e, modW_e, divW_e, powW_e, mulW, intW, lt_e, gt_e, le_e, ge_e, ltW, allW_e, anyW_e, sumW_e, lW, setW, lstAt, cutW, backW, isW, isiW, iLT_none, iLT_bool, iLT_int, iLT_str, iLT_list, iLT_tup, iL_none, iL_bool, iL_int, iL_str, iL_list, iL_tup, iT_none, iT_bool, iT_int, iT_str, iT_list, iT_tup, iS_none, iS_bool, iS_int, iS_str, iS_list, iS_tup, iI_none, iI_bool, iI_int, iI_str, iI_list, iI_tup, iB_none, iB_bool, iB_int, iB_str, iB_list, iB_tup, Bool.false_eq_true, reduceCtorEq, Bool.not_true, Bool.not_false, decide_true, decide_false, List.zip_cons_cons, List.zip_nil_left, List.foldl_cons, List.foldl_nil, and_self, and_true, true_and, Bool.and_true, Bool.true_and, Bool.or_true, Bool.true_or, *])
theorem atI_neg1 {α : Type} (l : List α) (x : α) : L2.atI (l ++ [x]) (-1) = some x := atI_last l x
theorem walked_ok {r : List Str} {ws : List (List (Str × Str))} {p : Str × Str} {h : Hh} (c : Words r ws) (h1 : p.1 ∈ r) (h2 : p.2 ∈ r) (hw : ws.length ≤ 1000) : m_walked [.dat (.list (ws.map dW)), .dat (prT p)] h = some (.dat (.list ((walkL ws p).map prT)), h) := by
  have hz : sizeLine = 16777216 := rfl
  have key := forL_inv (k := gN 3) (body := sExpr (fM isL appendW (fVar 2) (fCons (fA (m_gone) (fCons (fVar 3) (fCons (f2 idxW (fVar 2) (fNeg (fC (.int 1)))) (fNil)))) (fNil))))
    (fun n ρ g => ∃ v : Option W, ρ = [some (.dat (.list (ws.map dW))), some (.dat (prT p)), some (.ref h.length), v] ∧ g = h ++ [some (.lst ((walkL (ws.take n) p).map prT))]) (ds := ws.map dW) (n := 0)
    (ρ := [some (.dat (.list (ws.map dW))), some (.dat (prT p)), some (.ref h.length), none]) (h := h ++ [some (.lst [prT p])]) ⟨none, rfl, rfl⟩ (by
      intro j d ej ρ g hi
      obtain ⟨v, rfl, rfl⟩ := hi
      rw [Nat.zero_add]
      rw [List.getElem?_map] at ej
      obtain ⟨ps, ep, rfl⟩ := Option.map_eq_some_iff.mp ej
      have hj : j < ws.length := (List.getElem?_eq_some_iff.mp ep).1
      have hc : CallOf r ps := c ps (List.mem_of_getElem? ep)
      obtain ⟨m1, m2⟩ := lastW_in (ws := ws.take j) (fun q hq => c q (List.mem_of_mem_take hq)) h1 h2
      have e1 := gone_ok (h := h ++ [some (.lst ((walkL (ws.take j) p).map prT))]) hc m1 m2
      obtain ⟨l, el⟩ := walkL_last (ws.take j) p
      have al : L2.atI ((walkL (ws.take j) p).map prT) (-1) = some (prT (lastW (ws.take j) p)) := by rw [el, List.map_append]; exact atI_neg1 _ _
      have hg : (h ++ [some (MO.lst ((walkL (ws.take j) p).map prT))])[h.length]? = some (some (.lst ((walkL (ws.take j) p).map prT))) := app_get rfl
      have hl : ((walkL (ws.take j) p).map prT).length < sizeLine := by rw [List.length_map, walkL_len, List.length_take]; omega
      have hs : (h ++ [some (MO.lst ((walkL (ws.take j) p).map prT))]).set h.length (some (.lst ((walkL (ws.take j) p).map prT ++ [prT (goneP ps (lastW (ws.take j) p))]))) = h ++ [some (.lst ((walkL (ws.take (j + 1)) p).map prT))] := by
        rw [app_set rfl, take_snoc ep, walkL_snoc, List.map_append]; rfl
      refine ⟨_, _, _, rfl, ?_, some (.dat (dW ps)), rfl, rfl⟩
      clear c h1 h2 hw hz ej ep hj hc m1 m2 el
      generalize (walkL (ws.take j) p).map prT = wl at *
      walk_at "dl")
  obtain ⟨ρ', h', e, v, rfl, rfl⟩ := key
  rw [Nat.zero_add, List.length_map, List.take_length] at e
  have hg : (h ++ [some (MO.lst ((walkL ws p).map prT))])[h.length]? = some (some (.lst ((walkL ws p).map prT))) := app_get rfl
  have et : (h ++ [some (MO.lst ((walkL ws p).map prT))]).take h.length = h := app_take rfl
  have nl : ¬ h.length < h.length := by omega
  have c1 : 1 ≤ sizeLine := by omega
  unfold m_walked
  clear c h1 h2 hw hz
  generalize (walkL ws p).map prT = wl at *
  walk_at "dl"
  unfold leave
  walk_at "dl"
theorem walks_ok {x : D} {l : Bool} {r : List Str} {ws : List (List (Str × Str))} {a b : Str} {h : Hh} (hx : IsSeq x (ws.map (cD l))) (c : Words r ws) (nd : r.Nodup) (hr : r.length ≤ 1000) (hw : ws.length ≤ 1000) (h1 : a ∈ r) (h2 : b ∈ r) :
    m_walks [.dat x, .dat (.str a), .dat (.str b)] h = some (.dat (.list ((walkL ws.reverse (a, b)).map prT)), h) := by
  have e1 := ways_ok (h := h) hx c nd hr hw
  have e2 := walked_ok (h := h) (ws := ws.reverse) (p := (a, b)) (fun q hq => c q (List.mem_reverse.mp hq)) h1 h2 (by rw [List.length_reverse]; exact hw)
  have c2 : 2 ≤ sizeLine := by decide
  have lv := leave_same' (h := h) (d := .list ((walkL ws.reverse (a, b)).map prT))
  unfold m_walks
  clear hx c nd hr hw h1 h2
  walk_at "dl"
abbrev rowT (r : List Str) : D := .tuple (r.map .str)
end DL
set_option maxRecDepth 100000
set_option maxHeartbeats 400000
namespace DL
open PySem L2
local macro_rules | `(tactic| walk_at "dl") => `(tactic| simp (config := { dsimp := false }) only [↓fnM_e, ↓sSeq_e, seqK_nx, seqK_rt, seqK_bk, seqK_ct, retK_rt, retK_nx, ↓sFrz_e, frK_some, ↓sAsg, ↓sRet, ↓sRetN, ↓sIf, ↓sExpr, ↓sSkip, ↓sNever, ↓sPar, ↓sFor, ↓sSub, ↓fVar, ↓fC, ↓fNil, ↓fCons, ↓fA, ↓f1, ↓f2, ↓fB, ↓fIf, ↓fNeg, ↓fNot, ↓fAnd, ↓fOr, ↓bNot, ↓bAnd, ↓bOr, ↓bYes, ↓obnd_x, ob_some, ↓sbnd_x, sb_some, ↓ite_x, iteK_t, iteK_f, gN, gT, gC, gE, ↓rng1I, ↓rng2I, ↓seqI, ↓enumA, ↓zipI, ↓strI, ↓fLc, ↓fDc, ↓fM, ↓fSl, ↓oNone, ↓oSome, ↓fRev, wipeE, ↓kwM, permM, permL, List.foldr, List.length_cons, List.length_nil, List.map_cons, List.map_nil, List.cons_append, List.nil_append, List.replicate, List.replicate_succ, List.replicate_zero, List.getElem?_cons_zero, List.getElem?_cons_succ, List.set_cons_zero, List.set_cons_succ, if_true, if_false, reduceIte, Nat.reduceAdd, Nat.reduceSub, Nat.reduceEqDiff, Nat.reduceLT, Nat.reduceLeDiff, Int.reduceLT, Int.reduceLE, Int.reduceNeg, Int.reduceMul, Int.reduceAdd, Int.reduceSub, Int.reduceToNat, Int.reducePow, Int.reduceEq, ok, bok, deref, mkL, lstW, tupW, dats, Option.map_some, appendW, insertW, setL, isL, listW, tupleW, lenW, absW, intC, maxW, minW, idxW, addW, subW_e, modW_e, divW_e, powW_e, mulW, intW, lt_e, gt_e, le_e, ge_e, ltW, allW_e, anyW_e, sumW_e, lW, setW, lstAt, cutW, backW, isW, isiW, iLT_none, iLT_bool, iLT_int, iLT_str, iLT_list, iLT_tup, iL_none, iL_bool, iL_int, iL_str, iL_list, iL_tup, iT_none, iT_bool, iT_int, iT_str, iT_list, iT_tup, iS_none, iS_bool, iS_int, iS_str, iS_list, iS_tup, iI_none, iI_bool, iI_int, iI_str, iI_list, iI_tup, iB_none, iB_bool, iB_int, iB_str, iB_list, iB_tup, Bool.false_eq_true, reduceCtorEq, Bool.not_true, Bool.not_false, decide_true, decide_false, List.zip_cons_cons, List.zip_nil_left, List.foldl_cons, List.foldl_nil, and_self, and_true, true_and, Bool.and_true, Bool.true_and, Bool.or_true, Bool.true_or, *])
end DL
set_option maxRecDepth 100000
set_option maxHeartbeats 400000
namespace DL
open PySem L2
local macro_rules | `(tactic| walk_at "dl") => `(tactic| simp (config := { dsimp := false }) only [↓fnM_e, ↓sSeq_e, seqK_nx, seqK_rt, seqK_bk, seqK_ct, retK_rt, retK_nx, ↓sFrz_e, frK_some, ↓sAsg, ↓sRet, ↓sRetN, ↓sIf, ↓sExpr, ↓sSkip, ↓sNever, ↓sPar, ↓sFor, ↓sSub, ↓fVar, ↓fC, ↓fNil, ↓fCons, ↓fA, ↓f1, ↓f2, ↓fB, ↓fIf, ↓fNeg, ↓fNot, ↓fAnd, ↓fOr, ↓bNot, ↓bAnd, ↓bOr, ↓bYes, ↓obnd_x, ob_some, ↓sbnd_x, sb_some, ↓ite_x, iteK_t, iteK_f, gN, gT, gC, gE, ↓rng1I, ↓rng2I, ↓seqI, ↓enumA, ↓zipI, ↓strI, ↓fLc, ↓fDc, ↓fM, ↓fSl, ↓oNone, ↓oSome, ↓fRev, wipeE, ↓kwM, permM, permL, List.foldr, List.length_cons, List.length_nil, List.map_cons, List.map_nil, List.cons_append, List.nil_append, List.replicate, List.replicate_succ, List.replicate_zero, List.getElem?_cons_zero, List.getElem?_cons_succ, List.set_cons_zero, List.set_cons_succ, if_true, if_false, reduceIte, Nat.reduceAdd, Nat.reduceSub, Nat.reduceEqDiff, Nat.reduceLT, Nat.reduceLeDiff, Int.reduceLT, Int.reduceLE, Int.reduceNeg, Int.reduceMul, Int.reduceAdd, Int.reduceSub, Int.reduceToNat, Int.reducePow, Int.reduceEq, ok, bok, deref, mkL, lstW, tupW, dats, Option.map_some, appendW, insertW, setL, isL, listW, tupleW, lenW, absW, intC, maxW, minW, idxW, addW, subW_e, modW_e, divW_e, powW_e, mulW, intW, lt_e, gt_e, le_e, ge_e, ltW, allW_e, anyW_e, sumW_e, lW, setW, lstAt, cutW, backW, isW, isiW, iLT_none, iLT_bool, iLT_int, iLT_str, iLT_list, iLT_tup, iL_none, iL_bool, iL_int, iL_str, iL_list, iL_tup, iT_none, iT_bool, iT_int, iT_str, iT_list, iT_tup, iS_none, iS_bool, iS_int, iS_str, iS_list, iS_tup, iI_none, iI_bool, iI_int, iI_str, iI_list, iI_tup, iB_none, iB_bool, iB_int, iB_str, iB_list, iB_tup, Bool.false_eq_true, reduceCtorEq, Bool.not_true, Bool.not_false, decide_true, decide_false, List.zip_cons_cons, List.zip_nil_left, List.foldl_cons, List.foldl_nil, and_self, and_true, true_and, Bool.and_true, Bool.true_and, Bool.or_true, Bool.true_or, *])
end DL
set_option maxRecDepth 100000
set_option maxHeartbeats 400000
namespace DL
open PySem L2
local macro_rules | `(tactic| walk_at "dl") => `(tactic| simp (config := { dsimp := false }) only [↓fnM_e, ↓sSeq_e, seqK_nx, seqK_rt, seqK_bk, seqK_ct, retK_rt, retK_nx, ↓sFrz_e, frK_some, ↓sAsg, ↓sRet, ↓sRetN, ↓sIf, ↓sExpr, ↓sSkip, ↓sNever, ↓sPar, ↓sFor, ↓sSub, ↓fVar, ↓fC, ↓fNil, ↓fCons, ↓fA, ↓f1, ↓f2, ↓fB, ↓fIf, ↓fNeg, ↓fNot, ↓fAnd, ↓fOr, ↓bNot, ↓bAnd, ↓bOr, ↓bYes, ↓obnd_x, ob_some, ↓sbnd_x, sb_some, ↓ite_x, iteK_t, iteK_f, gN, gT, gC, gE, ↓rng1I, ↓rng2I, ↓seqI, ↓enumA, ↓zipI, ↓strI, ↓fLc, ↓fDc, ↓fM, ↓fSl, ↓oNone, ↓oSome, ↓fRev, wipeE, ↓kwM, permM, permL, List.foldr, List.length_cons, List.length_nil, List.map_cons, List.map_nil, List.cons_append, List.nil_append, List.replicate, List.replicate_succ, List.replicate_zero, List.getElem?_cons_zero, List.getElem?_cons_succ, List.set_cons_zero, List.set_cons_succ, if_true, if_false, reduceIte, Nat.reduceAdd, Nat.reduceSub, Nat.reduceEqDiff, Nat.reduceLT, Nat.reduceLeDiff, Int.reduceLT, Int.reduceLE, Int.reduceNeg, Int.reduceMul, Int.reduceAdd, Int.reduceSub, Int.reduceToNat, Int.reducePow, Int.reduceEq, ok, bok, deref, mkL, lstW, tupW, dats, Option.map_some, appendW, insertW, setL, isL, listW, tupleW, lenW, absW, intC, maxW, minW, idxW, addW, subW_e, modW_e, divW_e, powW_e, mulW, intW, lt_e, gt_e, le_e, ge_e, ltW, allW_e, anyW_e, sumW_e, lW, setW, lstAt, cutW, backW, isW, isiW, iLT_none, iLT_bool, iLT_int, iLT_str, iLT_list, iLT_tup, iL_none, iL_bool, iL_int, iL_str, iL_list, iL_tup, iT_none, iT_bool, iT_int, iT_str, iT_list, iT_tup, iS_none, iS_bool, iS_int, iS_str, iS_list, iS_tup, iI_none, iI_bool, iI_int, iI_str, iI_list, iI_tup, iB_none, iB_bool, iB_int, iB_str, iB_list, iB_tup, Bool.false_eq_true, reduceCtorEq, Bool.not_true, Bool.not_false, decide_true, decide_false, List.zip_cons_cons, List.zip_nil_left, List.foldl_cons, List.foldl_nil, and_self, and_true, true_and, Bool.and_true, Bool.true_and, Bool.or_true, Bool.true_or, *])
theorem idx_inj {r : List Str} {s t : Str} (hs : s ∈ r) (ht : t ∈ r) (e : r.idxOf s = r.idxOf t) : s = t := by
  have h1 := List.getElem_idxOf (List.idxOf_lt_length_of_mem hs)
  have h2 := List.getElem_idxOf (List.idxOf_lt_length_of_mem ht)
  rw [← h1, ← h2]
  simp only [e]
theorem shp_pairs {l : List (Str × Str)} (ht : TxtP l) : shp (.list (l.map prT)) = true := by
  have h1 := (tx_lays (tx_pairs ht)).1
  have h2 := depth_pairs l
  unfold shp
  rw [PyData.canLay0, h1, PyData.depth]
  simp only [Bool.true_and, decide_eq_true_eq]
  omega
theorem walkL_txt {r : List Str} (ht : Txts r) : ∀ {ws : List (List (Str × Str))}, Words r ws → ∀ {p : Str × Str}, p.1 ∈ r → p.2 ∈ r → TxtP (walkL ws p)
  | [], _, p, h1, h2 => fun q hq => by
    rw [walkL, List.mem_singleton] at hq
    subst hq
    exact ⟨ht _ h1, ht _ h2⟩
  | ps :: ws, c, p, h1, h2 => fun q hq => by
    obtain ⟨q1, q2⟩ := goneP_in (c ps List.mem_cons_self) h1 h2
    rw [walkL] at hq
    rcases List.mem_cons.mp hq with rfl | hq
    · exact ⟨ht _ h1, ht _ h2⟩
    · exact walkL_txt ht (fun q hq => c q (List.mem_cons_of_mem _ hq)) q1 q2 q hq
end DL
set_option maxRecDepth 100000
set_option maxHeartbeats 400000
namespace DL
open PySem L2
structure OnlyP (b : Nat) (h g : Hh) : Prop where
  len : h.length ≤ g.length
  off : ∀ i : Nat, i < h.length → i ≠ b → g[i]? = h[i]?
theorem Only.p {b : Nat} {h g : Hh} (o : Only b h g) : OnlyP b h g := ⟨Nat.le_of_eq o.len.symm, fun i _ n => o.off i n⟩
theorem OnlyP.only {b : Nat} {h g g' : Hh} (o : OnlyP b h g) (o' : Only b g g') : OnlyP b h g' := ⟨by rw [o'.len]; exact o.len, fun i hi n => (o'.off i n).trans (o.off i hi n)⟩
theorem OnlyP.app {b : Nat} {h g l : Hh} (o : OnlyP b h g) : OnlyP b h (g ++ l) := ⟨by rw [List.length_append]; have := o.len; omega, fun i hi n => by
  rw [List.getElem?_append_left (by have := o.len; omega)]; exact o.off i hi n⟩
theorem Folk.mono {n m : Nat} {rs : List Str} (h : Folk n rs) (k : n ≤ m) : Folk m rs := ⟨h.nd, h.pos, Nat.le_trans h.le k, h.nam⟩
end DL
set_option maxRecDepth 100000
set_option maxHeartbeats 400000
namespace DL
open PySem L2
end DL
set_option maxRecDepth 100000
set_option maxHeartbeats 400000
namespace DL
open PySem L2
def told (r : List Str) (ps : List (Str × Str)) (t : Str) : List Str := r.filter fun s => decide (goal ps s = t)
theorem goal_of : ∀ {ps : List (Str × Str)}, (ps.map (·.1)).Nodup → ∀ p ∈ ps, goal ps p.1 = p.2
  | [], _, p, h => by cases h
  | (a, b) :: ps, nd, p, h => by
    rw [List.map_cons, List.nodup_cons] at nd
    unfold goal
    rw [List.lookup_cons]
    rcases List.mem_cons.mp h with rfl | h
    · simp
    · have ne : p.1 ≠ a := fun z => nd.1 (List.mem_map.mpr ⟨p, h, z⟩)
      rw [show (p.1 == a) = false by simpa using ne]
      exact goal_of nd.2 p h
end DL
set_option maxRecDepth 100000
set_option maxHeartbeats 400000
namespace DL
open PySem L2
end DL
set_option maxRecDepth 100000
set_option maxHeartbeats 400000
namespace DL
open PySem L2
end DL
set_option maxRecDepth 100000
set_option maxHeartbeats 400000
namespace DL
open PySem L2
end DL
set_option maxRecDepth 100000
set_option maxHeartbeats 400000
namespace DL
open PySem L2
end DL
set_option maxRecDepth 100000
set_option maxHeartbeats 400000
namespace DL
open PySem L2
end DL
set_option maxRecDepth 100000
set_option maxHeartbeats 400000
namespace DL
open PySem L2
end DL
set_option maxRecDepth 100000
set_option maxHeartbeats 400000
namespace DL
open PySem L2
end DL
set_option maxRecDepth 100000
set_option maxHeartbeats 400000
namespace DL
open PySem L2
end DL
set_option maxRecDepth 100000
set_option maxHeartbeats 400000
namespace DL
open PySem L2
end DL
set_option maxRecDepth 100000
set_option maxHeartbeats 400000
namespace DL
open PySem L2
end DL
set_option maxRecDepth 100000
set_option maxHeartbeats 400000
namespace DL
open PySem L2
end DL
set_option maxRecDepth 100000
set_option maxHeartbeats 400000
namespace DL
open PySem L2
end DL
set_option maxRecDepth 100000
set_option maxHeartbeats 400000
namespace DL
open PySem L2
end DL
set_option maxRecDepth 100000
set_option maxHeartbeats 400000
namespace DL
open PySem L2
theorem lcL_list {α : Type} {k : TM} {f : EM} {ρ : Env} {h : Hh} (em : α → D) (g : α → D) : ∀ {xs : List α}, (∀ x ∈ xs, ∃ ρ1, k (.dat (em x)) ρ h = some ρ1 ∧ f ρ1 h = some (.dat (g x), h)) → lcL k bYes f ρ (xs.map em) h = some (xs.map g, h)
  | [], _ => rfl
  | x :: xs, H => by
    obtain ⟨ρ1, e1, e2⟩ := H x List.mem_cons_self
    rw [List.map_cons, List.map_cons, lcL]
    simp only [e1, bYes, obnd, if_true, e2]
    rw [lcL_list em g fun y hy => H y (List.mem_cons_of_mem _ hy)]
end DL
set_option maxRecDepth 100000
set_option maxHeartbeats 400000
namespace DL
open PySem L2
local macro_rules | `(tactic| walk_at "dl") => `(tactic| simp (config := { dsimp := false }) only [↓fnM_e, ↓sSeq_e, seqK_nx, seqK_rt, seqK_bk, seqK_ct, retK_rt, retK_nx, ↓sFrz_e, frK_some, ↓sAsg, ↓sRet, ↓sRetN, ↓sIf, ↓sExpr, ↓sSkip, ↓sNever, ↓sPar, ↓sFor, ↓sSub, ↓fVar, ↓fC, ↓fNil, ↓fCons, ↓fA, ↓f1, ↓f2, ↓fB, ↓fIf, ↓fNeg, ↓fNot, ↓fAnd, ↓fOr, ↓bNot, ↓bAnd, ↓bOr, ↓bYes, ↓obnd_x, ob_some, ↓sbnd_x, sb_some, ↓ite_x, iteK_t, iteK_f, gN, gT, gC, gE, ↓rng1I, ↓rng2I, ↓seqI, ↓enumA, ↓zipI, ↓strI, ↓fLc, ↓fDc, ↓fM, ↓fSl, ↓oNone, ↓oSome, ↓fRev, wipeE, ↓kwM, permM, permL, List.foldr, List.length_cons, List.length_nil, List.map_cons, List.map_nil, List.cons_append, List.nil_append, List.replicate, List.replicate_succ, List.replicate_zero, List.getElem?_cons_zero, List.getElem?_cons_succ, List.set_cons_zero, List.set_cons_succ, if_true, if_false, reduceIte, Nat.reduceAdd, Nat.reduceSub, Nat.reduceEqDiff, Nat.reduceLT, Nat.reduceLeDiff, Int.reduceLT, Int.reduceLE, Int.reduceNeg, Int.reduceMul, Int.reduceAdd, Int.reduceSub, Int.reduceToNat, Int.reducePow, Int.reduceEq, ok, bok, deref, mkL, lstW, tupW, dats, Option.map_some, appendW, insertW, setL, isL, listW, tupleW, lenW, absW, intC, maxW, minW, idxW, addW, subW_e, modW_e, divW_e, powW_e, mulW, intW, lt_e, gt_e, le_e, ge_e, ltW, allW_e, anyW_e, sumW_e, lW, setW, lstAt, cutW, backW, isW, isiW, iLT_none, iLT_bool, iLT_int, iLT_str, iLT_list, iLT_tup, iL_none, iL_bool, iL_int, iL_str, iL_list, iL_tup, iT_none, iT_bool, iT_int, iT_str, iT_list, iT_tup, iS_none, iS_bool, iS_int, iS_str, iS_list, iS_tup, iI_none, iI_bool, iI_int, iI_str, iI_list, iI_tup, iB_none, iB_bool, iB_int, iB_str, iB_list, iB_tup, Bool.false_eq_true, reduceCtorEq, Bool.not_true, Bool.not_false, decide_true, decide_false, List.zip_cons_cons, List.zip_nil_left, List.foldl_cons, List.foldl_nil, and_self, and_true, true_and, Bool.and_true, Bool.true_and, Bool.or_true, Bool.true_or, *])
def OkA (h : Hh) : Prop := h.all okM = true
theorem OkA.nil : OkA [] := rfl
theorem OkA.app {h : Hh} {o : Option MO} (x : OkA h) (y : okM o = true) : OkA (h ++ [o]) := by
  unfold OkA at *
  rw [List.all_append, x]
  simp [y]
theorem okM_ints (a b c : Int) : okM (some (.lst [.int a, .int b, .int c])) = true := by simp [okM, noLs, noL]
theorem OkA.only {h h' : Hh} {b c : Nat} (x : OkA h) (o : Only b h h') (bx : BoxAt h' b c) : OkA h' := by
  unfold OkA at *
  rw [List.all_eq_true] at *
  intro z hz
  obtain ⟨i, hi, e⟩ := List.getElem_of_mem hz
  have e' : h'[i]? = some z := by rw [List.getElem?_eq_getElem hi, e]
  by_cases hb : i = b
  · subst hb
    obtain ⟨d, s, k, q, _⟩ := bx
    rw [q] at e'
    cases e'
    exact okM_ints _ _ _
  · rw [o.off i hb] at e'
    exact x z (List.mem_of_getElem? e')
theorem OkA.take {h : Hh} (n : Nat) (x : OkA h) : OkA (h.take n) := by
  unfold OkA at *
  rw [List.all_eq_true] at *
  exact fun z hz => x z (List.mem_of_mem_take hz)
theorem law_turnJ {T : Int} {t : Nat} {h0 : Hh} {J : Hh → Prop} (hT : T.toNat = t) (T0 : -1000000000 ≤ T) (T1 : T ≤ 1000000000) (T2 : t ≤ sizeLine) (Jp : ∀ h, J h → Pre h0 h ∧ h0.length ≤ h.length) (Ja : ∀ h a b, J h → J (h ++ [some (.lst [.int a, .int b, .int 0])])) {right : FM} {cost : Nat} (hr : ∀ (h : Hh) (b c : Nat), J h → h0.length ≤ b → BoxAt h b c → c ≤ t * cost → ∃ h', right [.ref b] h = some (.dat (.bool true), h') ∧ BoxAt h' b (c + cost) ∧ J h') {ns : List Int} {k : Int} (k0 : 0 ≤ k) (k1 : k < 100) (v2 v3 : Option W) (h : Hh) (hp : J h) :
    ∃ ρ' h', (sSeq (sAsg (fA (m__law_box) (fCons (fVar 0) (fCons (fVar 1) (fNil)))) (gN 2))
    (sIf (bNot (fB (fA allW (fCons (fLc false (rng1I (fCons (fC (.int T)) (fNil))) (gN 3) (bYes) (fA right (fCons (fVar 2) (fNil))) [3]) (fNil))))) (sRet (fC (.bool false))) (sSkip))) [some (.scr ns), some (.dat (.int k)), v2, v3] h = some (.nx ρ', h') ∧ (∃ w2, ρ' = [some (.scr ns), some (.dat (.int k)), w2, v3]) ∧ J h' := by
  obtain ⟨d, s, e, hd, hs, hs2⟩ := box_new (ns := ns) (h := h) k0 k1
  have hb : BoxAt (h ++ [some (.lst [.int d, .int s, .int 0])]) h.length 0 := ⟨d, s, 0, by simp, hd, hs, hs2, by omega, by omega⟩
  have hl0 := (Jp h hp).2
  obtain ⟨rs, h', e2, hl, hall, _, hp'⟩ := lcL_inv (k := gN 3) (f := fA right (fCons (fVar 2) (fNil))) (ρ := [some (.scr ns), some (.dat (.int k)), some (.ref h.length), none])
    (fun n g => BoxAt g h.length (n * cost) ∧ J g) (fun _ d => d = .bool true) (ds := rngD 0 T.toNat) (n := 0) (h := h ++ [some (.lst [.int d, .int s, .int 0])]) (by rw [Nat.zero_mul]; exact ⟨hb, Ja h d s hp⟩) (by
      intro j d' ej g hi
      obtain ⟨hi, hp1⟩ := hi
      rw [Nat.zero_add] at hi ⊢
      have hj := (rng_get ej).1
      obtain ⟨g', e3, b3, o3⟩ := hr g h.length _ hp1 hl0 hi (Nat.mul_le_mul_right _ (by omega))
      refine ⟨[some (.scr ns), some (.dat (.int k)), some (.ref h.length), some (.dat d')], .bool true, g', rfl, ?_, rfl, by rw [Nat.succ_mul]; exact b3, o3⟩
      clear hp hp1 hl0 Jp Ja
      walk_at "dl")
  have er : rs = List.replicate rs.length (.bool true) := bools_all fun r hr => by
    obtain ⟨j, hj, rfl⟩ := List.getElem_of_mem hr
    exact hall j _ (List.getElem?_eq_getElem hj)
  have hl' : rs.length = t := by rw [hl, rng_len, hT]
  rw [hl'] at er
  subst er
  have e4 := bools_true t
  have e5 := all_true t
  have e6 : (List.replicate t (PyData.bool true)).length ≤ sizeLine := by rw [List.length_replicate]; exact T2
  refine ⟨[some (.scr ns), some (.dat (.int k)), some (.ref h.length), v3], h', ?_, ⟨_, rfl⟩, hp'⟩
  clear hall hl hl' hb hr hp hp' hl0 Jp Ja
  rw [hT] at e2
  walk_at "dl"
theorem law_okJ {T : Int} {t : Nat} {h0 : Hh} {J : Hh → Prop} (hT : T.toNat = t) (T0 : -1000000000 ≤ T) (T1 : T ≤ 1000000000) (T2 : t ≤ sizeLine) (J0 : J h0) (Jp : ∀ h, J h → Pre h0 h ∧ h0.length ≤ h.length) (Ja : ∀ h a b, J h → J (h ++ [some (.lst [.int a, .int b, .int 0])])) {right : FM} {cost : Nat} (hr : ∀ (h : Hh) (b c : Nat), J h → h0.length ≤ b → BoxAt h b c → c ≤ t * cost → ∃ h', right [.ref b] h = some (.dat (.bool true), h') ∧ BoxAt h' b (c + cost) ∧ J h') (ns : List Int) (hn : ns.length ≤ 63) :
    ∃ h', lawM T right [.scr ns] h0 = some (.dat (.bool true), h') := by
  obtain ⟨m, hm, m0, m1⟩ : ∃ m : Int, (if (if (ns.length : Int) < 3 then (ns.length : Int) else 3) > 1 then (if (ns.length : Int) < 3 then (ns.length : Int) else 3) else 1) = m ∧ 0 ≤ m ∧ m ≤ 3 := ⟨_, rfl, by split <;> split <;> omega, by split <;> split <;> omega⟩
  obtain ⟨ρ', h', e, ⟨w1, w2, w3, rfl⟩, hp⟩ := forL_end (k := gN 1) (body := (sSeq (sAsg (fA (m__law_box) (fCons (fVar 0) (fCons (fVar 1) (fNil)))) (gN 2))
    (sIf (bNot (fB (fA allW (fCons (fLc false (rng1I (fCons (fC (.int T)) (fNil))) (gN 3) (bYes) (fA right (fCons (fVar 2) (fNil))) [3]) (fNil))))) (sRet (fC (.bool false))) (sSkip)))) (fun _ ρ g => (∃ w1 w2 w3, ρ = [some (.scr ns), w1, w2, w3]) ∧ J g) (ds := rngD 0 m.toNat) (ρ := [some (.scr ns), none, none, none]) (h := h0) ⟨⟨none, none, none, rfl⟩, J0⟩ (by
      intro j d ej ρ h hi
      obtain ⟨⟨w1, w2, w3, rfl⟩, hp⟩ := hi
      obtain ⟨hj, rfl⟩ := rng_get ej
      obtain ⟨ρ', h', e, ⟨w2', rfl⟩, hp'⟩ := law_turnJ hT T0 T1 T2 Jp Ja hr (ns := ns) (k := j) (by omega) (by omega) w2 w3 h hp
      exact ⟨_, _, h', rfl, e, ⟨_, _, _, rfl⟩, hp'⟩)
  refine ⟨h0, ?_⟩
  have b0 : -1000000000 ≤ m := by omega
  have b1 : m ≤ 1000000000 := by omega
  have lv : leave false h0 (.dat (.bool true)) h' = some (.dat (.bool true), h0) := by
    have e := (Jp h' hp).1.take (Jp h' hp).2
    rw [leave_dat (by rw [e]), e]
  unfold lawM
  clear hr m0 m1 T0 T1 T2 hp J0 Jp Ja
  walk_at "dl"
theorem depth_words : ∀ ws : List (List (Str × Str)), PyData.depthAll (ws.map cT) ≤ 2
  | [] => Nat.zero_le _
  | ps :: ws => by
    rw [List.map_cons, PyData.depthAll]
    have := depth_words ws
    have := depth_call ps
    exact Nat.max_le.mpr ⟨by assumption, by assumption⟩
theorem plain_words {ws : List (List (Str × Str))} (ht : ∀ ps ∈ ws, ps.length ≤ 1000) (hl : ws.length ≤ 1000) : plainD (.list (ws.map cT)) = true := by
  rw [plainD, Bool.and_eq_true, decide_eq_true_eq, List.length_map]
  refine ⟨?_, Nat.le_trans hl (by decide)⟩
  induction ws with
  | nil => rfl
  | cons ps ws ih =>
    rw [List.map_cons, plainDs, ih (fun q hq => ht q (List.mem_cons_of_mem _ hq)) (by simp at hl; omega)]
    show (plainD (.tuple (ps.map prT)) && true) = true
    rw [plain_call (ht ps List.mem_cons_self)]; rfl
theorem lsts_words (ws : List (List (Str × Str))) : lsts (.list (ws.map cT)) = .list (ws.map (cD true)) := by
  have e : ∀ ps : List (Str × Str), lsts (cT ps) = cD true ps := fun ps => by
    show lsts (.tuple (ps.map prT)) = .list (ps.map (prW true))
    rw [← lsts_call ps]; rfl
  show PyData.list (lstsA (ws.map cT)) = _
  rw [lstsA_map, List.map_map]
  congr 1
  exact List.map_congr_left fun ps _ => e ps
theorem lists_words {ws : List (List (Str × Str))} {h : Hh} (ht : ∀ ps ∈ ws, ps.length ≤ 1000) (hl : ws.length ≤ 1000) : m__law_lists 12 [.dat (.list (ws.map cT))] h = some (.dat (.list (ws.map (cD true))), h) := by
  rw [lists_ok 12 _ h (plain_words ht hl) (by rw [PyData.depth]; have := depth_words ws; omega), lsts_words]
end DL
set_option maxRecDepth 100000
set_option maxHeartbeats 400000
namespace DL
open PySem L2
def Srt (r : List Str) (key : Str → Nat) (m : List Str) : Prop := m.Perm r ∧ m.Pairwise fun a b => key a < key b ∨ (key a = key b ∧ r.idxOf a < r.idxOf b)
theorem Srt.eq {r m m' : List Str} {key : Str → Nat} (h : Srt r key m) (h' : Srt r key m') : m = m' := by
  refine List.Perm.eq_of_pairwise (fun a b ha hb h1 h2 => ?_) h.2 h'.2 (h.1.trans h'.1.symm)
  omega
theorem Srt.congr {r m : List Str} {key key' : Str → Nat} (h : Srt r key m) (e : ∀ s ∈ r, key s = key' s) : Srt r key' m := by
  refine ⟨h.1, List.Pairwise.imp_of_mem ?_ h.2⟩
  intro a b ha hb q
  rw [← e a (h.1.mem_iff.mp ha), ← e b (h.1.mem_iff.mp hb)]
  exact q
end DL
set_option maxRecDepth 100000
set_option maxHeartbeats 400000
namespace DL
open PySem L2
end DL
set_option maxRecDepth 100000
set_option maxHeartbeats 400000
namespace DL
open PySem L2
theorem bools_map {α : Type} (p : α → Bool) : ∀ l : List α, bools (l.map fun i => .bool (p i)) = some (l.map p)
  | [] => rfl
  | a :: l => by rw [List.map_cons, bools, bools_map p l]; rfl
end DL
set_option maxRecDepth 100000
set_option maxHeartbeats 400000
namespace DL
open PySem L2
theorem all_noDM_app {h : Hh} {o : Option MO} (hk : h.all noDM = true) (ho : noDM o = true) : (h ++ [o]).all noDM = true := by
  rw [List.all_append, hk]
  simp [ho]
end DL
set_option maxRecDepth 100000
set_option maxHeartbeats 400000
namespace DL
open PySem L2
end DL
set_option maxRecDepth 100000
set_option maxHeartbeats 400000
namespace DL
open PySem L2
structure JD (h0 h : Hh) : Prop where
  pre : Pre h0 h
  len : h0.length ≤ h.length
  nod : h.all noDM = true
theorem JD.app {h0 h : Hh} (j : JD h0 h) {o : Option MO} (ho : noDM o = true) : JD h0 (h ++ [o]) := ⟨j.pre.app j.len, by rw [List.length_append]; have := j.len; omega, all_noDM_app j.nod ho⟩
theorem noDM_ints (a b c : Int) : noDM (some (.lst [.int a, .int b, .int c])) = true := by simp [noDM, noDs, noD]
theorem nod_only {h h' : Hh} {b c : Nat} (hk : h.all noDM = true) (o : Only b h h') (bx : BoxAt h' b c) : h'.all noDM = true := by
  rw [List.all_eq_true] at *
  intro z hz
  obtain ⟨i, hi, e⟩ := List.getElem_of_mem hz
  have e' : h'[i]? = some z := by rw [List.getElem?_eq_getElem hi, e]
  by_cases hb : i = b
  · subst hb
    obtain ⟨d, s, k, q, _⟩ := bx
    rw [q] at e'
    cases e'
    exact noDM_ints _ _ _
  · rw [o.off i hb] at e'
    exact hk z (List.mem_of_getElem? e')
theorem JD.only {h0 h h' : Hh} {b c : Nat} (j : JD h0 h) (hb : h0.length ≤ b) (o : Only b h h') (bx : BoxAt h' b c) : JD h0 h' := ⟨j.pre.only hb o, by rw [o.len]; exact j.len, nod_only j.nod o bx⟩
end DL
set_option maxRecDepth 100000
set_option maxHeartbeats 400000
namespace DL
open PySem L2
end DL
set_option maxRecDepth 100000
set_option maxHeartbeats 400000
namespace DL
open PySem L2
end DL
set_option maxRecDepth 100000
set_option maxHeartbeats 400000
namespace DL
open PySem L2
end DL
set_option maxRecDepth 100000
set_option maxHeartbeats 400000
namespace DL
open PySem L2
end DL
set_option maxRecDepth 100000
set_option maxHeartbeats 400000
namespace DL
open PySem L2
theorem nd_inj {S : List Str} (nd : S.Nodup) {i j : Nat} (hi : i < S.length) (hj : j < S.length) (e : S[i] = S[j]) : i = j := by
  rcases Nat.lt_trichotomy i j with h | h | h
  · exact absurd e (List.pairwise_iff_getElem.mp nd i j hi hj h)
  · exact h
  · exact absurd e.symm (List.pairwise_iff_getElem.mp nd j i hj hi h)
theorem eqv_txts : ∀ a b : List Str, PyData.eqvAll (a.map .str) (b.map .str) = decide (a = b)
  | [], [] => by simp [PyData.eqvAll]
  | [], b :: l => by simp [PyData.eqvAll]
  | a :: k, [] => by simp [PyData.eqvAll]
  | a :: k, b :: l => by
    rw [List.map_cons, List.map_cons, PyData.eqvAll, eqv_txts k l]
    by_cases h : a = b
    · subst h; simp [PyData.eqv]
    · simp [PyData.eqv, h]
structure Nam (l : List Str) (ms : List (Str × Str)) : Prop where
  key : ms.map (·.1) = l
  nd : l.Nodup
  inj : (ms.map (·.2)).Nodup
  txt : Txts (ms.map (·.2))
section
variable {l : List Str} {ms : List (Str × Str)} (N : Nam l ms)
include N
theorem Nam.nk : (ms.map (·.1)).Nodup := by rw [N.key]; exact N.nd
theorem Nam.map : l.map (goal ms) = ms.map (·.2) := by
  rw [← N.key, List.map_map]
  apply List.map_congr_left
  intro p hp
  exact goal_of N.nk p hp
theorem Nam.one {a b : Str} (ha : a ∈ l) (hb : b ∈ l) : goal ms a = goal ms b ↔ a = b := by
  constructor
  · intro e
    obtain ⟨i, hi, rfl⟩ := List.getElem_of_mem ha
    obtain ⟨j, hj, rfl⟩ := List.getElem_of_mem hb
    have nd := N.inj
    rw [← N.map] at nd
    have q : (l.map (DL.goal ms))[i]'(by rw [List.length_map]; exact hi) = (l.map (DL.goal ms))[j]'(by rw [List.length_map]; exact hj) := by rw [List.getElem_map, List.getElem_map]; exact e
    have := nd_inj nd (by rw [List.length_map]; exact hi) (by rw [List.length_map]; exact hj) q
    subst this; rfl
  · rintro rfl; rfl
end
section
variable {r : List Str} {ms ps : List (Str × Str)} (N : Nam r ms) (c : CallOf r ps)
include N c
end
end DL
set_option maxRecDepth 100000
set_option maxHeartbeats 400000
namespace DL
open PySem L2
end DL
set_option maxRecDepth 100000
set_option maxHeartbeats 400000
namespace DL
open PySem L2
theorem eqv_pr (p q : Str × Str) : PyData.eqv (prT p) (prT q) = decide (p = q) := by
  have e := eqv_txts [p.1, p.2] [q.1, q.2]
  have e1 : PyData.eqv (prT p) (prT q) = decide ([p.1, p.2] = [q.1, q.2]) := by
    rw [← e]
    simp only [PyData.eqv, List.map_cons, List.map_nil]
  rw [e1]
  obtain ⟨a, b⟩ := p; obtain ⟨c, d⟩ := q
  simp
end DL
set_option maxRecDepth 100000
set_option maxHeartbeats 400000
namespace DL
open PySem L2
theorem cut_drop {α : Type} (xs : List α) {k : Nat} : cutG xs (some (k : Int)) none = xs.drop k := by
  have e : HT.sIx xs.length 0 (some (k : Int)) = min k xs.length := HT.sIx_nat _ _ _
  have e0 : HT.sIx xs.length xs.length none = xs.length := rfl
  unfold cutG
  rw [e, e0]
  rcases Nat.le_total k xs.length with q | q
  · rw [Nat.min_eq_left q]
    exact List.take_of_length_le (by rw [List.length_drop]; omega)
  · rw [Nat.min_eq_right q, List.drop_eq_nil_of_le q]
    simp
structure GoodC (ps : List (Str × Str)) : Prop where
  pos : 0 < ps.length
  few : ps.length ≤ 30
  nam : ∀ p ∈ ps, NameOk p.1 ∧ NameOk p.2
  nd : (ps.map (·.1)).Nodup
  pw : (ps.map (·.1)).Pairwise fun a b => leS a b = true
  tgt : ∀ p ∈ ps, p.2 ∈ ps.map (·.1)
theorem GoodC.txts {ps : List (Str × Str)} (g : GoodC ps) : Txts (ps.map (·.1)) := fun s hs => by
  obtain ⟨p, hp, rfl⟩ := List.mem_map.mp hs
  exact (g.nam p hp).1.txt
end DL
set_option maxRecDepth 100000
set_option maxHeartbeats 400000
namespace DL
open PySem L2
end DL
set_option maxRecDepth 100000
set_option maxHeartbeats 400000
namespace DL
open PySem L2
section
variable {ρ ρ1 ρ2 : DL.Env} {h h1 h2 : Hh}
theorem xN : fNil ρ h = some ([], h) := rfl
theorem xC {E : EM} {g : AM} {w : W} {ws : List W} (he : E ρ h = some (w, h1)) (hg : g ρ h1 = some (ws, h2)) : fCons E g ρ h = some (w :: ws, h2) := by simp only [fCons, obnd, he, hg]
theorem xA {m : FM} {g : AM} {ws : List W} {r : Option (W × Hh)} (hg : g ρ h = some (ws, h1)) (hm : m ws h1 = r) : fA m g ρ h = r := by simp only [fA, obnd, hg, hm]
theorem x2 {f : W → W → Hh → Option (W × Hh)} {A B : EM} {x y : W} {r : Option (W × Hh)} (ha : A ρ h = some (x, h1)) (hb : B ρ h1 = some (y, h2)) (hf : f x y h2 = r) : f2 f A B ρ h = r := by simp only [f2, obnd, ha, hb, hf]
theorem xL {IT : IM} {k : TM} {f : EM} {vs : List Nat} {ds rs : List D} (hi : IT ρ h = some (ds, h1)) (e : lcL k bYes f (wipeE ρ vs) ds h1 = some (rs, h2)) (hl : rs.length ≤ sizeLine) : fLc false IT k bYes f vs ρ h = some (.dat (.list rs), h2) := by
  unfold fLc
  simp only [hi, obnd, e]
  rw [if_pos hl]
  rfl
theorem xS {E : EM} {x : D} {ds : List D} (he : E ρ h = some (.dat x, h1)) (hx : IsSeq x ds) : seqI E ρ h = some (ds, h1) := by
  unfold seqI
  simp only [he, obnd]
  rcases hx with rfl | rfl <;> rfl
theorem xT {E : EM} (he : E ρ h = some (.dat (.bool true), h1)) : bNot (fB E) ρ h = some (false, h1) := by
  unfold bNot fB
  simp only [he, obnd]
  rfl
theorem xO {A B : BM} {r : Option (Bool × Hh)} (ha : A ρ h = some (false, h1)) (hb : B ρ h1 = r) : bOr A B ρ h = r := by
  unfold bOr
  simp only [ha, obnd]
  exact hb
theorem xAnd {A B : EM} {r : Option (W × Hh)} (ha : A ρ h = some (.dat (.bool true), h1)) (hb : B ρ h1 = r) : fAnd A B ρ h = r := by
  unfold fAnd
  simp only [ha, obnd]
  exact hb
theorem xTup {x : D} {ds : List D} (hx : IsSeq x ds) : tupleW [.dat x] h = some (.dat (.tuple ds), h) := by rcases hx with rfl | rfl <;> rfl
theorem xList {x : D} {ds : List D} (hx : IsSeq x ds) : listW false [.dat x] h = some (.dat (.list ds), h) := by rcases hx with rfl | rfl <;> rfl
theorem xLst {ws : List W} {ds : List D} (e : dats ws = some ds) (hl : ds.length ≤ sizeLine) : lstW false ws h = some (.dat (.list ds), h) := by
  unfold lstW
  simp only [e, hl, if_true]
  rfl
theorem xTp {ws : List W} {ds : List D} (e : dats ws = some ds) (hl : ds.length ≤ sizeLine) : tupW ws h = some (.dat (.tuple ds), h) := by
  unfold tupW
  simp only [e, hl, if_true]
  rfl
theorem xAdd {a b : List D} (hl : a.length + b.length ≤ sizeLine) : addW false (.dat (.list a)) (.dat (.list b)) h = some (.dat (.list (a ++ b)), h) := by
  unfold addW
  simp only [deref, hl, if_true]
  rfl
theorem xK {n : Nat} {is : List Nat} {m : FM} {ws l : List W} {r : Option (W × Hh)} (hn : ws.length = n) (hp : permL is ws = some l) (hm : m l h = r) : kwM n is m ws h = r := by
  unfold kwM permM
  rw [if_pos hn, hp]
  exact hm
theorem zA {E : EM} {k : TM} {rest : SM} {w : W} (he : E ρ h = some (w, h1)) (hk : k w ρ h1 = some ρ1) : sSeq (sAsg E k) rest ρ h = rest ρ1 h1 := by
  unfold sSeq sAsg
  simp only [he, sbnd, hk]
theorem zI {t : BM} {a rest : SM} (ht : t ρ h = some (false, h1)) : sSeq (sIf t a sSkip) rest ρ h = rest ρ h1 := by
  unfold sSeq sIf
  simp only [ht, sbnd, Bool.false_eq_true, if_false, sSkip]
theorem zF {IT : IM} {k : TM} {body rest : SM} {ds : List D} (hi : IT ρ h = some (ds, h1)) (e : forL k body ds ρ h1 = some (.nx ρ2, h2)) : sSeq (sFor IT k body) rest ρ h = rest ρ2 h2 := by
  unfold sSeq sFor
  simp only [hi, sbnd, e]
theorem zP {g : AM} {is : List Nat} {rest : SM} {ws : List W} (hg : g ρ h = some (ws, h1)) (hl : ws.length = is.length) (hr : (is.zip ws).foldl (fun ρ p => ρ.set p.1 (some p.2)) ρ = ρ1) : sSeq (sPar g is) rest ρ h = rest ρ1 h1 := by
  unfold sSeq sPar
  simp only [hg, sbnd, hl, if_true, hr]
theorem zR {E : EM} {w : W} (he : E ρ h = some (w, h1)) : sRet E ρ h = some (.rt w, h1) := by
  unfold sRet
  simp only [he, sbnd]
end
end DL
set_option maxRecDepth 100000
set_option maxHeartbeats 400000
namespace DL
open PySem L2
end DL
set_option maxRecDepth 100000
set_option maxHeartbeats 400000
namespace DL
open PySem L2
end DL
set_option maxRecDepth 100000
set_option maxHeartbeats 400000
namespace DL
open PySem L2
end DL
set_option maxRecDepth 100000
set_option maxHeartbeats 400000
namespace DL
open PySem L2
def EvP (t : Nat → Bool) (a k : Nat) : Prop := ∀ n, a ≤ n → t (n + k) = t n
theorem EvP.mono {t : Nat → Bool} {a b k : Nat} (h : EvP t a k) (q : a ≤ b) : EvP t b k := fun n hn => h n (by omega)
end DL
set_option maxRecDepth 100000
set_option maxHeartbeats 400000
namespace DL
open PySem L2
end DL
set_option maxRecDepth 100000
set_option maxHeartbeats 400000
namespace DL
open PySem L2
end DL
set_option maxRecDepth 100000
set_option maxHeartbeats 400000
namespace DL
open PySem L2
theorem sIx_m1 (n d : Nat) : HT.sIx n d (some (-1)) = n - 1 := by
  have e : HT.sIx n d (some (-1)) = ((-1 : Int) + (n : Int)).toNat := rfl
  rw [e]
  omega
theorem cut_lastG {α : Type} (xs : List α) : cutG xs (some (-1)) none = xs.drop (xs.length - 1) := by
  unfold cutG
  rw [sIx_m1, HT.sIx_none, ← List.length_drop, List.take_length]
def tl (t : Nat → Bool) (a n : Nat) : List Bool := (List.range n).map fun s => t (a + s)
theorem sl_runF {A E : EM} {ρ : DL.Env} {h : Hh} {x y : List D} {i : Int} (ha : A ρ h = some (.dat (.list x), h)) (he : E ρ h = some (.dat (.int i), h)) (hc : cutG x (some i) none = y) : fSl false A (oSome E) (oNone) ρ h = some (.dat (.list y), h) := by
  unfold fSl oNone oSome
  simp only [ha, obnd, he, cutW, deref, hc]
  rfl
theorem neg1 {ρ : DL.Env} {h : Hh} : fNeg (fC (.int 1)) ρ h = some (.dat (.int (-1)), h) := rfl
end DL
set_option maxRecDepth 100000
set_option maxHeartbeats 400000
namespace DL
open PySem L2
end DL
set_option maxRecDepth 100000
set_option maxHeartbeats 400000
namespace DL
open PySem L2
end DL
set_option maxRecDepth 100000
set_option maxHeartbeats 400000
namespace DL
open PySem L2
end DL
set_option maxRecDepth 100000
set_option maxHeartbeats 400000
namespace DL
open PySem L2
theorem fnM_rt {rm : Bool} {np nl : Nat} {body : SM} {ws : List W} {h h' : Hh} {w : W} {r : Option (W × Hh)} (hb : body (ws.map some ++ List.replicate (nl - np) none) h = some (.rt w, h')) (e : ws.length = np) (lv : leave rm h w h' = r) : fnM rm np nl body ws h = r := by
  rw [fnM_e _ _ _ _ _ _ e, hb, retK_rt, lv]
section
variable {h : Hh}
theorem add_i {i j : Int} : addW false (.dat (.int i)) (.dat (.int j)) h = some (.dat (.int (i + j)), h) := rfl
theorem sub_i {i j : Int} : subW (.dat (.int i)) (.dat (.int j)) h = some (.dat (.int (i - j)), h) := by
  unfold subW intW
  simp only [deref, if_true]
  rfl
theorem all_b {bs : List Bool} {b : Bool} (e : bs.all id = b) : allW [.dat (.list (bs.map .bool))] h = some (.dat (.bool b), h) := by
  have ba : bools (bs.map PyData.bool) = some bs := by have := bools_map (fun b : Bool => b) bs; rwa [List.map_id'] at this
  unfold allW lW
  simp only [deref, ba, e]
  rfl
theorem eq_i {i j : Int} {b : Bool} (hb : decide (i = j) = b) : eqW false (.dat (.int i)) (.dat (.int j)) h = some (.dat (.bool b), h) := by
  rw [eqW_ints, if_neg (by simp), hb]; rfl
theorem ne_i {i j : Int} {b : Bool} (hb : decide (i = j) = b) : eqW true (.dat (.int i)) (.dat (.int j)) h = some (.dat (.bool (!b)), h) := by
  rw [eqW_ints, if_pos rfl, hb]; rfl
theorem xAndF {A B : EM} {ρ : DL.Env} (e : A ρ h = some (.dat (.bool false), h)) : fAnd A B ρ h = some (.dat (.bool false), h) := by
  unfold fAnd
  simp only [e, obnd]
  rfl
end
abbrev zz : Str := "zz"
end DL
set_option maxRecDepth 100000
set_option maxHeartbeats 400000
namespace DL
open PySem L2
structure Grow (b : Nat) (h h' : Hh) : Prop where
  le : h.length ≤ h'.length
  off : ∀ i : Nat, i < h.length → i ≠ b → h'[i]? = h[i]?
theorem Grow.only {b : Nat} {h h' : Hh} (o : Only b h h') : Grow b h h' := ⟨by rw [o.len]; exact Nat.le_refl _, fun i _ n => o.off i n⟩
theorem Grow.app {b : Nat} {h l : Hh} : Grow b h (h ++ l) := ⟨by rw [List.length_append]; omega, fun i hi _ => List.getElem?_append_left hi⟩
theorem Grow.trans {b : Nat} {h h1 h2 : Hh} (x : Grow b h h1) (y : Grow b h1 h2) : Grow b h h2 := ⟨Nat.le_trans x.le y.le, fun i hi n => (y.off i (Nat.lt_of_lt_of_le hi x.le) n).trans (x.off i hi n)⟩
end DL
set_option maxRecDepth 100000
namespace DL
open PySem L2
end DL
set_option maxRecDepth 100000
set_option maxHeartbeats 400000
namespace DL
open PySem L2
end DL
set_option maxRecDepth 100000
namespace DL
open PySem L2
end DL
set_option maxRecDepth 100000
set_option maxHeartbeats 400000
namespace DL
open PySem L2
end DL
set_option maxRecDepth 100000
set_option maxHeartbeats 400000
namespace DL
open PySem L2
section
variable {ρ ρ1 : DL.Env} {h h1 h2 : Hh}
theorem bAndF {a b : BM} (e : a ρ h = some (false, h1)) : bAnd a b ρ h = some (false, h1) := by
  unfold bAnd
  simp only [e, obnd, Bool.false_eq_true, if_false]
theorem bAndT {a b : BM} {r : Option (Bool × Hh)} (e : a ρ h = some (true, h1)) (q : b ρ h1 = r) : bAnd a b ρ h = r := by
  unfold bAnd
  simp only [e, obnd, if_true]
  exact q
theorem zApp {A E : EM} {rest : SM} {n : Nat} {ds : List D} {d : D} (ha : A ρ h = some (.ref n, h1)) (hn : h1[n]? = some (some (.lst ds))) (he : E ρ h1 = some (.dat d, h2)) (hn2 : h2[n]? = some (some (.lst ds))) (hl : ds.length < sizeLine) :
    sSeq (sExpr (fM isL appendW A (fCons E fNil))) rest ρ h = rest ρ (h2.set n (some (.lst (ds ++ [d])))) := by
  have il : isL (.ref n) h1 = true := by simp only [isL, deref, hn]
  have ap : appendW (.ref n) [.dat d] h2 = some (.dat .none, h2.set n (some (.lst (ds ++ [d])))) := by
    simp only [appendW, lstAt, hn2, setL, hl, if_true]
  unfold sSeq sExpr fM
  simp only [ha, obnd, il, if_true, xC he xN, ap, sbnd]
end
theorem cut_from1 {α : Type} (xs : List α) : cutG xs (some 1) none = xs.drop 1 := cut_drop xs (k := 1)
end DL
set_option maxHeartbeats 400000
namespace LW
open PySem L2 DL
local macro_rules | `(tactic| walk_at "dl") => `(tactic| simp (config := { dsimp := false }) only [↓fnM_e, ↓sSeq_e, seqK_nx, seqK_rt, seqK_bk, seqK_ct, retK_rt, retK_nx, ↓sFrz_e, frK_some, ↓sAsg, ↓sRet, ↓sRetN, ↓sIf, ↓sExpr, ↓sSkip, ↓sNever, ↓sPar, ↓sFor, ↓sSub, ↓fVar, ↓fC, ↓fNil, ↓fCons, ↓fA, ↓f1, ↓f2, ↓fB, ↓fIf, ↓fNeg, ↓fNot, ↓fAnd, ↓fOr, ↓bNot, ↓bAnd, ↓bOr, ↓bYes, ↓obnd_x, ob_some, ↓sbnd_x, sb_some, ↓ite_x, iteK_t, iteK_f, gN, gT, gC, gE, ↓rng1I, ↓rng2I, ↓seqI, ↓enumA, ↓zipI, ↓strI, ↓fLc, ↓fDc, ↓fM, ↓fSl, ↓oNone, ↓oSome, ↓fRev, wipeE, ↓kwM, permM, permL, List.foldr, List.length_cons, List.length_nil, List.map_cons, List.map_nil, List.cons_append, List.nil_append, List.replicate, List.replicate_succ, List.replicate_zero, List.getElem?_cons_zero, List.getElem?_cons_succ, List.set_cons_zero, List.set_cons_succ, if_true, if_false, reduceIte, Nat.reduceAdd, Nat.reduceSub, Nat.reduceEqDiff, Nat.reduceLT, Nat.reduceLeDiff, Int.reduceLT, Int.reduceLE, Int.reduceNeg, Int.reduceMul, Int.reduceAdd, Int.reduceSub, Int.reduceToNat, Int.reducePow, Int.reduceEq, ok, bok, deref, mkL, lstW, tupW, dats, Option.map_some, appendW, insertW, setL, isL, listW, tupleW, lenW, absW, intC, maxW, minW, idxW, addW, subW_e, modW_e, divW_e, powW_e, mulW, intW, lt_e, gt_e, le_e, ge_e, ltW, allW_e, anyW_e, sumW_e, lW, setW, lstAt, cutW, backW, isW, isiW, iLT_none, iLT_bool, iLT_int, iLT_str, iLT_list, iLT_tup, iL_none, iL_bool, iL_int, iL_str, iL_list, iL_tup, iT_none, iT_bool, iT_int, iT_str, iT_list, iT_tup, iS_none, iS_bool, iS_int, iS_str, iS_list, iS_tup, iI_none, iI_bool, iI_int, iI_str, iI_list, iI_tup, iB_none, iB_bool, iB_int, iB_str, iB_list, iB_tup, Bool.false_eq_true, reduceCtorEq, Bool.not_true, Bool.not_false, decide_true, decide_false, List.zip_cons_cons, List.zip_nil_left, List.foldl_cons, List.foldl_nil, and_self, and_true, true_and, Bool.and_true, Bool.true_and, Bool.or_true, Bool.true_or, *])
noncomputable def m__law_walk : FM := fnM false 3 8 (sSeq (sAsg (fA (lstW true) (fCons (fA tupW (fCons (fVar 1) (fCons (fVar 2) (fNil)))) (fNil))) (gN 3))
    (sSeq (sFor (seqI (fRev false (fVar 0))) (gN 4)
    (sSeq (sAsg (fA tupW (fCons (fA (dictA false) (fCons (fVar 4) (fNil))) (fCons (f2 idxW (fVar 3) (fNeg (fC (.int 1)))) (fNil)))) (gT 2 (gC (gN 5) (gC (gT 2 (gC (gN 6) (gC (gN 7) (gE)))) (gE)))))
    (sExpr (fM isL appendW (fVar 3) (fCons (fIf (fB (f2 (eqW false) (f2 idxW (fVar 5) (fVar 6)) (f2 idxW (fVar 5) (fVar 7)))) (fA tupW (fCons (fVar 6) (fCons (fVar 7) (fNil)))) (fA tupW (fCons (f2 idxW (fVar 5) (fVar 6)) (fCons (f2 idxW (fVar 5) (fVar 7)) (fNil))))) (fNil))))))
    (sRet (fVar 3))))
noncomputable def m__law_odd : FM := fnM false 1 2 (sSeq (sAsg (fA (lstW false) (fCons (fC .none) (fCons (fC (.bool true)) (fCons (fC (.int 0)) (fCons (fC (.int 1)) (fCons (fNeg (fC (.int 1))) (fCons (fC (.str "")) (fCons (fC (.str "a")) (fCons (fC (.str "A")) (fCons (fC (.str "a b")) (fCons (fC (.str "abcdefg")) (fCons (fC (.str "a1")) (fCons (fA tupW (fNil)) (fCons (fA (lstW false) (fNil)) (fCons (fA tupW (fCons (fC (.str "a")) (fNil))) (fCons (fA (lstW false) (fCons (fC (.str "a")) (fNil))) (fCons (fA tupW (fCons (fC (.str "a")) (fCons (fC (.str "a")) (fNil)))) (fCons (fA tupW (fCons (fC (.str "a")) (fCons (fC (.str "b")) (fNil)))) (fNil))))))))))))))))))) (gN 1))
    (sRet (f2 idxW (f2 (addW false) (fVar 1) (fA (lstW false) (fCons (fA tupW (fCons (fA tupW (fCons (fC (.str "a")) (fCons (fC (.str "a")) (fNil)))) (fNil))) (fCons (fA (lstW false) (fCons (fA tupW (fCons (fC (.str "a")) (fCons (fC (.str "a")) (fNil)))) (fNil))) (fCons (fA tupW (fCons (fA tupW (fCons (fC (.str "a")) (fCons (fC (.str "b")) (fNil)))) (fNil))) (fCons (fA tupW (fCons (fA tupW (fNil)) (fNil))) (fNil))))))) (fA (m__law_take) (fCons (fVar 0) (fCons (fC (.int 21)) (fNil)))))))
noncomputable def m__law_sameB : Nat → FM
  | 0 => fun _ _ => none
  | n + 1 => fnM false 2 4 (sSeq (sIf (fB (f1 (isiW ["list", "tuple"]) (fVar 1))) (sSeq (sIf (bOr (fB (f2 (eqW true) (f1 (isiW ["list"]) (fVar 0)) (f1 (isiW ["list"]) (fVar 1)))) (fB (f2 (eqW true) (f1 (isiW ["tuple"]) (fVar 0)) (f1 (isiW ["tuple"]) (fVar 1))))) (sRet (fC (.bool false))) (sSkip))
    (sSeq (sIf (fB (f2 (eqW true) (fA lenW (fCons (fVar 0) (fNil))) (fA lenW (fCons (fVar 1) (fNil))))) (sRet (fC (.bool false))) (sSkip))
    (sRet (fA allW (fCons (fLc false (zipB (fCons (fVar 0) (fCons (fVar 1) (fNil)))) (gT 2 (gC (gN 2) (gC (gN 3) (gE)))) (bYes) (fA (m__law_sameB n) (fCons (fVar 2) (fCons (fVar 3) (fNil)))) [2, 3]) (fNil)))))) (sSkip))
    (sSeq (sIf (bOr (fB (f2 (isW false) (fVar 1) (fC .none))) (fB (f1 (isiW ["str"]) (fVar 1)))) (sRet (fAnd (f2 (eqW false) (fVar 0) (fVar 1)) (f2 (eqW false) (f1 (isiW ["str"]) (fVar 0)) (f1 (isiW ["str"]) (fVar 1))))) (sSkip))
    (sRet (fAnd (f1 (isiW ["int"]) (fVar 0)) (fAnd (f2 (eqW false) (f1 (isiW ["bool"]) (fVar 0)) (f1 (isiW ["bool"]) (fVar 1))) (f2 (eqW false) (fVar 0) (fVar 1)))))))
noncomputable def m__law_otherwise : Nat → FM
  | 0 => fun _ _ => none
  | n + 1 => fnM false 2 5 (sSeq (sIf (bAnd (fB (f1 (isiW ["list", "tuple"]) (fVar 1))) (bAnd (fB (f2 gt_W (fA lenW (fCons (fVar 1) (fNil))) (fC (.int 0)))) (fB (f2 gt_W (fA (m__law_take) (fCons (fVar 0) (fCons (fC (.int 6)) (fNil)))) (fC (.int 0)))))) (sSeq (sPar (fCons (fA (m__law_take) (fCons (fVar 0) (fCons (fA lenW (fCons (fVar 1) (fNil))) (fNil)))) (fCons (fA (m__law_take) (fCons (fVar 0) (fCons (fC (.int 10)) (fNil)))) (fCons (fA (listW true) (fCons (fVar 1) (fNil))) (fNil)))) [2, 3, 4])
    (sSeq (sIf (fB (f2 lt_W (fVar 3) (fC (.int 6)))) (sSub (fA (m__law_otherwise n) (fCons (fVar 0) (fCons (f2 idxW (fVar 1) (fVar 2)) (fNil)))) (fVar 4) (fVar 2)) (sIf (fB (f2 (eqW false) (fVar 3) (fC (.int 6)))) (sExpr (fM isL popAtW (fVar 4) (fCons (fVar 2) (fNil)))) (sIf (fB (f2 (eqW false) (fVar 3) (fC (.int 7)))) (sExpr (fM isL insertW (fVar 4) (fCons (fVar 2) (fCons (f2 idxW (fVar 1) (fVar 2)) (fNil))))) (sIf (fB (f2 (eqW false) (fVar 3) (fC (.int 8)))) (sExpr (fM isL reverseW (fVar 4) fNil)) (sRet (fIf (fB (f1 (isiW ["tuple"]) (fVar 1))) (fVar 4) (fA tupleW (fCons (fVar 4) (fNil)))))))))
    (sFrz 4 (sRet (fIf (fB (f1 (isiW ["list"]) (fVar 1))) (fVar 4) (fA tupleW (fCons (fVar 4) (fNil)))))))) (sSkip))
    (sSeq (sIf (bAnd (fB (f1 (isiW ["int"]) (fVar 1))) (bAnd (bNot (fB (f1 (isiW ["bool"]) (fVar 1)))) (fB (f2 gt_W (fA (m__law_take) (fCons (fVar 0) (fCons (fC (.int 4)) (fNil)))) (fC (.int 0)))))) (sRet (f2 idxW (fA (lstW false) (fCons (f2 (addW false) (fVar 1) (fC (.int 1))) (fCons (f2 subW (fVar 1) (fC (.int 1))) (fCons (fC (.int 0)) (fCons (fNeg (fVar 1)) (fCons (f2 (eqW false) (fVar 1) (fC (.int 1))) (fCons (fA strIW (fCons (fVar 1) (fNil))) (fCons (fC .none) (fNil))))))))) (fA (m__law_take) (fCons (fVar 0) (fCons (fC (.int 7)) (fNil)))))) (sSkip))
    (sSeq (sIf (bAnd (fB (f1 (isiW ["str"]) (fVar 1))) (fB (f2 gt_W (fA (m__law_take) (fCons (fVar 0) (fCons (fC (.int 4)) (fNil)))) (fC (.int 0))))) (sRet (f2 idxW (fA (lstW false) (fCons (f2 (addW false) (fVar 1) (fC (.str "s"))) (fCons (fSl false (fVar 1) (oSome (fC (.int 1))) (oNone)) (fCons (fUp (fVar 1)) (fCons (f2 (addW false) (fVar 1) (fC (.str " "))) (fCons (fA tupW (fCons (fVar 1) (fNil))) (fCons (fRev false (fVar 1)) (fNil)))))))) (fA (m__law_take) (fCons (fVar 0) (fCons (fC (.int 6)) (fNil)))))) (sSkip))
    (sRet (fA (m__law_odd) (fCons (fVar 0) (fNil)))))))
noncomputable def m__law_right : FM := fnM false 1 16 (sSeq (sAsg (f2 (addW false) (fA (m__law_crew) (fCons (fVar 0) (fCons (fC (.int 7)) (fNil)))) (fA (lstW false) (fCons (fC (.str "qqq")) (fNil)))) (gN 1))
    (sSeq (sPar (fCons (fA tupRW (fCons (fA (m__law_strewn) (fCons (fVar 0) (fCons (fVar 1) (fNil)))) (fNil))) (fCons (fA (m__law_asks) (fCons (fVar 0) (fCons (fVar 1) (fCons (fC (.int 8)) (fNil))))) (fNil))) [7, 8])
    (sSeq (sAsg (fA (m__law_two) (fCons (fVar 0) (fCons (fVar 1) (fNil)))) (gT 2 (gC (gN 9) (gC (gN 10) (gE)))))
    (sSeq (sPar (fCons (fA (m__law_walk) (fCons (fVar 8) (fCons (fVar 9) (fCons (fVar 10) (fNil))))) (fCons (fA (m__law_walk) (fCons (fVar 8) (fCons (fVar 10) (fCons (fVar 9) (fNil))))) (fNil))) [11, 12])
    (sSeq (sAsg (f2 lt_W (fM isRow indexR (fVar 7) (fCons (f2 idxW (f2 idxW (fVar 11) (fNeg (fC (.int 1)))) (fC (.int 0))) (fNil))) (fM isRow indexR (fVar 7) (fCons (f2 idxW (f2 idxW (fVar 11) (fNeg (fC (.int 1)))) (fC (.int 1))) (fNil)))) (gN 2))
    (sSeq (sAsg (fA (lstW false) (fCons (fVar 11) (fCons (fVar 12) (fCons (fA tupleW (fCons (fVar 11) (fNil))) (fCons (fLc false (seqI (fVar 11)) (gN 15) (bYes) (fA (listW false) (fCons (fVar 15) (fNil))) [15]) (fCons (fSl false (fVar 11) (oSome (fC (.int 1))) (oNone)) (fCons (fRev false (fVar 11)) (fNil)))))))) (gN 3))
    (sSeq (sAsg (f2 (addW true) (fVar 3) (fA (lstW false) (fCons (fA (lstW false) (fNil)) (fCons (fC .none) (fCons (fA tupW (fNil)) (fCons (f2 (addW false) (fVar 11) (fSl false (fVar 11) (oSome (fNeg (fC (.int 1)))) (oNone))) (fNil))))))) (gN 3))
    (sSeq (sFor (rng1I (fCons (fC (.int 12)) (fNil))) (gN 4)
    (sSeq (sAsg (fA (m__law_otherwise 12) (fCons (fVar 0) (fCons (fVar 11) (fNil)))) (gN 5))
    (sExpr (fM isL appendW (fVar 3) (fCons (fIf (fB (f2 (eqW false) (fA (m__law_take) (fCons (fVar 0) (fCons (fC (.int 3)) (fNil)))) (fC (.int 0)))) (fA (m__law_otherwise 12) (fCons (fVar 0) (fCons (fVar 5) (fNil)))) (fVar 5)) (fNil))))))
    (sFrz 3 (sSeq (sFor (seqI (fVar 3)) (gN 5)
    (sSeq (sPar (fCons (fA reprA (fCons (fVar 5) (fNil))) (fCons (fA (m__law_sameB 12) (fCons (fVar 5) (fCons (fVar 11) (fNil)))) (fNil))) [13, 14])
    (sSeq (sIf (bNot (fB (fA (m__law_sameB 12) (fCons (fA (m_shows_ahead) (fCons (fAsT (fVar 7)) (fCons (fVar 8) (fCons (fVar 9) (fCons (fVar 10) (fCons (fVar 5) (fNil))))))) (fCons (fAnd (fVar 14) (fVar 2)) (fNil)))))) (sRet (fC (.bool false))) (sSkip))
    (sIf (fB (f2 (eqW true) (fA reprA (fCons (fVar 5) (fNil))) (fVar 13))) (sRet (fC (.bool false))) (sSkip)))))
    (sSeq (sAsg (fA (lstW true) (fCons (fA (m_shows_ahead) (fCons (fA (listW false) (fCons (fAsT (fVar 7)) (fNil))) (fCons (fA tupleW (fCons (fA (m__law_lists 12) (fCons (fVar 8) (fNil))) (fNil))) (fCons (fVar 9) (fCons (fVar 10) (fCons (fVar 11) (fNil))))))) (fNil))) (gN 6))
    (sSeq (sExpr (fM isL appendW (fVar 6) (fCons (fA (kwM 5 [4, 3, 2, 1, 0] (m_shows_ahead)) (fCons (fVar 12) (fCons (fVar 9) (fCons (fVar 10) (fCons (fVar 8) (fCons (fAsT (fVar 7)) (fNil))))))) (fNil))))
    (sFrz 6 (sRet (fA (m__law_sameB 12) (fCons (fVar 6) (fCons (fA (lstW false) (fCons (fVar 2) (fCons (fNot (fVar 2)) (fNil)))) (fNil))))))))))))))))))
noncomputable def m_law : FM := fnM false 1 4 (sSeq (sFor (rng1I (fCons (fA maxW (fCons (fC (.int 1)) (fCons (fA minW (fCons (fC (.int 3)) (fCons (fA lenW (fCons (fVar 0) (fNil))) (fNil)))) (fNil)))) (fNil))) (gN 1)
    (sSeq (sAsg (fA (m__law_box) (fCons (fVar 0) (fCons (fVar 1) (fNil)))) (gN 2))
    (sIf (bNot (fB (fA allW (fCons (fLc false (rng1I (fCons (fC (.int 4)) (fNil))) (gN 3) (bYes) (fA (m__law_right) (fCons (fVar 2) (fNil))) [3]) (fNil))))) (sRet (fC (.bool false))) (sSkip))))
    (sRet (fC (.bool true))))
mutual
def gd (m : Nat) : D → Bool
  | .str s => decide (s.length ≤ m) && s.cps.toList.all (· < 128)
  | .int i => decide (i.natAbs + 20 ≤ m)
  | .list ds => gds m ds
  | .tuple ds => gds m ds
  | .none => true
  | .bool _ => true
  | .dict _ => false
def gds (m : Nat) : List D → Bool
  | [] => true
  | d :: ds => gd m d && gds m ds
end
theorem gds_iff {m : Nat} : ∀ {ds : List D}, gds m ds = true ↔ ∀ d ∈ ds, gd m d = true
  | [] => by simp [gds]
  | d :: ds => by
    rw [gds, Bool.and_eq_true, gds_iff (ds := ds)]
    simp
mutual
theorem gd_up {m n : Nat} (h : m ≤ n) : ∀ {d : D}, gd m d = true → gd n d = true
  | .str s, e => by
    rw [gd, Bool.and_eq_true, decide_eq_true_eq] at e ⊢
    exact ⟨by omega, e.2⟩
  | .int i, e => by
    rw [gd, decide_eq_true_eq] at e ⊢
    omega
  | .list ds, e => by rw [gd] at e ⊢; exact gds_up h e
  | .tuple ds, e => by rw [gd] at e ⊢; exact gds_up h e
  | .none, _ => by rw [gd]
  | .bool _, _ => by rw [gd]
  | .dict _, e => by simp [gd] at e
theorem gds_up {m n : Nat} (h : m ≤ n) : ∀ {ds : List D}, gds m ds = true → gds n ds = true
  | [], _ => rfl
  | d :: ds, e => by
    rw [gds, Bool.and_eq_true] at e
    rw [gds, gd_up h e.1, gds_up h e.2]; rfl
end
theorem gd_txt {m : Nat} {s : Str} (hm : m ≤ 100) (h : gd m (.str s) = true) : TxtOk s := by
  rw [gd] at h
  simp only [Bool.and_eq_true, decide_eq_true_eq, List.all_eq_true] at h
  exact ⟨by omega, fun c hc => h.2 c hc⟩
theorem small_int {i : Int} {m : Nat} (hm : m ≤ 25) (h : gd m (.int i) = true) : i = -5 ∨ i = -4 ∨ i = -3 ∨ i = -2 ∨ i = -1 ∨ i = 0 ∨ i = 1 ∨ i = 2 ∨ i = 3 ∨ i = 4 ∨ i = 5 := by
  rw [gd, decide_eq_true_eq] at h
  omega
mutual
theorem gd_lay {m : Nat} (hm : m ≤ 25) : ∀ {d : D}, gd m d = true → d.canLay0 = true ∧ d.showable = true ∧ d.shown.length ≤ costD d
  | .none, _ => tx_lay rfl
  | .bool b, _ => tx_lay rfl
  | .int i, h => by
    have key : ∀ j : Int, (j = -5 ∨ j = -4 ∨ j = -3 ∨ j = -2 ∨ j = -1 ∨ j = 0 ∨ j = 1 ∨ j = 2 ∨ j = 3 ∨ j = 4 ∨ j = 5) → PyData.showable (.int j) = true ∧ (PyData.shown (.int j)).length ≤ costD (.int j) := fun j hj => by
      rcases hj with h | h | h | h | h | h | h | h | h | h | h <;> subst h <;> exact ⟨by decide +kernel, by decide +kernel⟩
    obtain ⟨k1, k2⟩ := key i (small_int hm h)
    exact ⟨by simp [PyData.canLay0], k1, k2⟩
  | .dict _, h => by simp [gd] at h
  | .str s, h => tx_lay (tx_str (gd_txt (by omega) h))
  | .list ds, h => by
    rw [gd] at h
    obtain ⟨h1, h2, h3⟩ := gd_lays hm h
    refine ⟨by rw [PyData.canLay0]; exact h1, by rw [PyData.showable]; exact h2, ?_⟩
    rw [PyData.shown, costD]
    exact Nat.le_trans (listText_len_le _) (by omega)
  | .tuple ds, h => by
    rw [gd] at h
    obtain ⟨h1, h2, h3⟩ := gd_lays hm h
    refine ⟨by rw [PyData.canLay0]; exact h1, by rw [PyData.showable]; exact h2, ?_⟩
    rw [PyData.shown, costD]
    exact Nat.le_trans (tupleText_len_le _) (by omega)
theorem gd_lays {m : Nat} (hm : m ≤ 25) : ∀ {ds : List D}, gds m ds = true → PyData.canLayAll0 ds = true ∧ PyData.showableAll ds = true ∧ ((PyData.shownAll ds).map (·.length)).sum + 2 * (PyData.shownAll ds).length ≤ costDs ds
  | [], _ => ⟨rfl, rfl, Nat.le_refl _⟩
  | d :: ds, h => by
    rw [gds, Bool.and_eq_true] at h
    obtain ⟨a1, a2, a3⟩ := gd_lay hm h.1
    obtain ⟨b1, b2, b3⟩ := gd_lays hm h.2
    refine ⟨by rw [PyData.canLayAll0, a1, b1]; rfl, by rw [PyData.showableAll, a2, b2]; rfl, ?_⟩
    rw [PyData.shownAll, costDs, List.map_cons, List.sum_cons, List.length_cons]
    omega
end
theorem gd_shp {m : Nat} {d : D} (hm : m ≤ 25) (h : gd m d = true) (hp : d.depth ≤ 64) : shp d = true := by
  obtain ⟨h1, _, _⟩ := gd_lay hm h
  unfold shp
  rw [h1, Bool.true_and, decide_eq_true_eq]
  exact hp
theorem reprA_ok {m : Nat} {d : D} {h : Hh} (hm : m ≤ 25) (hd : gd m d = true) (hp : d.depth ≤ 64) (hc : costD d ≤ 16777216) : reprA [.dat d] h = some (.dat (.str d.shown), h) := by
  obtain ⟨h1, h2, h3⟩ := gd_lay hm hd
  have h4 : d.shown.length ≤ sizeLine := Nat.le_trans h3 hc
  have h5 := gd_shp hm hd hp
  have h6 : okI d = true := by
    cases d with
    | int i => rcases small_int hm hd with h | h | h | h | h | h | h | h | h | h | h <;> subst h <;> decide +kernel
    | dict es => simp [gd] at hd
    | _ => rfl
  unfold reprA
  simp only [deref, h6, h5, h2, h4, Bool.and_self, decide_true, if_true]
  rfl
theorem depthAll_iff {k : Nat} : ∀ {ds : List D}, PyData.depthAll ds ≤ k ↔ ∀ d ∈ ds, PyData.depth d ≤ k
  | [] => by simp [PyData.depthAll]
  | d :: ds => by
    rw [PyData.depthAll, Nat.max_le, depthAll_iff (ds := ds)]
    simp
theorem costDs_app : ∀ (A B : List D), costDs (A ++ B) = costDs A + costDs B
  | [], B => by rw [List.nil_append, costDs, Nat.zero_add]
  | d :: A, B => by
    rw [List.cons_append, costDs, costDs, costDs_app A B]
    omega
theorem costDs_one (d : D) : costDs [d] = costD d + 2 := by rw [costDs, costDs]
theorem costDs_rev : ∀ (A : List D), costDs A.reverse = costDs A
  | [] => rfl
  | d :: A => by
    rw [List.reverse_cons, costDs_app, costDs_rev A, costDs_one, costDs]
    omega
theorem costDs_len : ∀ (A : List D), A.length ≤ costDs A
  | [] => Nat.le_refl _
  | d :: A => by
    have := costDs_len A
    rw [List.length_cons, costDs]
    omega
theorem split_at {α : Type} : ∀ {ds : List α} {i : Nat} {x : α}, ds[i]? = some x → ∃ A B, ds = A ++ x :: B ∧ A.length = i
  | [], _, _, h => by simp at h
  | d :: ds, 0, x, h => by
    cases h
    exact ⟨[], ds, rfl, rfl⟩
  | d :: ds, i + 1, x, h => by
    obtain ⟨A, B, e, l⟩ := split_at (ds := ds) (i := i) (x := x) (by simpa using h)
    exact ⟨d :: A, B, by rw [e]; rfl, by rw [List.length_cons, l]⟩
theorem split_set {α : Type} (A B : List α) (x y : α) : (A ++ x :: B).set A.length y = A ++ y :: B := by
  induction A with
  | nil => rfl
  | cons a A ih => rw [List.cons_append, List.length_cons, List.set_cons_succ, ih]; rfl
theorem split_erase {α : Type} (A B : List α) (x : α) : (A ++ x :: B).eraseIdx A.length = A ++ B := by
  induction A with
  | nil => rfl
  | cons a A ih => rw [List.cons_append, List.length_cons, List.eraseIdx_cons_succ, ih]; rfl
structure Fit (m k c : Nat) (ds : List D) : Prop where
  g : gds m ds = true
  d : PyData.depthAll ds ≤ k
  c : costDs ds ≤ c
theorem Fit.list {m k c : Nat} {ds : List D} (f : Fit m k c ds) : gd m (.list ds) = true ∧ PyData.depth (.list ds) ≤ k + 1 ∧ costD (.list ds) ≤ c + 3 := by
  refine ⟨by rw [gd]; exact f.g, ?_, ?_⟩
  · have := f.d; rw [PyData.depth]; omega
  · have := f.c; rw [costD]; omega
theorem Fit.tuple {m k c : Nat} {ds : List D} (f : Fit m k c ds) : gd m (.tuple ds) = true ∧ PyData.depth (.tuple ds) ≤ k + 1 ∧ costD (.tuple ds) ≤ c + 3 := by
  refine ⟨by rw [gd]; exact f.g, ?_, ?_⟩
  · have := f.d; rw [PyData.depth]; omega
  · have := f.c; rw [costD]; omega
theorem Fit.mid {m k c : Nat} {A B : List D} {x y : D} (f : Fit m k c (A ++ x :: B)) (hg : gd (m + 1) y = true) (hd : PyData.depth y ≤ PyData.depth x + 3) (hc : costD y ≤ 2 * costD x + 3000) : Fit (m + 1) (k + 3) (2 * c + 3000) (A ++ y :: B) := by
  have g := gds_iff.mp f.g
  have d := depthAll_iff.mp f.d
  have dx := d x (by simp)
  refine ⟨gds_iff.mpr fun z hz => ?_, depthAll_iff.mpr fun z hz => ?_, ?_⟩
  · rcases List.mem_append.mp hz with h | h
    · exact gd_up (by omega) (g z (List.mem_append_left _ h))
    · rcases List.mem_cons.mp h with h | h
      · rw [h]; exact hg
      · exact gd_up (by omega) (g z (List.mem_append_right _ (List.mem_cons_of_mem _ h)))
  · rcases List.mem_append.mp hz with h | h
    · have := d z (List.mem_append_left _ h); omega
    · rcases List.mem_cons.mp h with h | h
      · rw [h]; omega
      · have := d z (List.mem_append_right _ (List.mem_cons_of_mem _ h)); omega
  · have e := f.c
    rw [costDs_app, costDs] at e ⊢
    omega
theorem Fit.sub {m k c : Nat} {ds es : List D} (f : Fit m k c ds) (hs : ∀ z ∈ es, z ∈ ds) (hc : costDs es ≤ 2 * costDs ds + 3000) : Fit (m + 1) (k + 3) (2 * c + 3000) es := by
  have g := gds_iff.mp f.g
  have d := depthAll_iff.mp f.d
  have e := f.c
  exact ⟨gds_iff.mpr fun z hz => gd_up (by omega) (g z (hs z hz)), depthAll_iff.mpr fun z hz => by have := d z (hs z hz); omega, by omega⟩
section
variable {ρ ρ1 : DL.Env} {h h1 h2 : Hh}
theorem sIfF {t : BM} {a : SM} (e : t ρ h = some (false, h1)) : sIf t a sSkip ρ h = some (.nx ρ, h1) := by
  unfold sIf
  simp only [e, sbnd, Bool.false_eq_true, if_false, sSkip]
theorem sIt {t : BM} {a f : SM} (e : t ρ h = some (true, h1)) : sIf t a f ρ h = a ρ h1 := by
  unfold sIf
  simp only [e, sbnd, if_true]
theorem sIe {t : BM} {a f : SM} (e : t ρ h = some (false, h1)) : sIf t a f ρ h = f ρ h1 := by
  unfold sIf
  simp only [e, sbnd, Bool.false_eq_true, if_false]
theorem xIfT {t : BM} {f g : EM} {z : Option (W × Hh)} (e : t ρ h = some (true, h1)) (q : f ρ h1 = z) : fIf t f g ρ h = z := by
  unfold fIf
  simp only [e, obnd, if_true]
  exact q
theorem xIfF {t : BM} {f g : EM} {z : Option (W × Hh)} (e : t ρ h = some (false, h1)) (q : g ρ h1 = z) : fIf t f g ρ h = z := by
  unfold fIf
  simp only [e, obnd, Bool.false_eq_true, if_false]
  exact q
theorem xBh {E : EM} {b : Bool} (e : E ρ h = some (.dat (.bool b), h1)) : fB E ρ h = some (b, h1) := by
  unfold fB
  simp only [e, obnd]
theorem xNB {E : EM} {b : Bool} (e : E ρ h = some (.dat (.bool b), h1)) : bNot (fB E) ρ h = some (!b, h1) := by
  unfold bNot fB
  simp only [e, obnd]
theorem gt_i {i j : Int} : gt_W (.dat (.int i)) (.dat (.int j)) h = some (.dat (.bool (decide (j < i))), h) := by
  unfold gt_W ltW
  simp only [deref]
  rfl
theorem lt_i' {i j : Int} : lt_W (.dat (.int i)) (.dat (.int j)) h = some (.dat (.bool (decide (i < j))), h) := by
  unfold lt_W ltW
  simp only [deref]
  rfl
theorem zRt {a rest : SM} {w : W} (e : a ρ h = some (.rt w, h1)) : sSeq a rest ρ h = some (.rt w, h1) := by
  unfold sSeq
  rw [e]
theorem zNx {a rest : SM} (e : a ρ h = some (.nx ρ1, h1)) : sSeq a rest ρ h = rest ρ1 h1 := by
  unfold sSeq
  rw [e]
theorem isi_d {m i : Nat} {ts : List String} {d : D} (e : fVar i ρ h = some (.dat d, h)) (nd : gd m d = true) : f1 (isiW ts) (fVar i) ρ h = some (.dat (.bool (ts.any fun t => isT1 t d)), h) := by
  unfold f1
  simp only [e, obnd]
  unfold isiW
  cases d with
  | dict es => simp [gd] at nd
  | _ => rfl
theorem idxW_lst {x : List D} {i : Int} {d : D} (a : L2.atI x i = some d) : idxW (.dat (.list x)) (.dat (.int i)) h = some (.dat d, h) := by
  unfold idxW
  simp only [deref, a]
  rfl
end
theorem drawn {xs : List D} {E : EM} {ρ : DL.Env} {b c : Nat} {h : Hh} {n : Int} (hb : BoxAt h b c) (hc : c < 100000000) (he : E ρ h = some (.dat (.list xs), h)) (h0 : fVar 0 ρ h = some (.ref b, h)) (hn : (xs.length : Int) = n) (n0 : 0 < n) (n1 : n ≤ 1000) :
    ∃ d h', f2 idxW E (fA (m__law_take) (fCons (fVar 0) (fCons (fC (.int n)) (fNil)))) ρ h = some (.dat d, h') ∧ d ∈ xs ∧ BoxAt h' b (c + 1) ∧ Only b h h' := by
  obtain ⟨r, h', e, r0, r1, b1, o1⟩ := take_ok (n := n) hb (by omega) n0 (by omega)
  have hr : r.toNat < xs.length := by omega
  have er : L2.atI xs r = some xs[r.toNat] := by
    have := atI_nat (xs := xs) (j := r.toNat) (List.getElem?_eq_getElem hr)
    rwa [show ((r.toNat : Nat) : Int) = r by omega] at this
  exact ⟨_, h', x2 (f := idxW) he (xA (xC h0 (xC (E := fC (.int n)) rfl xN)) e) (idxW_lst er), List.getElem_mem hr, b1, o1⟩
def oddA : List D := [.none, .bool true, .int 0, .int 1, .int (-1), .str "", .str "a", .str "A", .str "a b", .str "abcdefg", .str "a1", .tuple [], .list [], .tuple [.str "a"], .list [.str "a"], .tuple [.str "a", .str "a"], .tuple [.str "a", .str "b"]]
def oddB : List D := [.tuple [.tuple [.str "a", .str "a"]], .list [.tuple [.str "a", .str "a"]], .tuple [.tuple [.str "a", .str "b"]], .tuple [.tuple []]]
theorem odd_fit : ∀ d ∈ oddA ++ oddB, gd 21 d = true ∧ PyData.depth d ≤ 2 ∧ costD d ≤ 1000 := by
  have key : ((oddA ++ oddB).all fun d => gd 21 d && decide (PyData.depth d ≤ 2) && decide (costD d ≤ 1000)) = true := by decide +kernel
  intro d hd
  have := List.all_eq_true.mp key d hd
  simp only [Bool.and_eq_true, decide_eq_true_eq] at this
  exact ⟨this.1.1, this.1.2, this.2⟩
theorem odd_ok {h : Hh} {b c : Nat} (hb : BoxAt h b c) (hc : c < 100000000) : ∃ d h', m__law_odd [.ref b] h = some (.dat d, h') ∧ d ∈ oddA ++ oddB ∧ BoxAt h' b (c + 1) ∧ Only b h h' := by
  have hz : sizeLine = 16777216 := rfl
  have e1 : f2 (addW false) (fVar 1) (fA (lstW false) (fCons (fA tupW (fCons (fA tupW (fCons (fC (.str "a")) (fCons (fC (.str "a")) (fNil)))) (fNil))) (fCons (fA (lstW false) (fCons (fA tupW (fCons (fC (.str "a")) (fCons (fC (.str "a")) (fNil)))) (fNil))) (fCons (fA tupW (fCons (fA tupW (fCons (fC (.str "a")) (fCons (fC (.str "b")) (fNil)))) (fNil))) (fCons (fA tupW (fCons (fA tupW (fNil)) (fNil))) (fNil)))))) [some (.ref b), some (.dat (.list oddA))] h = some (.dat (.list (oddA ++ oddB)), h) := rfl
  obtain ⟨d, h', e, hd, b1, o1⟩ := drawn (ρ := [some (.ref b), some (.dat (.list oddA))]) (n := 21) hb hc e1 rfl rfl (by omega) (by omega)
  refine ⟨d, h', ?_, hd, b1, o1⟩
  unfold m__law_odd
  refine fnM_rt (h' := h') (w := .dat d) ?_ rfl (leave_dat' hb b1 o1)
  refine (zA (ρ1 := [some (.ref b), some (.dat (.list oddA))]) (w := .dat (.list oddA)) (h1 := h) rfl rfl).trans ?_
  exact zR e
theorem asc {m : Nat} {s : Str} (h : gd m (.str s) = true) : s.cps.toList.length ≤ m ∧ ∀ c ∈ s.cps.toList, c < 128 := by
  rw [gd] at h
  simp only [Bool.and_eq_true, decide_eq_true_eq, List.all_eq_true] at h
  refine ⟨?_, fun c hc => h.2 c hc⟩
  have := h.1
  rwa [show s.length = s.cps.toList.length from by rw [Array.length_toList]; rfl] at this
theorem gd_of {m : Nat} {s : Str} (h1 : s.cps.toList.length ≤ m) (h2 : ∀ c ∈ s.cps.toList, c < 128) : gd m (.str s) = true := by
  rw [gd]
  simp only [Bool.and_eq_true, decide_eq_true_eq, List.all_eq_true]
  refine ⟨?_, fun c hc => h2 c hc⟩
  rwa [show s.length = s.cps.toList.length from by rw [Array.length_toList]; rfl]
theorem cps_app (s t : Str) : (s ++ t).cps.toList = s.cps.toList ++ t.cps.toList := by
  show (s.cps ++ t.cps).toList = _
  rw [Array.toList_append]
theorem gd_app {m : Nat} {s t : Str} (h : gd m (.str s) = true) (h1 : t.cps.toList.length ≤ 1) (h2 : ∀ c ∈ t.cps.toList, c < 128) : gd (m + 1) (.str (s ++ t)) = true := by
  obtain ⟨a1, a2⟩ := asc h
  refine gd_of (by rw [cps_app, List.length_append]; omega) fun c hc => ?_
  rw [cps_app] at hc
  exact (List.mem_append.mp hc).elim (a2 c) (h2 c)
theorem gd_cut {m : Nat} {s : Str} (h : gd m (.str s) = true) (lo hi : Option Int) : gd (m + 1) (.str (cutS s lo hi)) = true := by
  obtain ⟨a1, a2⟩ := asc h
  have e : (cutS s lo hi).cps.toList = (s.cps.toList.drop (HT.sIx s.length 0 lo)).take (HT.sIx s.length s.length hi - HT.sIx s.length 0 lo) := rfl
  refine gd_of ?_ fun c hc => ?_
  · rw [e, List.length_take, List.length_drop]; omega
  · rw [e] at hc
    exact a2 c (List.mem_of_mem_drop (List.mem_of_mem_take hc))
theorem gd_rev {m : Nat} {s : Str} (h : gd m (.str s) = true) : gd (m + 1) (.str (revS s)) = true := by
  obtain ⟨a1, a2⟩ := asc h
  have e : (revS s).cps.toList = s.cps.toList.reverse := rfl
  refine gd_of ?_ fun c hc => ?_
  · rw [e, List.length_reverse]; omega
  · rw [e] at hc
    exact a2 c (List.mem_reverse.mp hc)
theorem gd_upper {m : Nat} {s : Str} (h : gd m (.str s) = true) : gd (m + 1) (.str (Txt.upper s)) = true := by
  obtain ⟨a1, a2⟩ := asc h
  have e : (Txt.upper s).cps.toList = s.cps.toList.map PyProof.Rows.up1 := by
    rw [PyProof.Rows.upper_ascii a2]
    exact Array.toList_map
  refine gd_of ?_ fun c hc => ?_
  · rw [e, List.length_map]; omega
  · rw [e] at hc
    obtain ⟨x, hx, rfl⟩ := List.mem_map.mp hc
    have := a2 x hx
    unfold PyProof.Rows.up1
    split <;> omega
theorem cost_str {m : Nat} {s : Str} (h : gd m (.str s) = true) (hm : m ≤ 100) : costD (.str s) ≤ 1002 := by
  obtain ⟨a1, a2⟩ := asc h
  rw [costD, show s.length = s.cps.toList.length from by rw [Array.length_toList]; rfl]
  omega
theorem gd_num {m : Nat} {i : Int} (hm : m ≤ 25) (h0 : 20 ≤ m) (h : gd m (.int i) = true) : gd (m + 1) (.str (toString i : String)) = true ∧ i.natAbs.log2 < 1920 := by
  have key : ∀ j : Int, (j = -5 ∨ j = -4 ∨ j = -3 ∨ j = -2 ∨ j = -1 ∨ j = 0 ∨ j = 1 ∨ j = 2 ∨ j = 3 ∨ j = 4 ∨ j = 5) → gd 20 (.str (toString j : String)) = true ∧ j.natAbs.log2 < 1920 := fun j hj => by
    rcases hj with h | h | h | h | h | h | h | h | h | h | h <;> subst h <;> exact ⟨by decide +kernel, by decide +kernel⟩
  obtain ⟨k1, k2⟩ := key i (small_int hm h)
  exact ⟨gd_up (by omega) k1, k2⟩
noncomputable def otT1 : BM := (bAnd (fB (f1 (isiW ["list", "tuple"]) (fVar 1))) (bAnd (fB (f2 gt_W (fA lenW (fCons (fVar 1) (fNil))) (fC (.int 0)))) (fB (f2 gt_W (fA (m__law_take) (fCons (fVar 0) (fCons (fC (.int 6)) (fNil)))) (fC (.int 0))))))
noncomputable def otT2 : BM := (bAnd (fB (f1 (isiW ["int"]) (fVar 1))) (bAnd (bNot (fB (f1 (isiW ["bool"]) (fVar 1)))) (fB (f2 gt_W (fA (m__law_take) (fCons (fVar 0) (fCons (fC (.int 4)) (fNil)))) (fC (.int 0))))))
noncomputable def otT3 : BM := (bAnd (fB (f1 (isiW ["str"]) (fVar 1))) (fB (f2 gt_W (fA (m__law_take) (fCons (fVar 0) (fCons (fC (.int 4)) (fNil)))) (fC (.int 0)))))
noncomputable def otC (n : Nat) : SM := (sIf (fB (f2 lt_W (fVar 3) (fC (.int 6)))) (sSub (fA (m__law_otherwise n) (fCons (fVar 0) (fCons (f2 idxW (fVar 1) (fVar 2)) (fNil)))) (fVar 4) (fVar 2)) (sIf (fB (f2 (eqW false) (fVar 3) (fC (.int 6)))) (sExpr (fM isL popAtW (fVar 4) (fCons (fVar 2) (fNil)))) (sIf (fB (f2 (eqW false) (fVar 3) (fC (.int 7)))) (sExpr (fM isL insertW (fVar 4) (fCons (fVar 2) (fCons (f2 idxW (fVar 1) (fVar 2)) (fNil))))) (sIf (fB (f2 (eqW false) (fVar 3) (fC (.int 8)))) (sExpr (fM isL reverseW (fVar 4) fNil)) (sRet (fIf (fB (f1 (isiW ["tuple"]) (fVar 1))) (fVar 4) (fA tupleW (fCons (fVar 4) (fNil)))))))))
noncomputable def otA (n : Nat) : SM := (sSeq (sPar (fCons (fA (m__law_take) (fCons (fVar 0) (fCons (fA lenW (fCons (fVar 1) (fNil))) (fNil)))) (fCons (fA (m__law_take) (fCons (fVar 0) (fCons (fC (.int 10)) (fNil)))) (fCons (fA (listW true) (fCons (fVar 1) (fNil))) (fNil)))) [2, 3, 4])
    (sSeq (otC n)
    (sFrz 4 (sRet (fIf (fB (f1 (isiW ["list"]) (fVar 1))) (fVar 4) (fA tupleW (fCons (fVar 4) (fNil))))))))
noncomputable def otI : EM := (f2 idxW (fA (lstW false) (fCons (f2 (addW false) (fVar 1) (fC (.int 1))) (fCons (f2 subW (fVar 1) (fC (.int 1))) (fCons (fC (.int 0)) (fCons (fNeg (fVar 1)) (fCons (f2 (eqW false) (fVar 1) (fC (.int 1))) (fCons (fA strIW (fCons (fVar 1) (fNil))) (fCons (fC .none) (fNil))))))))) (fA (m__law_take) (fCons (fVar 0) (fCons (fC (.int 7)) (fNil)))))
noncomputable def otS : EM := (f2 idxW (fA (lstW false) (fCons (f2 (addW false) (fVar 1) (fC (.str "s"))) (fCons (fSl false (fVar 1) (oSome (fC (.int 1))) (oNone)) (fCons (fUp (fVar 1)) (fCons (f2 (addW false) (fVar 1) (fC (.str " "))) (fCons (fA tupW (fCons (fVar 1) (fNil))) (fCons (fRev false (fVar 1)) (fNil)))))))) (fA (m__law_take) (fCons (fVar 0) (fCons (fC (.int 6)) (fNil)))))
theorem other_eq (n : Nat) : m__law_otherwise (n + 1) = fnM false 2 5 (sSeq (sIf otT1 (otA n) (sSkip)) (sSeq (sIf otT2 (sRet otI) (sSkip)) (sSeq (sIf otT3 (sRet otS) (sSkip)) (sRet (fA (m__law_odd) (fCons (fVar 0) (fNil))))))) := rfl
structure Ot (m : Nat) (d d' : D) : Prop where
  g : gd (m + 1) d' = true
  dep : PyData.depth d' ≤ PyData.depth d + 3
  c : costD d' ≤ 2 * costD d + 3000
theorem Ot.odd {m : Nat} {d x : D} (hm : 20 ≤ m) (h : x ∈ oddA ++ oddB) : Ot m d x := by
  obtain ⟨a, b, c⟩ := odd_fit x h
  exact ⟨gd_up (by omega) a, by omega, by omega⟩
abbrev e0t (b : Nat) (d : D) : DL.Env := [some (.ref b), some (.dat d), none, none, none]
section
variable {b c m : Nat} {d : D} {h : Hh}
theorem take_gt {n : Int} (hb : BoxAt h b c) (hc : c < 100000000) (n0 : 0 < n) (n1 : n ≤ 1000) : ∃ t h', fB (f2 gt_W (fA (m__law_take) (fCons (fVar 0) (fCons (fC (.int n)) (fNil)))) (fC (.int 0))) (e0t b d) h = some (t, h') ∧ BoxAt h' b (c + 1) ∧ Only b h h' := by
  obtain ⟨r, h', e, _, _, b1, o1⟩ := take_ok (n := n) hb (by omega) n0 (by omega)
  exact ⟨_, h', xBh (x2 (f := gt_W) (xA (xC (E := fVar 0) rfl (xC (E := fC (.int n)) rfl xN)) e) (B := fC (.int 0)) rfl gt_i), b1, o1⟩
theorem isi1 {ts : List String} (nd : gd m d = true) {g : Hh} : fB (f1 (isiW ts) (fVar 1)) (e0t b d) g = some (ts.any fun t => isT1 t d, g) := xBh (isi_d rfl nd)
theorem fall_odd {n : Nat} {g1 g2 g3 : Hh} (hb : BoxAt h b c) (hc : c < 1000000) (hm : 20 ≤ m) (e1 : otT1 (e0t b d) h = some (false, g1)) (e2 : otT2 (e0t b d) g1 = some (false, g2)) (e3 : otT3 (e0t b d) g2 = some (false, g3)) (b3 : BoxAt g3 b (c + 3)) (o3 : Only b h g3) :
    ∃ d' h', m__law_otherwise (n + 1) [.ref b, .dat d] h = some (.dat d', h') ∧ Ot m d d' ∧ BoxAt h' b (c + 10 * (n + 1)) ∧ Only b h h' := by
  obtain ⟨x, h', e, hx, b4, o4⟩ := odd_ok b3 (by omega)
  have oo := o3.trans o4
  refine ⟨x, h', ?_, Ot.odd hm hx, b4.mono (by omega), oo⟩
  rw [other_eq]
  refine fnM_rt (h' := h') (w := .dat x) ?_ rfl (leave_dat' hb b4 oo)
  show sSeq _ _ (e0t b d) h = _
  refine (zNx (sIfF e1)).trans ((zNx (sIfF e2)).trans ((zNx (sIfF e3)).trans ?_))
  exact zR (xA (xC (E := fVar 0) rfl xN) e)
end
theorem other_leaf {n b c m : Nat} {d : D} {h : Hh} (hb : BoxAt h b c) (hc : c < 1000000) (hm : 20 ≤ m) (hm2 : m ≤ 24) (nd : gd m d = true) (nl : isT1 "list" d = false ∧ isT1 "tuple" d = false) :
    ∃ d' h', m__law_otherwise (n + 1) [.ref b, .dat d] h = some (.dat d', h') ∧ Ot m d d' ∧ BoxAt h' b (c + 10 * (n + 1)) ∧ Only b h h' := by
  have hz : sizeLine = 16777216 := rfl
  have t1 : otT1 (e0t b d) h = some (false, h) := bAndF ((isi1 nd).trans (by rw [List.any_cons, List.any_cons, List.any_nil, nl.1, nl.2]; rfl))
  have b0 : BoxAt h b (c + 3) := hb.mono (by omega)
  cases d with
  | none => exact fall_odd hb hc hm t1 (bAndF (isi1 nd)) (bAndF (isi1 nd)) b0 (Only.refl b h)
  | bool z =>
    refine fall_odd hb hc hm t1 (bAndT (isi1 nd) (bAndF ?_)) (bAndF (isi1 nd)) b0 (Only.refl b h)
    exact xNB (b := true) (isi_d rfl nd)
  | dict es => simp [gd] at nd
  | list ds => exact absurd (show isT1 "list" (.list ds) = true from rfl) (by rw [nl.1]; decide)
  | tuple ds => exact absurd (show isT1 "tuple" (.tuple ds) = true from rfl) (by rw [nl.2]; decide)
  | int i =>
    obtain ⟨t, g, et, b1, o1⟩ := take_gt (d := .int i) (n := 4) hb (by omega) (by omega) (by omega)
    have t2 : otT2 (e0t b (.int i)) h = some (t, g) := bAndT (isi1 nd) (bAndT (xNB (b := false) (isi_d rfl nd)) et)
    cases t with
    | false => exact fall_odd hb hc hm t1 t2 (bAndF (isi1 nd)) (b1.mono (by omega)) o1
    | true =>
      obtain ⟨gs, lg⟩ := gd_num (by omega) hm nd
      let L7 : List D := [.int (i + 1), .int (i - 1), .int 0, .int (-i), .bool (decide (i = 1)), .str (toString i : String), .none]
      have eL : fA (lstW false) (fCons (f2 (addW false) (fVar 1) (fC (.int 1))) (fCons (f2 subW (fVar 1) (fC (.int 1))) (fCons (fC (.int 0)) (fCons (fNeg (fVar 1)) (fCons (f2 (eqW false) (fVar 1) (fC (.int 1))) (fCons (fA strIW (fCons (fVar 1) (fNil))) (fCons (fC .none) (fNil)))))))) (e0t b (.int i)) g = some (.dat (.list L7), g) := by
        have si : strIW [.dat (.int i)] g = some (.dat (.str (toString i : String)), g) := by
          unfold strIW
          dsimp only
          rw [if_pos lg]; rfl
        exact xA (xC (x2 (A := fVar 1) (B := fC (.int 1)) rfl rfl add_i) (xC (x2 (A := fVar 1) (B := fC (.int 1)) rfl rfl sub_i) (xC (E := fC (.int 0)) rfl (xC (E := fNeg (fVar 1)) (w := .dat (.int (-i))) rfl (xC (x2 (A := fVar 1) (B := fC (.int 1)) rfl rfl (eq_i rfl)) (xC (xA (xC (E := fVar 1) rfl xN) si) (xC (E := fC .none) rfl xN))))))) (xLst (ds := L7) rfl (by show 7 ≤ sizeLine; omega))
      obtain ⟨x, h', e, hx, b2, o2⟩ := drawn (ρ := e0t b (.int i)) (xs := L7) (n := 7) b1 (by omega) eL rfl rfl (by omega) (by omega)
      have oo := o1.trans o2
      refine ⟨x, h', ?_, ?_, b2.mono (by omega), oo⟩
      · rw [other_eq]
        refine fnM_rt (h' := h') (w := .dat x) ?_ rfl (leave_dat' hb b2 oo)
        show sSeq _ _ (e0t b (.int i)) h = _
        exact (zNx (sIfF t1)).trans (zRt ((sIt t2).trans (zR e)))
      · have ni : i.natAbs + 20 ≤ m := by rw [gd, decide_eq_true_eq] at nd; exact nd
        have gi : ∀ j : Int, j.natAbs ≤ i.natAbs + 1 → Ot m (.int i) (.int j) := fun j hj => ⟨by rw [gd, decide_eq_true_eq]; omega, by show 0 ≤ _; omega, by show 5 ≤ _; omega⟩
        simp only [L7, List.mem_cons, List.not_mem_nil, or_false] at hx
        rcases hx with rfl | rfl | rfl | rfl | rfl | rfl | rfl
        · exact gi _ (by omega)
        · exact gi _ (by omega)
        · exact gi _ (by omega)
        · exact gi _ (by omega)
        · exact ⟨by rw [gd], by show 0 ≤ _; omega, by show 5 ≤ _; omega⟩
        · exact ⟨gs, by show 0 ≤ _; omega, by have := cost_str gs (by omega); omega⟩
        · exact ⟨by rw [gd], by show 0 ≤ _; omega, by show 5 ≤ _; omega⟩
  | str s =>
    obtain ⟨t, g, et, b1, o1⟩ := take_gt (d := .str s) (n := 4) hb (by omega) (by omega) (by omega)
    have t2 : otT2 (e0t b (.str s)) h = some (false, h) := bAndF (isi1 nd)
    have t3 : otT3 (e0t b (.str s)) h = some (t, g) := bAndT (isi1 nd) et
    cases t with
    | false => exact fall_odd hb hc hm t1 t2 t3 (b1.mono (by omega)) o1
    | true =>
      obtain ⟨a1, a2⟩ := asc nd
      have sl : s.length = s.cps.toList.length := by rw [Array.length_toList]; rfl
      let L6 : List D := [.str (s ++ ("s" : Str)), .str (cutS s (some 1) none), .str (Txt.upper s), .str (s ++ (" " : Str)), .tuple [.str s], .str (revS s)]
      have eL : fA (lstW false) (fCons (f2 (addW false) (fVar 1) (fC (.str "s"))) (fCons (fSl false (fVar 1) (oSome (fC (.int 1))) (oNone)) (fCons (fUp (fVar 1)) (fCons (f2 (addW false) (fVar 1) (fC (.str " "))) (fCons (fA tupW (fCons (fVar 1) (fNil))) (fCons (fRev false (fVar 1)) (fNil))))))) (e0t b (.str s)) g = some (.dat (.list L6), g) := by
        have ad : ∀ t : Str, t.length ≤ 1 → addW false (.dat (.str s)) (.dat (.str t)) g = some (.dat (.str (s ++ t)), g) := fun t ht => by
          unfold addW
          simp only [deref]
          rw [if_pos (by omega)]; rfl
        have cu : fSl false (fVar 1) (oSome (fC (.int 1))) (oNone) (e0t b (.str s)) g = some (.dat (.str (cutS s (some 1) none)), g) := by
          show cutW false (.dat (.str s)) (some 1) none g = _
          unfold cutW
          simp only [deref]
          rw [if_pos (by omega)]; rfl
        have up : fUp (fVar 1) (e0t b (.str s)) g = some (.dat (.str (Txt.upper s)), g) := by
          show (if s.length ≤ 5592405 then ok (.str (Txt.upper s)) g else none) = _
          rw [if_pos (by omega)]; rfl
        have re : fRev false (fVar 1) (e0t b (.str s)) g = some (.dat (.str (revS s)), g) := by
          show backW false (.dat (.str s)) g = _
          unfold backW
          dsimp only
          rw [if_pos (by omega)]
        exact xA (xC (x2 (f := addW false) (A := fVar 1) (B := fC (.str "s")) rfl rfl (ad _ (by decide))) (xC cu (xC up (xC (x2 (f := addW false) (A := fVar 1) (B := fC (.str " ")) rfl rfl (ad _ (by decide))) (xC (xA (xC (E := fVar 1) rfl xN) (xTp (ds := [.str s]) rfl (by show 1 ≤ sizeLine; omega))) (xC re xN)))))) (xLst (ds := L6) rfl (by show 6 ≤ sizeLine; omega))
      obtain ⟨x, h', e, hx, b2, o2⟩ := drawn (ρ := e0t b (.str s)) (xs := L6) (n := 6) b1 (by omega) eL rfl rfl (by omega) (by omega)
      have oo := o1.trans o2
      refine ⟨x, h', ?_, ?_, b2.mono (by omega), oo⟩
      · rw [other_eq]
        refine fnM_rt (h' := h') (w := .dat x) ?_ rfl (leave_dat' hb b2 oo)
        show sSeq _ _ (e0t b (.str s)) h = _
        exact (zNx (sIfF t1)).trans ((zNx (sIfF t2)).trans (zRt ((sIt t3).trans (zR e))))
      · have gs : ∀ u : Str, gd (m + 1) (.str u) = true → Ot m (.str s) (.str u) := fun u hu => ⟨hu, by show 0 ≤ _; omega, by have := cost_str hu (by omega); omega⟩
        simp only [L6, List.mem_cons, List.not_mem_nil, or_false] at hx
        rcases hx with rfl | rfl | rfl | rfl | rfl | rfl
        · exact gs _ (gd_app nd (by decide) (by decide))
        · exact gs _ (gd_cut nd _ _)
        · exact gs _ (gd_upper nd)
        · exact gs _ (gd_app nd (by decide) (by decide))
        · have cs := cost_str nd (by omega)
          refine ⟨?_, by show 1 + 0 ≤ _; omega, ?_⟩
          · rw [gd, gds, gds, gd_up (by omega) nd]; rfl
          · rw [show costD (.tuple [.str s]) = costDs [.str s] + 3 from by rw [costD], costDs_one]; omega
        · exact gs _ (gd_rev nd)
section
variable {ρ : DL.Env} {h h1 : Hh}
theorem xM {sem : W → List W → Hh → Option (W × Hh)} {A : EM} {ga : AM} {n : Nat} {ds : List D} {ws : List W} {r : Option (W × Hh)} (ha : A ρ h = some (.ref n, h)) (hn : h[n]? = some (some (.lst ds))) (ea : ga ρ h = some (ws, h)) (q : sem (.ref n) ws h = r) : fM isL sem A ga ρ h = r := by
  have il : isL (.ref n) h = true := by
    unfold isL
    simp only [deref, hn]
  unfold fM
  simp only [ha, obnd, il, if_true, ea, q]
theorem zEx' {E : EM} {w : W} (he : E ρ h = some (w, h1)) : sExpr E ρ h = some (.nx ρ, h1) := by
  unfold sExpr
  simp only [he, sbnd]
end
abbrev e5t (b : Nat) (x : D) (at_ turn : Int) (n : Nat) : DL.Env := [some (.ref b), some (.dat x), some (.dat (.int at_)), some (.dat (.int turn)), some (.ref n)]
theorem idx_seq {x : D} {ds : List D} {i : Int} {d : D} {h : Hh} (hx : IsSeq x ds) (a : L2.atI ds i = some d) : idxW (.dat x) (.dat (.int i)) h = some (.dat d, h) := by
  rcases hx with rfl | rfl
  · exact idxW_lst a
  · unfold idxW
    simp only [deref, a]
    rfl
theorem only_one {b : Nat} {g h' : Hh} {o : Option MO} (hb : b < g.length) (x : Only b (g ++ [o]) h') : ∃ g' : Hh, h' = g' ++ [o] ∧ Only b g g' := by
  obtain ⟨q, g', e, l⟩ := only_app hb x
  refine ⟨g', e, ?_⟩
  rw [e, ← l, List.take_left] at q
  exact q
theorem box_one {g l : Hh} {b c : Nat} (x : BoxAt g b c) : BoxAt (g ++ l) b c := by
  have lt := x.lt
  obtain ⟨d, s, k, e, r⟩ := x
  exact ⟨d, s, k, by rw [List.getElem?_append_left lt]; exact e, r⟩
theorem box_bk {g l : Hh} {b c : Nat} (lt : b < g.length) (x : BoxAt (g ++ l) b c) : BoxAt g b c := by
  obtain ⟨d, s, k, e, r⟩ := x
  exact ⟨d, s, k, by rw [List.getElem?_append_left lt] at e; exact e, r⟩
theorem otC_ok {n m b c : Nat} {x : D} {ds : List D} {at_ turn : Int} {g : Hh} (ih : ∀ {d : D} {h : Hh} {c : Nat}, PyData.depth d < n → gd m d = true → costD d ≤ 1000000 → BoxAt h b c → c + 10 * n ≤ 900000 → ∃ d' h', m__law_otherwise n [.ref b, .dat d] h = some (.dat d', h') ∧ Ot m d d' ∧ BoxAt h' b (c + 10 * n) ∧ Only b h h')
    (hx : IsSeq x ds) (f : Fit m (PyData.depthAll ds) (costDs ds) ds) (hd : PyData.depthAll ds < n) (hcs : costDs ds ≤ 1000000) (hb : BoxAt g b c) (hc : c + 10 * n ≤ 900000) (a0 : 0 ≤ at_) (a1 : at_.toNat < ds.length) (t0 : 0 ≤ turn) (t9 : turn < 9) :
    ∃ ds' g', otC n (e5t b x at_ turn g.length) (g ++ [some (.lst ds)]) = some (.nx (e5t b x at_ turn g.length), g' ++ [some (.lst ds')]) ∧ Fit (m + 1) (PyData.depthAll ds + 3) (2 * costDs ds + 3000) ds' ∧ BoxAt g' b (c + 10 * n) ∧ Only b g g' := by
  have hz : sizeLine = 16777216 := rfl
  have dl := costDs_len ds
  have lb := hb.lt
  obtain ⟨y, ey⟩ : ∃ y, ds[at_.toNat]? = some y := ⟨_, List.getElem?_eq_getElem a1⟩
  have ai : L2.atI ds at_ = some y := by
    have := atI_nat (xs := ds) (j := at_.toNat) ey
    rwa [show ((at_.toNat : Nat) : Int) = at_ by omega] at this
  obtain ⟨A, B, eds, lA⟩ := split_at ey
  have hn : (g ++ [some (MO.lst ds)])[g.length]? = some (some (.lst ds)) := app_get rfl
  have la : lstAt (g ++ [some (MO.lst ds)]) g.length = some ds := by
    unfold lstAt
    rw [hn]
  have st : ∀ es : List D, (g ++ [some (MO.lst ds)]).set g.length (some (.lst es)) = g ++ [some (.lst es)] := fun es => app_set rfl
  have ix : f2 idxW (fVar 1) (fVar 2) (e5t b x at_ turn g.length) (g ++ [some (.lst ds)]) = some (.dat y, g ++ [some (.lst ds)]) := x2 (f := idxW) (A := fVar 1) (B := fVar 2) rfl rfl (idx_seq hx ai)
  have b10 : BoxAt g b (c + 10 * n) := hb.mono (by omega)
  have sub : ∀ (es : List D), (∀ z ∈ es, z ∈ ds) → costDs es ≤ 2 * costDs ds + 3000 → Fit (m + 1) (PyData.depthAll ds + 3) (2 * costDs ds + 3000) es := fun es hs hc => f.sub hs hc
  have cds : costDs ds = costDs A + (costD y + 2 + costDs B) := by rw [eds, costDs_app, costDs]
  unfold otC
  by_cases c6 : turn < 6
  · have t1 : fB (f2 lt_W (fVar 3) (fC (.int 6))) (e5t b x at_ turn g.length) (g ++ [some (.lst ds)]) = some (true, g ++ [some (.lst ds)]) := by
      refine xBh (x2 (f := lt_W) (A := fVar 3) (B := fC (.int 6)) rfl rfl ?_)
      rw [lt_i', decide_eq_true c6]
    have my : y ∈ ds := List.mem_of_getElem? ey
    have gy : gd m y = true := gds_iff.mp f.g y my
    have dy : PyData.depth y ≤ PyData.depthAll ds := depthAll_iff.mp f.d y my
    obtain ⟨y', h', e, oy, by', oo⟩ := ih (d := y) (h := g ++ [some (.lst ds)]) (c := c) (by omega) gy (by omega) (box_one hb) hc
    obtain ⟨g', rfl, og⟩ := only_one lb oo
    have gl : g'.length = g.length := og.len
    have hn' : (g' ++ [some (MO.lst ds)])[g.length]? = some (some (.lst ds)) := app_get gl
    have la' : lstAt (g' ++ [some (MO.lst ds)]) g.length = some ds := by
      unfold lstAt
      rw [hn']
    have xi : ixN ds.length at_ = some at_.toNat := by
      unfold ixN
      split <;> first | rfl | omega | (simp; omega)
    have sw : setW (.ref g.length) (.dat (.int at_)) (.dat y') (g' ++ [some (.lst ds)]) = some (g' ++ [some (.lst (A ++ y' :: B))]) := by
      unfold setW
      simp only [la', xi]
      rw [app_set gl, ← lA]
      conv => lhs; rw [eds]
      rw [split_set]
    refine ⟨A ++ y' :: B, g', ?_, ?_, box_bk (by omega) by', og⟩
    · rw [sIt t1]
      unfold sSub
      rw [xA (xC (E := fVar 0) (w := .ref b) rfl (xC ix xN)) e]
      simp only [sbnd_some]
      rw [show fVar 4 (e5t b x at_ turn g.length) (g' ++ [some (.lst ds)]) = some (.ref g.length, g' ++ [some (.lst ds)]) from rfl]
      simp only [sbnd_some]
      rw [show fVar 2 (e5t b x at_ turn g.length) (g' ++ [some (.lst ds)]) = some (.dat (.int at_), g' ++ [some (.lst ds)]) from rfl]
      simp only [sbnd_some, sw]
    · have f' := f
      rw [eds] at f' ⊢
      exact f'.mid oy.g oy.dep oy.c
  · have t1 : fB (f2 lt_W (fVar 3) (fC (.int 6))) (e5t b x at_ turn g.length) (g ++ [some (.lst ds)]) = some (false, g ++ [some (.lst ds)]) := by
      refine xBh (x2 (f := lt_W) (A := fVar 3) (B := fC (.int 6)) rfl rfl ?_)
      rw [lt_i', decide_eq_false c6]
    have tq : ∀ (k : Int) (z : Bool), decide (turn = k) = z → fB (f2 (eqW false) (fVar 3) (fC (.int k))) (e5t b x at_ turn g.length) (g ++ [some (.lst ds)]) = some (z, g ++ [some (.lst ds)]) := fun k z e => xBh (x2 (f := eqW false) (A := fVar 3) (B := fC (.int k)) rfl rfl (eq_i e))
    rw [sIe t1]
    by_cases c7 : turn = 6
    · refine ⟨A ++ B, g, ?_, ?_, b10, Only.refl b g⟩
      · rw [sIt (tq 6 true (decide_eq_true c7))]
        refine zEx' (w := .dat y) (xM (n := g.length) rfl hn (xC (E := fVar 2) rfl xN) ?_)
        unfold popAtW
        simp only [la]
        rw [if_pos ⟨a0, by omega⟩]
        simp only [ey]
        unfold setL
        rw [app_set rfl, ← lA]
        conv => lhs; rw [eds]
        rw [split_erase]
      · refine sub _ (fun z hz => ?_) (by rw [costDs_app]; omega)
        rw [eds]
        rcases List.mem_append.mp hz with h | h
        · exact List.mem_append_left _ h
        · exact List.mem_append_right _ (List.mem_cons_of_mem _ h)
    · rw [sIe (tq 6 false (decide_eq_false c7))]
      by_cases c8 : turn = 7
      · refine ⟨ds.take at_.toNat ++ [y] ++ ds.drop at_.toNat, g, ?_, ?_, b10, Only.refl b g⟩
        · rw [sIt (tq 7 true (decide_eq_true c8))]
          refine zEx' (w := .dat .none) (xM (n := g.length) rfl hn (xC (E := fVar 2) rfl (xC ix xN)) ?_)
          unfold insertW
          simp only [la]
          rw [if_pos ⟨by omega, a0, by omega⟩]
          unfold setL
          rw [app_set rfl]
        · have et : ds.take at_.toNat = A := by rw [← lA, eds, List.take_left]
          have ed : ds.drop at_.toNat = y :: B := by rw [← lA, eds, List.drop_left]
          rw [et, ed]
          refine sub _ (fun z hz => ?_) (by rw [costDs_app, costDs_app, costDs_one, costDs]; omega)
          rw [eds]
          rcases List.mem_append.mp hz with h | h
          · rcases List.mem_append.mp h with h | h
            · exact List.mem_append_left _ h
            · rw [List.mem_singleton] at h
              rw [h]; simp
          · exact List.mem_append_right _ h
      · rw [sIe (tq 7 false (decide_eq_false c8))]
        have c9 : turn = 8 := by omega
        refine ⟨ds.reverse, g, ?_, ?_, b10, Only.refl b g⟩
        · rw [sIt (tq 8 true (decide_eq_true c9))]
          refine zEx' (w := .dat .none) (xM (n := g.length) rfl hn xN ?_)
          unfold reverseW
          simp only [la]
          unfold setL
          rw [app_set rfl]
        · exact sub _ (fun z hz => List.mem_reverse.mp hz) (by rw [costDs_rev]; omega)
theorem seq_has {x : D} {ds : List D} (hx : IsSeq x ds) : ([("list" : String), "tuple"].any fun t => isT1 t x) = true ∧ (["int"].any fun t => isT1 t x) = false ∧ (["str"].any fun t => isT1 t x) = false ∧ PyData.depth x = PyData.depthAll ds + 1 ∧ costD x = costDs ds + 3 ∧ ∀ m, gd m x = gds m ds := by
  rcases hx with rfl | rfl
  · exact ⟨rfl, rfl, rfl, by rw [PyData.depth], by rw [costD], fun m => by rw [gd]⟩
  · exact ⟨rfl, rfl, rfl, by rw [PyData.depth], by rw [costD], fun m => by rw [gd]⟩
theorem len_seq {x : D} {ds : List D} {h : Hh} (hx : IsSeq x ds) : lenW [.dat x] h = some (.dat (.int (ds.length : Int)), h) := by
  rcases hx with rfl | rfl <;> rfl
theorem other_seq {n m b c : Nat} {x : D} {ds : List D} {h : Hh} (ih : ∀ {d : D} {h : Hh} {c : Nat}, PyData.depth d < n → gd m d = true → costD d ≤ 1000000 → BoxAt h b c → c + 10 * n ≤ 900000 → ∃ d' h', m__law_otherwise n [.ref b, .dat d] h = some (.dat d', h') ∧ Ot m d d' ∧ BoxAt h' b (c + 10 * n) ∧ Only b h h')
    (hx : IsSeq x ds) (hm : 20 ≤ m) (hm2 : m ≤ 24) (hg : gd m x = true) (hd : PyData.depth x < n + 1) (hcs : costD x ≤ 1000000) (hb : BoxAt h b c) (hc : c + 10 * (n + 1) ≤ 900000) :
    ∃ d' h', m__law_otherwise (n + 1) [.ref b, .dat x] h = some (.dat d', h') ∧ Ot m x d' ∧ BoxAt h' b (c + 10 * (n + 1)) ∧ Only b h h' := by
  have hz : sizeLine = 16777216 := rfl
  obtain ⟨s1, s2, s3, sd, sc, sg⟩ := seq_has hx
  have dl := costDs_len ds
  have t2 : ∀ g : Hh, otT2 (e0t b x) g = some (false, g) := fun g => bAndF ((isi1 hg).trans (by rw [s2]))
  have t3 : ∀ g : Hh, otT3 (e0t b x) g = some (false, g) := fun g => bAndF ((isi1 hg).trans (by rw [s3]))
  have i1 : ∀ g : Hh, fB (f1 (isiW ["list", "tuple"]) (fVar 1)) (e0t b x) g = some (true, g) := fun g => (isi1 hg).trans (by rw [s1])
  have lt : ∀ g : Hh, fB (f2 gt_W (fA lenW (fCons (fVar 1) (fNil))) (fC (.int 0))) (e0t b x) g = some (decide ((0 : Int) < (ds.length : Int)), g) := fun g => xBh (x2 (f := gt_W) (xA (xC (E := fVar 1) rfl xN) (len_seq hx)) (B := fC (.int 0)) rfl gt_i)
  by_cases e0 : ds.length = 0
  · have t1 : otT1 (e0t b x) h = some (false, h) := bAndT (i1 h) (bAndF ((lt h).trans (by rw [decide_eq_false (by omega)])))
    exact fall_odd hb (by omega) hm t1 (t2 h) (t3 h) (hb.mono (by omega)) (Only.refl b h)
  obtain ⟨t, g, et, b1, o1⟩ := take_gt (d := x) (n := 6) hb (by omega) (by omega) (by omega)
  have t1 : otT1 (e0t b x) h = some (t, g) := bAndT (i1 h) (bAndT ((lt h).trans (by rw [decide_eq_true (by omega)])) et)
  cases t with
  | false => exact fall_odd hb (by omega) hm t1 (t2 g) (t3 g) (b1.mono (by omega)) o1
  | true =>
    obtain ⟨at_, g2, e2, a0, a1, b2, o2⟩ := take_ok (n := (ds.length : Int)) b1 (by omega) (by omega) (by omega)
    obtain ⟨turn, g3, e3, u0, u1, b3, o3⟩ := take_ok (n := 10) b2 (by omega) (by omega) (by omega)
    have O3 := (o1.trans o2).trans o3
    have l3 : g3.length = h.length := O3.len
    have lb := hb.lt
    have fit : Fit m (PyData.depthAll ds) (costDs ds) ds := ⟨by rw [← sg]; exact hg, Nat.le_refl _, Nat.le_refl _⟩
    have lw : listW true [.dat x] g3 = some (.ref g3.length, g3 ++ [some (.lst ds)]) := by rcases hx with rfl | rfl <;> rfl
    have par : ∀ rest : SM, sSeq (sPar (fCons (fA (m__law_take) (fCons (fVar 0) (fCons (fA lenW (fCons (fVar 1) (fNil))) (fNil)))) (fCons (fA (m__law_take) (fCons (fVar 0) (fCons (fC (.int 10)) (fNil)))) (fCons (fA (listW true) (fCons (fVar 1) (fNil))) (fNil)))) [2, 3, 4]) rest (e0t b x) g = rest (e5t b x at_ turn g3.length) (g3 ++ [some (.lst ds)]) := fun rest =>
      zP (ws := [.dat (.int at_), .dat (.int turn), .ref g3.length]) (xC (xA (xC (E := fVar 0) rfl (xC (xA (xC (E := fVar 1) rfl xN) (len_seq hx)) xN)) e2) (xC (xA (xC (E := fVar 0) rfl (xC (E := fC (.int 10)) rfl xN)) e3) (xC (xA (xC (E := fVar 1) rfl xN) lw) xN))) rfl rfl
    have isx : ∀ (ts : List String) (g : Hh) (ρ : DL.Env), fVar 1 ρ g = some (.dat x, g) → fB (f1 (isiW ts) (fVar 1)) ρ g = some (ts.any fun t => isT1 t x, g) := fun ts g ρ e => xBh (isi_d e hg)
    by_cases c9 : turn < 9
    · obtain ⟨ds', g4, e4, f4, b4, o4⟩ := otC_ok ih hx fit (by omega) (by omega) b3 (by omega) a0 (by omega) u0 c9
      have gl : g4.length = g3.length := o4.len
      have hn : (g4 ++ [some (MO.lst ds')])[g3.length]? = some (some (.lst ds')) := app_get gl
      have st : (g4 ++ [some (MO.lst ds')]).set g3.length none = g4 ++ [none] := app_set gl
      have fz : frz 4 (e5t b x at_ turn g3.length) (g4 ++ [some (.lst ds')]) = some ([some (.ref b), some (.dat x), some (.dat (.int at_)), some (.dat (.int turn)), some (.dat (.list ds'))], g4 ++ [none]) := by
        have ne : (b = g3.length) = False := by
          have : b ≠ g3.length := by omega
          simpa using this
        unfold frz
        simp only [e5t, List.getElem?_cons_zero, List.getElem?_cons_succ, hn, List.set_cons_zero, List.set_cons_succ, List.any_cons, List.any_nil, isR_dat, isR_none, isR_ref, ne, decide_false, Bool.or_false, isTab, Bool.false_eq_true, if_false, moD, st]
      obtain ⟨hE, lvx, bE, oE⟩ : ∃ hE, (∀ d : D, leave false h (.dat d) (g4 ++ [none]) = some (.dat d, hE)) ∧ BoxAt hE b (c + 10 * (n + 1)) ∧ Only b h hE := by
        have O4 : Only b h g4 := O3.trans o4
        have tk : (g4 ++ [none]).take h.length = g4 := by rw [← O4.len, List.take_left]
        refine ⟨g4, fun d => ?_, b4.mono (by omega), O4⟩
        have := leave_dat (h := h) (h' := g4 ++ [none]) (d := d) (by rw [tk]; exact live_only hb b4 O4)
        rw [tk] at this
        exact this
      have run : ∀ y : D, fIf (fB (f1 (isiW ["list"]) (fVar 1))) (fVar 4) (fA tupleW (fCons (fVar 4) (fNil))) [some (.ref b), some (.dat x), some (.dat (.int at_)), some (.dat (.int turn)), some (.dat (.list ds'))] (g4 ++ [none]) = some (.dat y, g4 ++ [none]) → m__law_otherwise (n + 1) [.ref b, .dat x] h = some (.dat y, hE) := fun y ey => by
        rw [other_eq]
        refine fnM_rt (h' := g4 ++ [none]) (w := .dat y) ?_ rfl (lvx y)
        show sSeq _ _ (e0t b x) h = _
        refine zRt ((sIt t1).trans ?_)
        unfold otA
        refine (par _).trans ((zNx e4).trans ?_)
        unfold sFrz
        rw [fz]
        exact zR ey
      rcases hx with rfl | rfl
      · obtain ⟨q1, q2, q3⟩ := f4.list
        exact ⟨.list ds', hE, run _ (xIfT (isx ["list"] _ _ rfl) rfl), ⟨q1, by omega, by omega⟩, bE, oE⟩
      · obtain ⟨q1, q2, q3⟩ := f4.tuple
        exact ⟨.tuple ds', hE, run _ (xIfF (isx ["list"] _ _ rfl) (xA (xC (E := fVar 4) rfl xN) (xTup (.inl rfl)))), ⟨q1, by omega, by omega⟩, bE, oE⟩
    · -- turned into the other kind
      have f5 : Fit (m + 1) (PyData.depthAll ds + 3) (2 * costDs ds + 3000) ds := fit.sub (fun _ z => z) (by omega)
      have hn : (g3 ++ [some (MO.lst ds)])[g3.length]? = some (some (.lst ds)) := app_get rfl
      have tk : (g3 ++ [some (MO.lst ds)]).take h.length = g3 := by rw [← l3, List.take_left]
      have lvd : ∀ d : D, leave false h (.dat d) (g3 ++ [some (.lst ds)]) = some (.dat d, g3) := fun d => by
        have := leave_dat (h := h) (h' := g3 ++ [some (.lst ds)]) (d := d) (by rw [tk]; exact live_only hb b3 O3)
        rw [tk] at this
        exact this
      have lvr : leave false h (.ref g3.length) (g3 ++ [some (.lst ds)]) = some (.dat (.list ds), g3) := by
        unfold leave
        rw [tk, if_pos (live_only hb b3 O3)]
        simp only [hn]
        rw [if_neg (by omega), if_neg (by decide)]
      have tl : ∀ (f : SM), sIf (fB (f2 lt_W (fVar 3) (fC (.int 6)))) f (sIf (fB (f2 (eqW false) (fVar 3) (fC (.int 6)))) (sExpr (fM isL popAtW (fVar 4) (fCons (fVar 2) (fNil)))) (sIf (fB (f2 (eqW false) (fVar 3) (fC (.int 7)))) (sExpr (fM isL insertW (fVar 4) (fCons (fVar 2) (fCons (f2 idxW (fVar 1) (fVar 2)) (fNil))))) (sIf (fB (f2 (eqW false) (fVar 3) (fC (.int 8)))) (sExpr (fM isL reverseW (fVar 4) fNil)) (sRet (fIf (fB (f1 (isiW ["tuple"]) (fVar 1))) (fVar 4) (fA tupleW (fCons (fVar 4) (fNil)))))))) (e5t b x at_ turn g3.length) (g3 ++ [some (.lst ds)]) = sRet (fIf (fB (f1 (isiW ["tuple"]) (fVar 1))) (fVar 4) (fA tupleW (fCons (fVar 4) (fNil)))) (e5t b x at_ turn g3.length) (g3 ++ [some (.lst ds)]) := fun f => by
        have q1 : fB (f2 lt_W (fVar 3) (fC (.int 6))) (e5t b x at_ turn g3.length) (g3 ++ [some (.lst ds)]) = some (false, g3 ++ [some (.lst ds)]) := by
          refine xBh (x2 (f := lt_W) (A := fVar 3) (B := fC (.int 6)) rfl rfl ?_)
          rw [lt_i', decide_eq_false (by omega)]
        have tq : ∀ (k : Int), turn ≠ k → fB (f2 (eqW false) (fVar 3) (fC (.int k))) (e5t b x at_ turn g3.length) (g3 ++ [some (.lst ds)]) = some (false, g3 ++ [some (.lst ds)]) := fun k e => xBh (x2 (f := eqW false) (A := fVar 3) (B := fC (.int k)) rfl rfl (eq_i (decide_eq_false e)))
        rw [sIe q1, sIe (tq 6 (by omega)), sIe (tq 7 (by omega)), sIe (tq 8 (by omega))]
      have run : ∀ (w : W) (y : D), fIf (fB (f1 (isiW ["tuple"]) (fVar 1))) (fVar 4) (fA tupleW (fCons (fVar 4) (fNil))) (e5t b x at_ turn g3.length) (g3 ++ [some (.lst ds)]) = some (w, g3 ++ [some (.lst ds)]) → leave false h w (g3 ++ [some (.lst ds)]) = some (.dat y, g3) → m__law_otherwise (n + 1) [.ref b, .dat x] h = some (.dat y, g3) := fun w y ey lv => by
        rw [other_eq]
        refine fnM_rt (h' := g3 ++ [some (.lst ds)]) (w := w) ?_ rfl lv
        show sSeq _ _ (e0t b x) h = _
        refine zRt ((sIt t1).trans ?_)
        unfold otA
        refine (par _).trans (zRt ?_)
        unfold otC
        rw [tl]
        exact zR ey
      rcases hx with rfl | rfl
      · obtain ⟨q1, q2, q3⟩ := f5.tuple
        have tw : tupleW [.ref g3.length] (g3 ++ [some (.lst ds)]) = some (.dat (.tuple ds), g3 ++ [some (.lst ds)]) := by
          unfold tupleW
          simp only [deref, hn]
          rfl
        exact ⟨.tuple ds, g3, run _ _ (xIfF (isx ["tuple"] _ _ rfl) (xA (xC (E := fVar 4) rfl xN) tw)) (lvd _), ⟨q1, by omega, by omega⟩, b3.mono (by omega), O3⟩
      · obtain ⟨q1, q2, q3⟩ := f5.list
        exact ⟨.list ds, g3, run _ _ (xIfT (isx ["tuple"] _ _ rfl) rfl) lvr, ⟨q1, by omega, by omega⟩, b3.mono (by omega), O3⟩
theorem other_ok {m b : Nat} (hm : 20 ≤ m) (hm2 : m ≤ 24) : ∀ (f : Nat) {d : D} {h : Hh} {c : Nat}, PyData.depth d < f → gd m d = true → costD d ≤ 1000000 → BoxAt h b c → c + 10 * f ≤ 900000 → ∃ d' h', m__law_otherwise f [.ref b, .dat d] h = some (.dat d', h') ∧ Ot m d d' ∧ BoxAt h' b (c + 10 * f) ∧ Only b h h'
  | 0, d, h, c, hd, _, _, _, _ => absurd hd (Nat.not_lt_zero _)
  | n + 1, d, h, c, hd, hg, hcs, hb, hc => by
    cases d with
    | list ds => exact other_seq (fun {_ _ _} a1 a2 a3 a4 a5 => other_ok hm hm2 n a1 a2 a3 a4 a5) (.inl rfl) hm hm2 hg hd hcs hb hc
    | tuple ds => exact other_seq (fun {_ _ _} a1 a2 a3 a4 a5 => other_ok hm hm2 n a1 a2 a3 a4 a5) (.inr rfl) hm hm2 hg hd hcs hb hc
    | none => exact other_leaf hb (by omega) hm hm2 hg ⟨rfl, rfl⟩
    | bool z => exact other_leaf hb (by omega) hm hm2 hg ⟨rfl, rfl⟩
    | int i => exact other_leaf hb (by omega) hm hm2 hg ⟨rfl, rfl⟩
    | str s => exact other_leaf hb (by omega) hm hm2 hg ⟨rfl, rfl⟩
    | dict es => exact other_leaf hb (by omega) hm hm2 hg ⟨rfl, rfl⟩
noncomputable instance decD : DecidableEq PyData := fun _ _ => Classical.propDecidable _
theorem eqv_str (d : D) (s : Str) : PyData.eqv d (.str s) = decide (d = .str s) := by
  cases d with
  | str t => 
    rw [PyData.eqv]
    by_cases z : t = s
    · subst z; simp
    · have : ¬ (PyData.str t = PyData.str s) := fun e => z (by injection e)
      simp [z]
  | _ => simp [PyData.eqv]
theorem eqv_pr (d : D) (p : Str × Str) : PyData.eqv d (prT p) = decide (d = prT p) := by
  unfold prT
  cases d with
  | tuple ds =>
    rw [PyData.eqv]
    match ds with
    | [] => simp [PyData.eqvAll]
    | [x] => simp [PyData.eqvAll]
    | [x, y] =>
      rw [PyData.eqvAll, PyData.eqvAll, PyData.eqvAll, eqv_str, eqv_str, Bool.and_true]
      by_cases z : x = .str p.1 <;> by_cases w : y = .str p.2 <;> simp [z, w]
    | x :: y :: w :: ds => simp [PyData.eqvAll]
  | _ => simp [PyData.eqv]
theorem eqv_prs : ∀ (ds : List D) (P : List (Str × Str)), PyData.eqvAll ds (P.map prT) = decide (ds = P.map prT)
  | [], [] => by simp [PyData.eqvAll]
  | [], p :: P => by simp [PyData.eqvAll]
  | d :: ds, [] => by simp [PyData.eqvAll]
  | d :: ds, p :: P => by
    rw [List.map_cons, PyData.eqvAll, eqv_pr, eqv_prs ds P]
    by_cases z : d = prT p <;> by_cases w : ds = P.map prT <;> simp [z, w]
section
variable {m : Nat} {d : D} {h : Hh}
theorem eqW_any {s : Str} (hm : m ≤ 25) (hg : gd m d = true) (hp : PyData.depth d ≤ 64) (ts : TxtOk s) : eqW false (.dat d) (.dat (.str s)) h = some (.dat (.bool (decide (d = .str s))), h) := by
  have sh := gd_shp hm hg hp
  have sh2 : shp (.str s) = true := by
    unfold shp
    rw [PyData.canLay0, ts.ok]
    rfl
  have ev := eqv_str d s
  unfold eqW
  cases d with
  | str t =>
    simp only [deref, eqS]
    by_cases z : t = s
    · subst z; simp [bok]
    · simp [bok, z]
  | none => simp [deref, eqS, bok]
  | bool z => simp [deref, eqS, bok]
  | int i => simp [deref, eqS, bok]
  | dict es => simp [gd] at hg
  | list ds =>
    simp only [deref, eqS, sh, sh2, ev, Bool.and_self, if_true]
    rfl
  | tuple ds =>
    simp only [deref, eqS, sh, sh2, ev, Bool.and_self, if_true]
    rfl
abbrev e4s (d e : D) : DL.Env := [some (.dat d), some (.dat e), none, none]
theorem xOT {A B : BM} {ρ : DL.Env} {h1 : Hh} (ha : A ρ h = some (true, h1)) : bOr A B ρ h = some (true, h1) := by
  unfold bOr
  simp only [ha, obnd, if_true]
theorem isi0 {ts : List String} {e : D} (hg : gd m d = true) : f1 (isiW ts) (fVar 0) (e4s d e) h = some (.dat (.bool (ts.any fun t => isT1 t d)), h) := isi_d rfl hg
theorem eqW_b {neg a b : Bool} : eqW neg (.dat (.bool a)) (.dat (.bool b)) h = some (.dat (.bool (if neg = true then !decide (a = b) else decide (a = b))), h) := by
  unfold eqW
  simp only [deref, eqS]
  rfl
theorem sameB_eq (n : Nat) : m__law_sameB (n + 1) = fnM false 2 4 (sSeq (sIf (fB (f1 (isiW ["list", "tuple"]) (fVar 1))) (sSeq (sIf (bOr (fB (f2 (eqW true) (f1 (isiW ["list"]) (fVar 0)) (f1 (isiW ["list"]) (fVar 1)))) (fB (f2 (eqW true) (f1 (isiW ["tuple"]) (fVar 0)) (f1 (isiW ["tuple"]) (fVar 1))))) (sRet (fC (.bool false))) (sSkip))
    (sSeq (sIf (fB (f2 (eqW true) (fA lenW (fCons (fVar 0) (fNil))) (fA lenW (fCons (fVar 1) (fNil))))) (sRet (fC (.bool false))) (sSkip))
    (sRet (fA allW (fCons (fLc false (zipB (fCons (fVar 0) (fCons (fVar 1) (fNil)))) (gT 2 (gC (gN 2) (gC (gN 3) (gE)))) (bYes) (fA (m__law_sameB n) (fCons (fVar 2) (fCons (fVar 3) (fNil)))) [2, 3]) (fNil)))))) (sSkip))
    (sSeq (sIf (bOr (fB (f2 (isW false) (fVar 1) (fC .none))) (fB (f1 (isiW ["str"]) (fVar 1)))) (sRet (fAnd (f2 (eqW false) (fVar 0) (fVar 1)) (f2 (eqW false) (f1 (isiW ["str"]) (fVar 0)) (f1 (isiW ["str"]) (fVar 1))))) (sSkip))
    (sRet (fAnd (f1 (isiW ["int"]) (fVar 0)) (fAnd (f2 (eqW false) (f1 (isiW ["bool"]) (fVar 0)) (f1 (isiW ["bool"]) (fVar 1))) (f2 (eqW false) (fVar 0) (fVar 1))))))) := rfl
theorem sameB_str {n : Nat} {s : Str} (hm : m ≤ 25) (hg : gd m d = true) (hp : PyData.depth d ≤ 64) (ts : TxtOk s) : m__law_sameB (n + 1) [.dat d, .dat (.str s)] h = some (.dat (.bool (decide (d = .str s))), h) := by
  have e1 := eqW_any (h := h) hm hg hp ts
  rw [sameB_eq]
  refine fnM_rt (h' := h) (w := .dat (.bool (decide (d = .str s)))) ?_ rfl leave_same'
  show sSeq _ _ (e4s d (.str s)) h = _
  have i1 : ∀ ts : List String, f1 (isiW ts) (fVar 1) (e4s d (.str s)) h = some (.dat (.bool (ts.any fun t => isT1 t (.str s))), h) := fun ts => rfl
  refine (zNx (sIfF (xBh (i1 _)))).trans (zRt ((sIt (xO (xBh (x2 (f := isW false) (A := fVar 1) (B := fC .none) rfl rfl rfl)) (xBh (i1 _)))).trans (zR ?_)))
  by_cases z : d = .str s
  · rw [decide_eq_true z] at e1 ⊢
    refine xAnd (x2 (f := eqW false) (A := fVar 0) (B := fVar 1) rfl rfl e1) (x2 (isi0 hg) (i1 _) ?_)
    subst z
    exact eqW_b
  · rw [decide_eq_false z] at e1 ⊢
    exact xAndF (x2 (f := eqW false) (A := fVar 0) (B := fVar 1) rfl rfl e1)
theorem cost_mem : ∀ {ds : List D} {x : D}, x ∈ ds → costD x ≤ costDs ds
  | y :: ds, x, h => by
    rw [costDs]
    rcases List.mem_cons.mp h with h | h
    · subst h; omega
    · have := cost_mem h; omega
def mkS (t : Bool) (es : List D) : D := if t = true then .tuple es else .list es
theorem zip_lc {F : FM} {d e : D} : ∀ {xs es : List D} (bs : List Bool), xs.length = es.length → bs.length = xs.length → (∀ (i : Nat) (x e : D) (b : Bool), xs[i]? = some x → es[i]? = some e → bs[i]? = some b → F [.dat x, .dat e] h = some (.dat (.bool b), h)) →
    lcL (gT 2 (gC (gN 2) (gC (gN 3) (gE)))) bYes (fA F (fCons (fVar 2) (fCons (fVar 3) (fNil)))) (e4s d e) (zipD xs es) h = some (bs.map .bool, h)
  | [], [], [], _, _, _ => rfl
  | x :: xs, y :: es, b :: bs, l1, l2, H => by
    have ih := zip_lc (F := F) (d := d) (e := e) (xs := xs) (es := es) bs (by simpa using l1) (by simpa using l2) (fun i x e b h1 h2 h3 => H (i + 1) x e b (by simpa using h1) (by simpa using h2) (by simpa using h3))
    have h0 := H 0 x y b rfl rfl rfl
    have k : gT 2 (gC (gN 2) (gC (gN 3) (gE))) (.dat (.tuple [x, y])) (e4s d e) h = some [some (.dat d), some (.dat e), some (.dat x), some (.dat y)] := rfl
    have ev : fA F (fCons (fVar 2) (fCons (fVar 3) (fNil))) [some (.dat d), some (.dat e), some (.dat x), some (.dat y)] h = some (.dat (.bool b), h) := xA (xC (E := fVar 2) rfl (xC (E := fVar 3) rfl xN)) h0
    rw [zipD, lcL]
    simp only [k, bYes, obnd, if_true, ev, ih, List.map_cons]
  | [], y :: es, _, l1, _, _ => by simp at l1
  | x :: xs, [], _, l1, _, _ => by simp at l1
  | x :: xs, y :: es, [], _, l2, _ => by simp at l2
  | [], [], b :: bs, _, l2, _ => by simp at l2
theorem zip_all : ∀ (xs es : List D), xs.length = es.length → ((xs.zip es).map fun p => decide (p.1 = p.2)).all id = decide (xs = es)
  | [], [], _ => by simp
  | x :: xs, y :: es, l => by
    have ih := zip_all xs es (by simpa using l)
    rw [List.zip_cons_cons, List.map_cons, List.all_cons, ih]
    by_cases z : x = y <;> by_cases w : xs = es <;> simp [z, w]
  | [], y :: es, l => by simp at l
  | x :: xs, [], l => by simp at l
theorem sameB_seq {n : Nat} {t : Bool} {es : List D} (hm : m ≤ 25) (hg : gd m d = true) (hcs : costD d ≤ 1000000) (ge : gd 100 (mkS t es) = true) (le : es.length ≤ 1000) (H : ∀ x e, e ∈ es → gd m x = true → PyData.depth x ≤ PyData.depth d → costD x ≤ costD d → m__law_sameB n [.dat x, .dat e] h = some (.dat (.bool (decide (x = e))), h)) :
    m__law_sameB (n + 1) [.dat d, .dat (mkS t es)] h = some (.dat (.bool (decide (d = mkS t es))), h) := by
  have hz : sizeLine = 16777216 := rfl
  rw [sameB_eq]
  refine fnM_rt (h' := h) (w := .dat (.bool (decide (d = mkS t es)))) ?_ rfl leave_same'
  show sSeq _ _ (e4s d (mkS t es)) h = _
  have i1 : ∀ ts : List String, f1 (isiW ts) (fVar 1) (e4s d (mkS t es)) h = some (.dat (.bool (ts.any fun u => isT1 u (mkS t es))), h) := fun ts => isi_d rfl ge
  have k1 : (["list", "tuple"].any fun u => isT1 u (mkS t es)) = true := by cases t <;> rfl
  have kl : (["list"].any fun u => isT1 u (mkS t es)) = !t := by cases t <;> rfl
  have kt : (["tuple"].any fun u => isT1 u (mkS t es)) = t := by cases t <;> rfl
  have c1 : fB (f2 (eqW true) (f1 (isiW ["list"]) (fVar 0)) (f1 (isiW ["list"]) (fVar 1))) (e4s d (mkS t es)) h = some (!decide ((["list"].any fun u => isT1 u d) = !t), h) := xBh (x2 (isi0 hg) (i1 _) (by rw [eqW_b, kl]; rfl))
  have c2 : fB (f2 (eqW true) (f1 (isiW ["tuple"]) (fVar 0)) (f1 (isiW ["tuple"]) (fVar 1))) (e4s d (mkS t es)) h = some (!decide ((["tuple"].any fun u => isT1 u d) = t), h) := xBh (x2 (isi0 hg) (i1 _) (by rw [eqW_b, kt]; rfl))
  refine zRt ((sIt (by rw [← k1]; exact xBh (i1 _))).trans ?_)
  by_cases kd : ∃ ds, d = mkS t ds
  · obtain ⟨ds, rfl⟩ := kd
    have gs : gds m ds = true := by
      cases t <;> (have := hg; unfold mkS at this; simp only [Bool.false_eq_true, if_false, if_true] at this; rw [gd] at this; exact this)
    have dd : PyData.depth (mkS t ds) = PyData.depthAll ds + 1 := by cases t <;> (unfold mkS; simp only [Bool.false_eq_true, if_false, if_true]; rw [PyData.depth])
    have dc : costD (mkS t ds) = costDs ds + 3 := by cases t <;> (unfold mkS; simp only [Bool.false_eq_true, if_false, if_true]; rw [costD])
    have dl := costDs_len ds
    have d1 : (["list"].any fun u => isT1 u (mkS t ds)) = !t := by cases t <;> rfl
    have d2 : (["tuple"].any fun u => isT1 u (mkS t ds)) = t := by cases t <;> rfl
    rw [d1, decide_eq_true rfl] at c1
    rw [d2, decide_eq_true rfl] at c2
    refine (zNx (sIfF (xO c1 c2))).trans ?_
    have lw : ∀ zs : List D, lenW [.dat (mkS t zs)] h = some (.dat (.int (zs.length : Int)), h) := fun zs => by cases t <;> rfl
    have ll : fB (f2 (eqW true) (fA lenW (fCons (fVar 0) (fNil))) (fA lenW (fCons (fVar 1) (fNil)))) (e4s (mkS t ds) (mkS t es)) h = some (!decide ((ds.length : Int) = (es.length : Int)), h) := xBh (x2 (xA (xC (E := fVar 0) rfl xN) (lw ds)) (xA (xC (E := fVar 1) rfl xN) (lw es)) (ne_i rfl))
    have mk_eq : decide (mkS t ds = mkS t es) = decide (ds = es) := by
      by_cases z : ds = es
      · subst z; simp
      · have : ¬ mkS t ds = mkS t es := fun e => z (by cases t <;> (unfold mkS at e; simpa using e))
        rw [decide_eq_false z, decide_eq_false this]
    by_cases l : ds.length = es.length
    · rw [decide_eq_true (by omega)] at ll
      refine (zNx (sIfF ll)).trans (zR ?_)
      have zb : zipB (fCons (fVar 0) (fCons (fVar 1) (fNil))) (e4s (mkS t ds) (mkS t es)) h = some (zipD ds es, h) := by cases t <;> rfl
      have lc := zip_lc (F := m__law_sameB n) (d := mkS t ds) (e := mkS t es) (h := h) (xs := ds) (es := es) ((ds.zip es).map fun p => decide (p.1 = p.2)) l (by simp [l]) (fun i x e b h1 h2 h3 => by
        have hzz : (ds.zip es)[i]? = some (x, e) := List.getElem?_zip_eq_some.mpr ⟨h1, h2⟩
        rw [List.getElem?_map, hzz] at h3
        simp only [Option.map_some, Option.some.injEq] at h3
        subst h3
        have mx := List.mem_of_getElem? h1
        have dx := depthAll_iff.mp (Nat.le_refl (PyData.depthAll ds)) x mx
        have cx := cost_mem mx
        exact H x e (List.mem_of_getElem? h2) (gds_iff.mp gs x mx) (by omega) (by omega))
      have fl := xL (vs := [2, 3]) zb (show lcL _ _ _ (wipeE (e4s (mkS t ds) (mkS t es)) [2, 3]) _ _ = _ from lc) (by simp; omega)
      refine xA (xC fl xN) ?_
      rw [all_b (b := decide (ds = es)) (zip_all ds es l), mk_eq]
    · rw [decide_eq_false (by omega)] at ll
      refine (zRt ((sIt ll).trans (zR rfl))).trans ?_
      rw [mk_eq, decide_eq_false fun z => l (by rw [z])]
  · have ne : ¬ d = mkS t es := fun e => kd ⟨es, e⟩
    rw [decide_eq_false ne]
    refine zRt ((sIt ?_).trans (zR rfl))
    cases t with
    | false =>
      have : (["list"].any fun u => isT1 u d) = false := by
        cases d with
        | list ds => exact absurd ⟨ds, rfl⟩ kd
        | _ => rfl
      rw [this] at c1
      exact xOT c1
    | true =>
      have : (["tuple"].any fun u => isT1 u d) = false := by
        cases d with
        | tuple ds => exact absurd ⟨ds, rfl⟩ kd
        | _ => rfl
      rw [this] at c2
      cases q : (["list"].any fun u => isT1 u d) with
      | true => rw [q] at c1; exact xOT c1
      | false => rw [q] at c1; exact xO c1 c2
theorem sameB_prs {P : List (Str × Str)} (hm : m ≤ 25) (hg : gd m d = true) (hp : PyData.depth d ≤ 60) (hcs : costD d ≤ 1000000) (tP : TxtP P) (lP : P.length ≤ 1000) (gP : ∀ p ∈ P, gd 100 (.str p.1) = true ∧ gd 100 (.str p.2) = true) : m__law_sameB 12 [.dat d, .dat (.list (P.map prT))] h = some (.dat (.bool (decide (d = .list (P.map prT)))), h) := by
  have gpr : ∀ p ∈ P, gd 100 (prT p) = true := fun p hp => by
    obtain ⟨a, b⟩ := gP p hp
    unfold prT
    rw [gd, gds, gds, gds, a, b]; rfl
  refine sameB_seq (t := false) (n := 11) (es := P.map prT) hm hg hcs ?_ (by rw [List.length_map]; exact lP) fun x e he gx dx cx => ?_
  · show gd 100 (.list _) = true
    rw [gd]
    refine gds_iff.mpr fun e he => ?_
    obtain ⟨p, hp, rfl⟩ := List.mem_map.mp he
    exact gpr p hp
  · obtain ⟨p, hp, rfl⟩ := List.mem_map.mp he
    refine sameB_seq (t := true) (n := 10) (es := [.str p.1, .str p.2]) hm gx (by omega) (gpr p hp) (by show 2 ≤ 1000; omega) fun y e he gy dy cy => ?_
    have hy : PyData.depth y ≤ 64 := by omega
    simp only [List.mem_cons, List.not_mem_nil, or_false] at he
    rcases he with rfl | rfl
    · exact sameB_str hm gy hy (tP p hp).1
    · exact sameB_str hm gy hy (tP p hp).2
end
theorem same_pairs_any {m : Nat} {ds : List D} {P : List (Str × Str)} {h : Hh} (hm : m ≤ 25) (hg : gd m (.list ds) = true) (hp : PyData.depth (.list ds) ≤ 60) (hcs : costD (.list ds) ≤ 1000000) (tP : TxtP P) : m_same_pairs [.dat (.list ds), .dat (.list (P.map prT))] h = some (.dat (.bool (decide (ds = P.map prT))), h) := by
  have hz : sizeLine = 16777216 := rfl
  have dl := costDs_len ds
  have dc : costD (.list ds) = costDs ds + 3 := by rw [costD]
  have gs : gds m ds = true := by rw [gd] at hg; exact hg
  have s1 := gd_shp hm hg (by omega)
  have s2 := shp_pairs tP
  have ev : PyData.eqv (.list ds) (.list (P.map prT)) = decide (ds = P.map prT) := by rw [PyData.eqv, eqv_prs]
  have eq : eqW false (.dat (.list ds)) (.dat (.list (P.map prT))) h = some (.dat (.bool (decide (ds = P.map prT))), h) := by
    unfold eqW
    simp only [deref, eqS, s1, s2, ev, Bool.and_self, if_true]
    rfl
  let bs : List Bool := ds.map fun d => ["tuple"].any fun u => isT1 u d
  have lc : ∀ xs : List D, (∀ x ∈ xs, gd m x = true) → lcL (gN 2) bYes (f1 (isiW ["tuple"]) (fVar 2)) [some (.dat (.list ds)), some (.dat (.list (P.map prT))), none] xs h = some ((xs.map fun d => ["tuple"].any fun u => isT1 u d).map .bool, h) := fun xs => by
    induction xs with
    | nil => intro _; rfl
    | cons x xs ih =>
      intro hx
      have ih := ih fun y hy => hx y (List.mem_cons_of_mem _ hy)
      have k : gN 2 (.dat x) [some (.dat (.list ds)), some (.dat (.list (P.map prT))), none] h = some [some (.dat (.list ds)), some (.dat (.list (P.map prT))), some (.dat x)] := rfl
      have ev2 : f1 (isiW ["tuple"]) (fVar 2) [some (.dat (.list ds)), some (.dat (.list (P.map prT))), some (.dat x)] h = some (.dat (.bool (["tuple"].any fun u => isT1 u x)), h) := isi_d rfl (hx x List.mem_cons_self)
      rw [lcL]
      simp only [k, bYes, obnd, if_true, ev2, ih, List.map_cons]
  have fl : fLc false (seqI (fVar 0)) (gN 2) (bYes) (f1 (isiW ["tuple"]) (fVar 2)) [2] [some (.dat (.list ds)), some (.dat (.list (P.map prT))), none] h = some (.dat (.list (bs.map .bool)), h) :=
    xL (vs := [2]) (xS (E := fVar 0) rfl (.inl rfl)) (lc ds (gds_iff.mp gs)) (by simp [bs]; omega)
  unfold m_same_pairs
  refine fnM_rt (h' := h) (w := .dat (.bool (decide (ds = P.map prT)))) ?_ rfl leave_same'
  show sRet _ [some (.dat (.list ds)), some (.dat (.list (P.map prT))), none] h = _
  refine zR ?_
  cases q : bs.all id with
  | true => exact xAnd (xA (xC fl xN) (all_b q)) (x2 (f := eqW false) (A := fVar 0) (B := fVar 1) rfl rfl eq)
  | false =>
    have ne : ¬ ds = P.map prT := fun z => by
      have : bs.all id = true := by
        rw [List.all_eq_true]
        intro b hb
        obtain ⟨d, hd, rfl⟩ := List.mem_map.mp hb
        rw [z] at hd
        obtain ⟨p, _, rfl⟩ := List.mem_map.mp hd
        rfl
      rw [this] at q; cases q
    rw [decide_eq_false ne]
    exact xAndF (xA (xC fl xN) (all_b q))
theorem shows_any {m : Nat} {x y d : D} {l : Bool} {r : List Str} {ws : List (List (Str × Str))} {a b : Str} {h : Hh} (hx : IsSeq x (r.map .str)) (hy : IsSeq y (ws.map (cD l))) (c : Words r ws) (nd : r.Nodup) (hr : r.length ≤ 1000) (ht : Txts r) (hw : ws.length ≤ 1000) (h1 : a ∈ r) (h2 : b ∈ r) (hm : m ≤ 25) (hg : gd m d = true) (hp : PyData.depth d ≤ 60) (hcs : costD d ≤ 1000000) :
    m_shows_ahead [.dat x, .dat y, .dat (.str a), .dat (.str b), .dat d] h = some (.dat (.bool (decide (d = .list ((walkL ws.reverse (a, b)).map prT)) && decide (r.idxOf (lastW ws.reverse (a, b)).1 < r.idxOf (lastW ws.reverse (a, b)).2))), h) := by
  have cr : Words r ws.reverse := fun q hq => c q (List.mem_reverse.mp hq)
  obtain ⟨m1, m2⟩ := lastW_in cr (p := (a, b)) h1 h2
  have e1 := walks_ok (h := h) hy c nd hr hw h1 h2
  have tP := walkL_txt ht cr (p := (a, b)) h1 h2
  have e3 := ahead_ok (h := h) hx nd hr m1 m2
  obtain ⟨wl, el⟩ := walkL_last ws.reverse (a, b)
  have al : L2.atI ((walkL ws.reverse (a, b)).map prT) (-1) = some (prT (lastW ws.reverse (a, b))) := by rw [el, List.map_append]; exact atI_neg1 _ _
  let WL : D := .list ((walkL ws.reverse (a, b)).map prT)
  let q := lastW ws.reverse (a, b)
  let E : Option W → Option W → DL.Env := fun v5 v6 => [some (.dat x), some (.dat y), some (.dat (.str a)), some (.dat (.str b)), some (.dat d), v5, v6]
  have lp : ∀ (us : List (List (Str × Str))) (v : Option W), (∀ ps ∈ us, CallOf r ps) → ∃ v', forL (gN 5) (sExpr (fA (m_look_alike) (fCons (fVar 0) (fCons (fA (m_people) (fCons (fVar 5) (fNil))) (fNil))))) (us.map (cD l)) (E v none) h = some (.nx (E v' none), h) := fun us => by
    induction us with
    | nil => exact fun v _ => ⟨v, rfl⟩
    | cons ps us ih =>
      intro v hu
      have hc := hu ps List.mem_cons_self
      have hl : ps.length = r.length := by have := hc.perm.length_eq; rw [List.length_map] at this; exact this
      have f1 := people_ok (h := h) (cD_seq l ps) (by omega)
      have f2 := look_alike_ok (h := h) hx (y := .tuple ((ps.map (·.1)).map .str)) (.inr rfl) hc.perm.symm ht
      obtain ⟨v', e⟩ := ih (some (.dat (cD l ps))) fun qs hq => hu qs (List.mem_cons_of_mem _ hq)
      refine ⟨v', ?_⟩
      have k : gN 5 (.dat (cD l ps)) (E v none) h = some (E (some (.dat (cD l ps))) none) := rfl
      have bd : sExpr (fA (m_look_alike) (fCons (fVar 0) (fCons (fA (m_people) (fCons (fVar 5) (fNil))) (fNil)))) (E (some (.dat (cD l ps))) none) h = some (.nx (E (some (.dat (cD l ps))) none), h) := zEx' (xA (xC (E := fVar 0) rfl (xC (xA (xC (E := fVar 5) rfl xN) f1) xN)) f2)
      rw [List.map_cons]
      unfold forL
      simp only [k, bd]
      exact e
  obtain ⟨v', e4⟩ := lp ws none c
  unfold m_shows_ahead
  refine fnM_rt (h' := h) (w := .dat (.bool (decide (d = WL) && decide (r.idxOf q.1 < r.idxOf q.2)))) ?_ rfl leave_same'
  show sSeq _ _ (E none none) h = _
  refine (zF (xS (E := fVar 1) (x := y) rfl hy) e4).trans ?_
  refine (zA (ρ1 := E v' (some (.dat WL))) (xA (xC (E := fVar 1) rfl (xC (E := fVar 2) rfl (xC (E := fVar 3) rfl xN))) e1) rfl).trans ?_
  refine zR ?_
  have il : f1 (isiW ["list"]) (fVar 4) (E v' (some (.dat WL))) h = some (.dat (.bool (["list"].any fun u => isT1 u d)), h) := isi_d rfl hg
  cases d with
  | list ds =>
    have sp := same_pairs_any (h := h) hm hg hp hcs tP
    have dq : decide (PyData.list ds = WL) = decide (ds = (walkL ws.reverse (a, b)).map prT) := by
      by_cases z : ds = (walkL ws.reverse (a, b)).map prT
      · rw [decide_eq_true z, decide_eq_true (by rw [z])]
      · rw [decide_eq_false z, decide_eq_false fun e => z (by injection e)]
    rw [dq]
    refine xAnd il ?_
    have sp' : fA (m_same_pairs) (fCons (fVar 4) (fCons (fVar 6) (fNil))) (E v' (some (.dat WL))) h = some (.dat (.bool (decide (ds = (walkL ws.reverse (a, b)).map prT))), h) := xA (xC (E := fVar 4) rfl (xC (E := fVar 6) rfl xN)) sp
    by_cases z : ds = (walkL ws.reverse (a, b)).map prT
    · rw [decide_eq_true z] at sp' ⊢
      rw [Bool.true_and]
      have i6 : f2 idxW (fVar 6) (fNeg (fC (.int 1))) (E v' (some (.dat WL))) h = some (.dat (prT q), h) := x2 (f := idxW) (A := fVar 6) rfl neg1 (idxW_lst al)
      have ix : ∀ (k : Int) (s : Str), L2.atI [PyData.str q.1, .str q.2] k = some (.str s) → f2 idxW (f2 idxW (fVar 6) (fNeg (fC (.int 1)))) (fC (.int k)) (E v' (some (.dat WL))) h = some (.dat (.str s), h) := fun k s e => x2 (f := idxW) i6 (B := fC (.int k)) rfl (by
        show idxW (.dat (.tuple [.str q.1, .str q.2])) (.dat (.int k)) h = _
        unfold idxW
        simp only [deref, e]
        rfl)
      exact xAnd sp' (xA (xC (E := fVar 0) rfl (xC (ix 0 _ rfl) (xC (ix 1 _ rfl) xN))) e3)
    · rw [decide_eq_false z] at sp' ⊢
      rw [Bool.false_and]
      exact xAndF sp'
  | _ =>
    have nw : ∀ z : D, (∀ es, z ≠ .list es) → decide (z = WL) = false := fun z hz => decide_eq_false fun e => hz _ e
    rw [nw _ (fun es e => by cases e), Bool.false_and]
    exact xAndF il
section
variable {m : Nat} {h : Hh}
theorem sameB_bool {n : Nat} {x : D} {z : Bool} (hg : gd m x = true) : m__law_sameB (n + 1) [.dat x, .dat (.bool z)] h = some (.dat (.bool (decide (x = .bool z))), h) := by
  rw [sameB_eq]
  refine fnM_rt (h' := h) (w := .dat (.bool (decide (x = .bool z)))) ?_ rfl leave_same'
  show sSeq _ _ (e4s x (.bool z)) h = _
  have i1 : ∀ ts : List String, f1 (isiW ts) (fVar 1) (e4s x (.bool z)) h = some (.dat (.bool (ts.any fun t => isT1 t (.bool z))), h) := fun ts => rfl
  refine (zNx (sIfF (xBh (i1 _)))).trans ((zNx (sIfF (xO (xBh (x2 (f := isW false) (A := fVar 1) (B := fC .none) rfl rfl rfl)) (xBh (i1 _))))).trans (zR ?_))
  have no : ∀ y : D, y ≠ .bool z → decide (y = .bool z) = false := fun y e => decide_eq_false e
  have i0 : f1 (isiW ["int"]) (fVar 0) (e4s x (.bool z)) h = some (.dat (.bool (["int"].any fun t => isT1 t x)), h) := isi0 hg
  have ib : f1 (isiW ["bool"]) (fVar 0) (e4s x (.bool z)) h = some (.dat (.bool (["bool"].any fun t => isT1 t x)), h) := isi0 hg
  cases x with
  | bool y =>
    have e : decide (PyData.bool y = PyData.bool z) = decide (y = z) := by cases y <;> cases z <;> simp
    rw [e]
    exact xAnd i0 (xAnd (x2 ib (i1 _) eqW_b) (x2 (f := eqW false) (A := fVar 0) (B := fVar 1) rfl rfl eqW_b))
  | int i =>
    rw [no _ (by intro e; cases e)]
    exact xAnd i0 (xAndF (x2 ib (i1 _) eqW_b))
  | dict es => simp [gd] at hg
  | none => rw [no _ (by intro e; cases e)]; exact xAndF i0
  | str s => rw [no _ (by intro e; cases e)]; exact xAndF i0
  | list ds => rw [no _ (by intro e; cases e)]; exact xAndF i0
  | tuple ds => rw [no _ (by intro e; cases e)]; exact xAndF i0
theorem sameB_two (a b : Bool) : m__law_sameB 12 [.dat (.list [.bool a, .bool b]), .dat (.list [.bool a, .bool b])] h = some (.dat (.bool true), h) := by
  have g : gd 25 (.list [.bool a, .bool b]) = true := by rw [gd, gds, gds, gds, gd, gd]; rfl
  have := sameB_seq (m := 25) (d := .list [.bool a, .bool b]) (h := h) (t := false) (n := 11) (es := [.bool a, .bool b]) (by omega) g (by show 17 ≤ _; omega) (gd_up (by omega) g) (by show 2 ≤ 1000; omega) fun x e he gx _ _ => by
    simp only [List.mem_cons, List.not_mem_nil, or_false] at he
    rcases he with rfl | rfl <;> exact sameB_bool gx
  rw [decide_eq_true (show PyData.list [.bool a, .bool b] = mkS false [.bool a, .bool b] from rfl)] at this
  exact this
end
theorem xIdR {E F : EM} {A : List Str} {s : Str} {ρ : DL.Env} {h : Hh} (he : E ρ h = some (.row (A.map .str), h)) (hf : F ρ h = some (.dat (.str s), h)) (hs : s ∈ A) : fM isRow indexR E (fCons F fNil) ρ h = some (.dat (.int (A.idxOf s : Int)), h) := by
  have ix : indexR (.row (A.map .str)) [.dat (.str s)] h = some (.dat (.int (A.idxOf s : Int)), h) := by
    unfold indexR
    simp only [rowS_strs]
    rw [if_pos hs]; rfl
  have ga : (fCons F fNil) ρ h = some ([.dat (.str s)], h) := xC hf xN
  have ir : isRow (.row (A.map .str)) h = true := rfl
  unfold fM
  simp only [he, obnd, ir, if_true, ga, ix]
structure Thn (d : D) : Prop where
  g : gd 22 d = true
  dep : PyData.depth d ≤ 8
  c : costD d ≤ 200000
abbrev e11 (b : Nat) (l r : List Str) (ws : List (List (Str × Str))) (P1 P2 : List (Str × Str)) (a e : Str) (v2 v3 v4 v5 v6 v13 v14 v15 : Option W) : DL.Env := [some (.ref b), some (.dat (.list (l.map .str))), v2, v3, v4, v5, v6, some (.row (r.map .str)), some (.dat (.list (ws.map cT))), some (.dat (.str a)), some (.dat (.str e)), some (.dat (.list (P1.map prT))), some (.dat (.list (P2.map prT))), v13, v14, v15]
noncomputable def addB : SM := (sSeq (sAsg (fA (m__law_otherwise 12) (fCons (fVar 0) (fCons (fVar 11) (fNil)))) (gN 5))
    (sExpr (fM isL appendW (fVar 3) (fCons (fIf (fB (f2 (eqW false) (fA (m__law_take) (fCons (fVar 0) (fCons (fC (.int 3)) (fNil)))) (fC (.int 0)))) (fA (m__law_otherwise 12) (fCons (fVar 0) (fCons (fVar 5) (fNil)))) (fVar 5)) (fNil)))))
section
variable {b c n : Nat} {l r : List Str} {ws : List (List (Str × Str))} {P1 P2 : List (Str × Str)} {a e : Str} {v2 v4 v5 v6 v13 v14 v15 : Option W} {g : Hh} {ds : List D}
theorem add_ok (hb : BoxAt g b c) (hc : c ≤ 500000) (gm : gd 20 (.list (P1.map prT)) = true) (dm : PyData.depth (.list (P1.map prT)) ≤ 2) (cm : costD (.list (P1.map prT)) ≤ 40000) (td : ∀ d ∈ ds, Thn d) (ld : ds.length ≤ 1000) :
    ∃ x w g', addB (e11 b l r ws P1 P2 a e v2 (some (.ref g.length)) v4 v5 v6 v13 v14 v15) (g ++ [some (.lst ds)]) = some (.nx (e11 b l r ws P1 P2 a e v2 (some (.ref g.length)) v4 (some (.dat w)) v6 v13 v14 v15), g' ++ [some (.lst (ds ++ [x]))]) ∧ Thn x ∧ BoxAt g' b (c + 250) ∧ Only b g g' := by
  have hz : sizeLine = 16777216 := rfl
  have lb := hb.lt
  obtain ⟨y, h1, e1, oy, b1, o1⟩ := other_ok (m := 20) (by omega) (by omega) 12 (d := .list (P1.map prT)) (h := g ++ [some (.lst ds)]) (c := c) (by omega) gm (by omega) (box_one hb) (by omega)
  obtain ⟨g1, rfl, og1⟩ := only_one lb o1
  have l1 : g1.length = g.length := og1.len
  have dy := oy.dep
  have cy := oy.c
  obtain ⟨t, h2, e2, r0, r1, b2, o2⟩ := take_ok (n := 3) b1 (by omega) (by omega) (by omega)
  obtain ⟨g2, rfl, og2⟩ := only_one (by omega) o2
  have l2 : g2.length = g1.length := og2.len
  let E : DL.Env := e11 b l r ws P1 P2 a e v2 (some (.ref g.length)) v4 (some (.dat y)) v6 v13 v14 v15
  have s1 : sAsg (fA (m__law_otherwise 12) (fCons (fVar 0) (fCons (fVar 11) (fNil)))) (gN 5) (e11 b l r ws P1 P2 a e v2 (some (.ref g.length)) v4 v5 v6 v13 v14 v15) (g ++ [some (.lst ds)]) = some (.nx E, g1 ++ [some (.lst ds)]) := by
    unfold sAsg
    rw [xA (xC (E := fVar 0) (w := .ref b) rfl (xC (E := fVar 11) (w := .dat (.list (P1.map prT))) rfl xN)) e1]
    rfl
  have tt : fB (f2 (eqW false) (fA (m__law_take) (fCons (fVar 0) (fCons (fC (.int 3)) (fNil)))) (fC (.int 0))) E (g1 ++ [some (.lst ds)]) = some (decide (t = 0), g2 ++ [some (.lst ds)]) := xBh (x2 (f := eqW false) (xA (xC (E := fVar 0) rfl (xC (E := fC (.int 3)) rfl xN)) e2) (B := fC (.int 0)) rfl (eq_i rfl))
  have fin : ∀ (x : D) (g3 : Hh), g3.length = g.length → fIf (fB (f2 (eqW false) (fA (m__law_take) (fCons (fVar 0) (fCons (fC (.int 3)) (fNil)))) (fC (.int 0)))) (fA (m__law_otherwise 12) (fCons (fVar 0) (fCons (fVar 5) (fNil)))) (fVar 5) E (g1 ++ [some (.lst ds)]) = some (.dat x, g3 ++ [some (.lst ds)]) →
      addB (e11 b l r ws P1 P2 a e v2 (some (.ref g.length)) v4 v5 v6 v13 v14 v15) (g ++ [some (.lst ds)]) = some (.nx E, g3 ++ [some (.lst (ds ++ [x]))]) := fun x g3 l3 ex => by
    unfold addB
    refine (zNx s1).trans ?_
    have hn1 : (g1 ++ [some (MO.lst ds)])[g.length]? = some (some (.lst ds)) := app_get l1
    have hn3 : (g3 ++ [some (MO.lst ds)])[g.length]? = some (some (.lst ds)) := app_get l3
    have il : isL (.ref g.length) (g1 ++ [some (.lst ds)]) = true := by
      unfold isL
      simp only [deref, hn1]
    have ap : appendW (.ref g.length) [.dat x] (g3 ++ [some (.lst ds)]) = some (.dat .none, g3 ++ [some (.lst (ds ++ [x]))]) := by
      unfold appendW lstAt
      simp only [hn3]
      rw [if_pos (by omega)]
      unfold setL
      rw [app_set l3]
    refine zEx' (w := .dat .none) ?_
    unfold fM
    rw [show fVar 3 E (g1 ++ [some (.lst ds)]) = some (.ref g.length, g1 ++ [some (.lst ds)]) from rfl]
    simp only [obnd, il, if_true, xC ex xN, ap]
  by_cases c0 : t = 0
  · rw [decide_eq_true c0] at tt
    obtain ⟨z, h3, e3, oz, b3, o3⟩ := other_ok (m := 21) (by omega) (by omega) 12 (d := y) (h := g2 ++ [some (.lst ds)]) (c := c + 10 * 12 + 1) (by omega) oy.g (by omega) b2 (by omega)
    obtain ⟨g3, rfl, og3⟩ := only_one (by omega) o3
    have dz := oz.dep
    have cz := oz.c
    exact ⟨z, y, g3, fin z g3 (og3.len.trans (l2.trans l1)) (xIfT tt (xA (xC (E := fVar 0) rfl (xC (E := fVar 5) rfl xN)) e3)), ⟨oz.g, by omega, by omega⟩, (box_bk (by have := og3.len; omega) b3).mono (by omega), (og1.trans og2).trans og3⟩
  · rw [decide_eq_false c0] at tt
    exact ⟨y, y, g2, fin y g2 (l2.trans l1) (xIfF tt rfl), ⟨gd_up (by omega) oy.g, by omega, by omega⟩, (box_bk (by omega) b2).mono (by omega), og1.trans og2⟩
theorem adds_ok (gm : gd 20 (.list (P1.map prT)) = true) (dm : PyData.depth (.list (P1.map prT)) ≤ 2) (cm : costD (.list (P1.map prT)) ≤ 40000) : ∀ (zs : List D) (g : Hh) (ds : List D) (v4 v5 : Option W) (c : Nat), BoxAt g b c → c + 250 * zs.length ≤ 400000 → (∀ d ∈ ds, Thn d) → ds.length + zs.length ≤ 100 → (∀ n, isR n v4 = false) → (∀ n, isR n v5 = false) →
    ∃ ds' u4 u5 g', forL (gN 4) addB zs (e11 b l r ws P1 P2 a e v2 (some (.ref g.length)) v4 v5 v6 v13 v14 v15) (g ++ [some (.lst ds)]) = some (.nx (e11 b l r ws P1 P2 a e v2 (some (.ref g.length)) u4 u5 v6 v13 v14 v15), g' ++ [some (.lst ds')]) ∧ (∀ d ∈ ds', Thn d) ∧ ds'.length ≤ ds.length + zs.length ∧ BoxAt g' b (c + 250 * zs.length) ∧ Only b g g' ∧ (∀ n, isR n u4 = false) ∧ (∀ n, isR n u5 = false)
  | [], g, ds, v4, v5, c, hb, _, td, _, i4, i5 => ⟨ds, v4, v5, g, rfl, td, by simp, hb.mono (by omega), Only.refl b g, i4, i5⟩
  | z :: zs, g, ds, v4, v5, c, hb, hc, td, hl, _, _ => by
    rw [List.length_cons] at hc hl
    obtain ⟨x, w, g1, e1, tx, b1, o1⟩ := add_ok (l := l) (r := r) (ws := ws) (P2 := P2) (a := a) (e := e) (v2 := v2) (v4 := some (.dat z)) (v5 := v5) (v6 := v6) (v13 := v13) (v14 := v14) (v15 := v15) hb (by omega) gm dm cm td (by omega)
    have l1 : g1.length = g.length := o1.len
    obtain ⟨ds', u4, u5, g', e2, td', ld', b2, o2, i4, i5⟩ := adds_ok gm dm cm zs g1 (ds ++ [x]) (some (.dat z)) (some (.dat w)) (c + 250) b1 (by omega) (fun d hd => by
      rcases List.mem_append.mp hd with h | h
      · exact td d h
      · rw [List.mem_singleton] at h
        rw [h]; exact tx) (by rw [List.length_append]; show ds.length + 1 + zs.length ≤ 100; omega) (fun _ => rfl) (fun _ => rfl)
    rw [l1] at e2
    refine ⟨ds', u4, u5, g', ?_, td', by rw [List.length_append] at ld'; rw [List.length_cons]; have : [x].length = 1 := rfl; omega, b2.mono (by rw [List.length_cons]; omega), o1.trans o2, i4, i5⟩
    have k : gN 4 (.dat z) (e11 b l r ws P1 P2 a e v2 (some (.ref g.length)) v4 v5 v6 v13 v14 v15) (g ++ [some (.lst ds)]) = some (e11 b l r ws P1 P2 a e v2 (some (.ref g.length)) (some (.dat z)) v5 v6 v13 v14 v15) := rfl
    unfold forL
    simp only [k, e1]
    exact e2
end
noncomputable def ownWalk2 : SM := (sSeq (sAsg (fA tupW (fCons (fA (dictA false) (fCons (fVar 4) (fNil))) (fCons (f2 idxW (fVar 3) (fNeg (fC (.int 1)))) (fNil)))) (gT 2 (gC (gN 5) (gC (gT 2 (gC (gN 6) (gC (gN 7) (gE)))) (gE)))))
    (sExpr (fM isL appendW (fVar 3) (fCons (fIf (fB (f2 (eqW false) (f2 idxW (fVar 5) (fVar 6)) (f2 idxW (fVar 5) (fVar 7)))) (fA tupW (fCons (fVar 6) (fCons (fVar 7) (fNil)))) (fA tupW (fCons (f2 idxW (fVar 5) (fVar 6)) (fCons (f2 idxW (fVar 5) (fVar 7)) (fNil))))) (fNil)))))
theorem ownWalk2_run {x y y' : W} {n : Nat} {A : List D} {GO : List (D × D)} {wl : List D} {s1 s2 t1 t2 : Str} {z : Bool} {v5 v6 v7 : Option W} {g : Hh} (hg : g[n]? = some (some (.lst wl))) (e1 : dictA false [.dat (.tuple A)] g = some (.dat (.dict GO), g)) (al : L2.atI wl (-1) = some (.tuple [.str s1, .str s2])) (g1 : getD GO (.str s1) = some (some (.str t1))) (g2 : getD GO (.str s2) = some (some (.str t2))) (ez : decide (t1 = t2) = z) (hl : wl.length < sizeLine) :
    ownWalk2 [some x, some y, some y', some (.ref n), some (.dat (.tuple A)), v5, v6, v7] g = some (.nx [some x, some y, some y', some (.ref n), some (.dat (.tuple A)), some (.dat (.dict GO)), some (.dat (.str s1)), some (.dat (.str s2))], g.set n (some (.lst (wl ++ [if z = true then .tuple [.str s1, .str s2] else .tuple [.str t1, .str t2]])))) := by
  have q := eqW_strs (neg := false) (i := t1) (j := t2) (h := g)
  have c2 : 2 ≤ sizeLine := by decide
  unfold ownWalk2
  cases z with
  | true => walk_at "dl"
  | false => walk_at "dl"
theorem own_walk_ok {r : List Str} {ws : List (List (Str × Str))} {p : Str × Str} {h : Hh} (c : Words r ws) (nd : r.Nodup) (hp : 0 < r.length) (h1 : p.1 ∈ r) (h2 : p.2 ∈ r) (hw : ws.length ≤ 1000) : m__law_walk [.dat (.list (ws.map cT)), .dat (.str p.1), .dat (.str p.2)] h = some (.dat (.list ((walkL ws.reverse p).map prT)), h) := by
  have hz : sizeLine = 16777216 := rfl
  have cr : Words r ws.reverse := fun q hq => c q (List.mem_reverse.mp hq)
  have key := forL_inv (k := gN 4) (body := ownWalk2)
    (fun n ρ g => ∃ v3 v4 v5 v6 : Option W, ρ = [some (.dat (.list (ws.map cT))), some (.dat (.str p.1)), some (.dat (.str p.2)), some (.ref h.length), v3, v4, v5, v6] ∧ g = h ++ [some (.lst ((walkL (ws.reverse.take n) p).map prT))]) (ds := ws.reverse.map cT) (n := 0)
    (ρ := [some (.dat (.list (ws.map cT))), some (.dat (.str p.1)), some (.dat (.str p.2)), some (.ref h.length), none, none, none, none]) (h := h ++ [some (.lst [prT p])]) ⟨none, none, none, none, rfl, rfl⟩ (by
      intro j d ej ρ g hi
      obtain ⟨v3, v4, v5, v6, rfl, rfl⟩ := hi
      rw [Nat.zero_add]
      rw [List.getElem?_map] at ej
      obtain ⟨ps, ep, rfl⟩ := Option.map_eq_some_iff.mp ej
      have hj : j < ws.reverse.length := (List.getElem?_eq_some_iff.mp ep).1
      rw [List.length_reverse] at hj
      have hc : CallOf r ps := cr ps (List.mem_of_getElem? ep)
      have hpl : ps.length = r.length := by have := hc.perm.length_eq; rw [List.length_map] at this; exact this
      obtain ⟨m1, m2⟩ := lastW_in (ws := ws.reverse.take j) (fun q hq => cr q (List.mem_of_mem_take hq)) h1 h2
      obtain ⟨k1, _⟩ := hc.goal_mem m1
      obtain ⟨k2, _⟩ := hc.goal_mem m2
      obtain ⟨l, el⟩ := walkL_last (ws.reverse.take j) p
      have al : L2.atI ((walkL (ws.reverse.take j) p).map prT) (-1) = some (prT (lastW (ws.reverse.take j) p)) := by rw [el, List.map_append]; exact atI_neg1 _ _
      have et := ownWalk2_run (x := .dat (.list (ws.map cT))) (y := .dat (.str p.1)) (y' := .dat (.str p.2)) (n := h.length) (A := ps.map prT) (GO := sdic (tld ps)) (wl := (walkL (ws.reverse.take j) p).map prT) (s1 := (lastW (ws.reverse.take j) p).1) (s2 := (lastW (ws.reverse.take j) p).2) (t1 := goal ps (lastW (ws.reverse.take j) p).1) (t2 := goal ps (lastW (ws.reverse.take j) p).2) (v5 := v4) (v6 := v5) (v7 := v6) (g := h ++ [some (.lst ((walkL (ws.reverse.take j) p).map prT))]) (app_get rfl) (dict_call (by omega) (hc.nodup nd)) al (by rw [getD_sdic, look_tld, k1]; rfl) (by rw [getD_sdic, look_tld, k2]; rfl) rfl (by rw [List.length_map, walkL_len, List.length_take]; omega)
      have eg : (if decide (goal ps (lastW (ws.reverse.take j) p).1 = goal ps (lastW (ws.reverse.take j) p).2) = true then PyData.tuple [.str (lastW (ws.reverse.take j) p).1, .str (lastW (ws.reverse.take j) p).2] else .tuple [.str (goal ps (lastW (ws.reverse.take j) p).1), .str (goal ps (lastW (ws.reverse.take j) p).2)]) = prT (goneP ps (lastW (ws.reverse.take j) p)) := by
        unfold goneP
        by_cases z : goal ps (lastW (ws.reverse.take j) p).1 = goal ps (lastW (ws.reverse.take j) p).2
        · rw [if_pos z, decide_eq_true z, if_pos rfl]
        · rw [if_neg z, decide_eq_false z, if_neg (by simp)]
      rw [eg, app_set rfl] at et
      refine ⟨_, _, _, rfl, et, _, _, _, _, rfl, ?_⟩
      rw [take_snoc ep, walkL_snoc, List.map_append]
      rfl)
  obtain ⟨ρ', h', e, v3, v4, v5, v6, rfl, rfl⟩ := key
  rw [Nat.zero_add, List.length_map, List.take_length] at e
  have hg : (h ++ [some (MO.lst ((walkL ws.reverse p).map prT))])[h.length]? = some (some (.lst ((walkL ws.reverse p).map prT))) := app_get rfl
  have et : (h ++ [some (MO.lst ((walkL ws.reverse p).map prT))]).take h.length = h := app_take rfl
  have nl : ¬ h.length < h.length := by omega
  have c1 : 1 ≤ sizeLine := by omega
  have c2 : 2 ≤ sizeLine := by omega
  rw [List.map_reverse] at e
  unfold ownWalk2 at e
  unfold m__law_walk
  clear c nd hp h1 h2 hw hz cr
  generalize (walkL ws.reverse p).map prT = wl at *
  walk_at "dl"
  unfold leave
  walk_at "dl"
def swapP (p : Str × Str) : Str × Str := (p.2, p.1)
theorem goneP_swap (ps : List (Str × Str)) (p : Str × Str) : goneP ps (swapP p) = swapP (goneP ps p) := by
  unfold goneP swapP
  by_cases z : goal ps p.1 = goal ps p.2
  · rw [if_pos z, if_pos z.symm]
  · rw [if_neg z, if_neg (fun e => z e.symm)]
theorem lastW_swap : ∀ (ws : List (List (Str × Str))) (p : Str × Str), lastW ws (swapP p) = swapP (lastW ws p)
  | [], p => rfl
  | ps :: ws, p => by
    show lastW ws (goneP ps (swapP p)) = swapP (lastW ws (goneP ps p))
    rw [goneP_swap]
    exact lastW_swap ws _
noncomputable def chkB : SM := (sSeq (sPar (fCons (fA reprA (fCons (fVar 5) (fNil))) (fCons (fA (m__law_sameB 12) (fCons (fVar 5) (fCons (fVar 11) (fNil)))) (fNil))) [13, 14]) (sSeq (sIf (bNot (fB (fA (m__law_sameB 12) (fCons (fA (m_shows_ahead) (fCons (fAsT (fVar 7)) (fCons (fVar 8) (fCons (fVar 9) (fCons (fVar 10) (fCons (fVar 5) (fNil))))))) (fCons (fAnd (fVar 14) (fVar 2)) (fNil)))))) (sRet (fC (.bool false))) (sSkip)) (sIf (fB (f2 (eqW true) (fA reprA (fCons (fVar 5) (fNil))) (fVar 13))) (sRet (fC (.bool false))) (sSkip))))
theorem pr_small {p : Str × Str} (h1 : NameOk p.1) (h2 : NameOk p.2) : gd 20 (prT p) = true ∧ gd 20 (prW true p) = true ∧ PyData.depth (prT p) = 1 ∧ PyData.depth (prW true p) = 1 ∧ costD (prT p) ≤ 140 ∧ costD (prW true p) ≤ 140 := by
  have g : ∀ s : Str, NameOk s → gd 20 (.str s) = true ∧ costD (.str s) ≤ 62 := fun s hs => by
    obtain ⟨_, a2, a3⟩ := hs
    refine ⟨gd_of ?_ fun c hc => by have := a3 c hc; omega, by rw [costD]; omega⟩
    have : s.cps.toList.length = s.length := by rw [Array.length_toList]; rfl
    omega
  obtain ⟨g1, c1⟩ := g _ h1
  obtain ⟨g2, c2⟩ := g _ h2
  have cs : costDs [.str p.1, .str p.2] ≤ 130 := by
    rw [show ([.str p.1, .str p.2] : List D) = [.str p.1] ++ [.str p.2] from rfl, costDs_app, costDs_one, costDs_one]
    omega
  have gg : gds 20 [.str p.1, .str p.2] = true := by rw [gds, gds, gds, g1, g2]; rfl
  refine ⟨by unfold prT; rw [gd]; exact gg, by show gd 20 (.list _) = true; rw [gd]; exact gg, rfl, rfl, ?_, ?_⟩
  · unfold prT; rw [costD]; omega
  · show costD (.list _) ≤ 140; rw [costD]; omega
theorem costs_le {k : Nat} : ∀ {ds : List D}, (∀ d ∈ ds, costD d ≤ k) → costDs ds ≤ (k + 2) * ds.length
  | [], _ => by rw [costDs]; exact Nat.zero_le _
  | d :: ds, h => by
    have h1 := h d List.mem_cons_self
    have h2 := costs_le (ds := ds) fun e he => h e (List.mem_cons_of_mem _ he)
    rw [costDs, List.length_cons, Nat.mul_succ]
    omega
theorem thn_of {ds : List D} (g : ∀ d ∈ ds, gd 20 d = true) (dp : ∀ d ∈ ds, PyData.depth d ≤ 1) (cs : ∀ d ∈ ds, costD d ≤ 140) (l : ds.length ≤ 30) : (gd 20 (.list ds) = true ∧ PyData.depth (.list ds) ≤ 2 ∧ costD (.list ds) ≤ 40000) ∧ Thn (.list ds) ∧ Thn (.tuple ds) := by
  have gs : gds 20 ds = true := gds_iff.mpr g
  have da : PyData.depthAll ds ≤ 1 := depthAll_iff.mpr dp
  have ca := costs_le cs
  have cb : (140 + 2) * ds.length ≤ 142 * 30 := Nat.mul_le_mul (Nat.le_refl _) l
  have g1 : gd 20 (.list ds) = true := by rw [gd]; exact gs
  have g2 : gd 20 (.tuple ds) = true := by rw [gd]; exact gs
  have d1 : PyData.depth (.list ds) ≤ 2 := by rw [PyData.depth]; omega
  have d2 : PyData.depth (.tuple ds) ≤ 2 := by rw [PyData.depth]; omega
  have c1 : costD (.list ds) ≤ 40000 := by rw [costD]; omega
  have c2 : costD (.tuple ds) ≤ 40000 := by rw [costD]; omega
  exact ⟨⟨g1, d1, c1⟩, ⟨gd_up (by omega) g1, by omega, by omega⟩, ⟨gd_up (by omega) g2, by omega, by omega⟩⟩
section
variable {b : Nat} {l r : List Str} {ws : List (List (Str × Str))} {a e : Str} {v3 v4 v6 v15 : Option W} {h : Hh}
theorem chk_ok {d : D} {v13 v14 : Option W} (cw : Words r ws) (nd : r.Nodup) (hr : r.length ≤ 1000) (tr : Txts r) (hw : ws.length ≤ 900) (ha : a ∈ r) (he : e ∈ r) (td : Thn d) (gP : ∀ p ∈ walkL ws.reverse (a, e), gd 100 (.str p.1) = true ∧ gd 100 (.str p.2) = true) (P2 : List (Str × Str)) :
    ∃ u13 u14, chkB (e11 b l r ws (walkL ws.reverse (a, e)) P2 a e (some (.dat (.bool (decide (r.idxOf (lastW ws.reverse (a, e)).1 < r.idxOf (lastW ws.reverse (a, e)).2))))) v3 v4 (some (.dat d)) v6 v13 v14 v15) h = some (.nx (e11 b l r ws (walkL ws.reverse (a, e)) P2 a e (some (.dat (.bool (decide (r.idxOf (lastW ws.reverse (a, e)).1 < r.idxOf (lastW ws.reverse (a, e)).2))))) v3 v4 (some (.dat d)) v6 u13 u14 v15), h) ∧ (∀ n, isR n u13 = false) ∧ (∀ n, isR n u14 = false) := by
  have hz : sizeLine = 16777216 := rfl
  have cr : Words r ws.reverse := fun q hq => cw q (List.mem_reverse.mp hq)
  have tP := walkL_txt tr cr (p := (a, e)) ha he
  have dp := td.dep
  have cp := td.c
  have rp := reprA_ok (h := h) (by omega) td.g (by omega) (by omega)
  have sm := sameB_prs (h := h) (P := walkL ws.reverse (a, e)) (by omega) td.g (by omega) (by omega) tP (by rw [walkL_len, List.length_reverse]; omega) gP
  have sh := shows_any (h := h) (x := rowT r) (y := .list (ws.map cT)) (l := false) (d := d) (.inr rfl) (.inl (by rw [cD_false])) cw nd hr tr (by omega) ha he (by omega) td.g (by omega) (by omega)
  generalize hR : decide (r.idxOf (lastW ws.reverse (a, e)).1 < r.idxOf (lastW ws.reverse (a, e)).2) = R at *
  generalize hq : decide (d = .list ((walkL ws.reverse (a, e)).map prT)) = q at *
  let E : Option W → Option W → DL.Env := fun x y => e11 b l r ws (walkL ws.reverse (a, e)) P2 a e (some (.dat (.bool R))) v3 v4 (some (.dat d)) v6 x y v15
  refine ⟨some (.dat (.str d.shown)), some (.dat (.bool q)), ?_, fun _ => rfl, fun _ => rfl⟩
  unfold chkB
  refine (zP (ρ1 := E (some (.dat (.str d.shown))) (some (.dat (.bool q)))) (ws := [.dat (.str d.shown), .dat (.bool q)]) (xC (xA (xC (E := fVar 5) rfl xN) rp) (xC (xA (xC (E := fVar 5) rfl (xC (E := fVar 11) rfl xN)) sm) xN)) rfl rfl).trans ?_
  have an : fAnd (fVar 14) (fVar 2) (E (some (.dat (.str d.shown))) (some (.dat (.bool q)))) h = some (.dat (.bool (q && R)), h) := by
    cases q with
    | true => exact xAnd (A := fVar 14) rfl rfl
    | false => exact xAndF (A := fVar 14) rfl
  have sb : m__law_sameB 12 [.dat (.bool (q && R)), .dat (.bool (q && R))] h = some (.dat (.bool true), h) := by
    have := sameB_bool (m := 25) (n := 11) (x := .bool (q && R)) (z := q && R) (h := h) (by rw [gd])
    rw [decide_eq_true rfl] at this
    exact this
  refine (zI (xT (xA (xC (xA (xC (E := fAsT (fVar 7)) (w := .dat (rowT r)) rfl (xC (E := fVar 8) rfl (xC (E := fVar 9) rfl (xC (E := fVar 10) rfl (xC (E := fVar 5) rfl xN))))) sh) (xC an xN)) sb))).trans ?_
  refine sIfF (xBh (x2 (f := eqW true) (xA (xC (E := fVar 5) rfl xN) rp) (B := fVar 13) rfl ?_))
  rw [eqW_strs, if_pos rfl, decide_eq_true rfl]
  rfl
theorem chks_ok (cw : Words r ws) (nd : r.Nodup) (hr : r.length ≤ 1000) (tr : Txts r) (hw : ws.length ≤ 900) (ha : a ∈ r) (he : e ∈ r) (gP : ∀ p ∈ walkL ws.reverse (a, e), gd 100 (.str p.1) = true ∧ gd 100 (.str p.2) = true) (P2 : List (Str × Str)) : ∀ (ds : List D) (v5 v13 v14 : Option W), (∀ d ∈ ds, Thn d) → (∀ n, isR n v5 = false) → (∀ n, isR n v13 = false) → (∀ n, isR n v14 = false) →
    ∃ u5 u13 u14, forL (gN 5) chkB ds (e11 b l r ws (walkL ws.reverse (a, e)) P2 a e (some (.dat (.bool (decide (r.idxOf (lastW ws.reverse (a, e)).1 < r.idxOf (lastW ws.reverse (a, e)).2))))) v3 v4 v5 v6 v13 v14 v15) h = some (.nx (e11 b l r ws (walkL ws.reverse (a, e)) P2 a e (some (.dat (.bool (decide (r.idxOf (lastW ws.reverse (a, e)).1 < r.idxOf (lastW ws.reverse (a, e)).2))))) v3 v4 u5 v6 u13 u14 v15), h) ∧ (∀ n, isR n u5 = false) ∧ (∀ n, isR n u13 = false) ∧ (∀ n, isR n u14 = false)
  | [], v5, v13, v14, _, i5, i13, i14 => ⟨v5, v13, v14, rfl, i5, i13, i14⟩
  | d :: ds, v5, v13, v14, td, _, _, _ => by
    obtain ⟨w13, w14, e1, j13, j14⟩ := chk_ok (b := b) (l := l) (v3 := v3) (v4 := v4) (v6 := v6) (v15 := v15) (h := h) (v13 := v13) (v14 := v14) cw nd hr tr hw ha he (td d List.mem_cons_self) gP P2
    obtain ⟨u5, u13, u14, e2, i5, i13, i14⟩ := chks_ok cw nd hr tr hw ha he gP P2 ds (some (.dat d)) w13 w14 (fun x hx => td x (List.mem_cons_of_mem _ hx)) (fun _ => rfl) j13 j14
    refine ⟨u5, u13, u14, ?_, i5, i13, i14⟩
    have k : ∀ v2 : Option W, gN 5 (.dat d) (e11 b l r ws (walkL ws.reverse (a, e)) P2 a e v2 v3 v4 v5 v6 v13 v14 v15) h = some (e11 b l r ws (walkL ws.reverse (a, e)) P2 a e v2 v3 v4 (some (.dat d)) v6 v13 v14 v15) := fun _ => rfl
    unfold forL
    simp only [k, e1]
    exact e2
end
theorem right_ok (h : Hh) (b c : Nat) (hk : OkA h) (hb : BoxAt h b c) (hc : c ≤ 4 * 8000) : ∃ h', m__law_right [.ref b] h = some (.dat (.bool true), h') ∧ BoxAt h' b (c + 8000) ∧ OkA h' := by
  have hz : sizeLine = 16777216 := rfl
  have t1 : 1 ≤ sizeLine := by decide
  obtain ⟨cr, h1, e1, C, b1, o1⟩ := crew_ok (most := 7) hb (by omega) (by omega) (by omega)
  obtain ⟨fk, k2⟩ := C.more
  have x1 : cr.map PyData.str ++ [.str qqq] = (cr ++ [qqq]).map .str := by rw [List.map_append]; rfl
  have crl := C.le
  generalize hl : cr ++ [qqq] = l at *
  have lx : IsSeq (PyData.list (l.map .str)) (l.map .str) := .inl rfl
  have f8 := fk.le
  obtain ⟨fl, h2, e2, pf, b2, o2⟩ := strewn_ok (x := .list (l.map .str)) (ds := l.map .str) (.inl rfl) b1 (by rw [List.length_map]; omega) (by rw [List.length_map]; omega)
  obtain ⟨r, rfl, pr⟩ := perm_strs pf
  rw [List.length_map] at b2
  obtain ⟨ws, h3, e3, cw, wl, b3, o3⟩ := asks_ok (n := 8) lx fk.txts b2 (by omega) fk.pos (by omega) (by omega)
  obtain ⟨a, e, g, e4, ha, he, ne, b4, o4⟩ := two_ok lx fk.nd b3 (by omega) k2 (by omega)
  have og := ((o1.trans o2).trans o3).trans o4
  have bl := b4.lt
  have gl : g.length = h.length := og.len
  have nr : r.Nodup := pr.nodup_iff.mpr fk.nd
  have rl := pr.length_eq
  have tr : Txts r := fk.txts.perm pr
  have cwr : Words r ws := cw.perm pr.symm
  have har : a ∈ r := pr.mem_iff.mpr ha
  have her : e ∈ r := pr.mem_iff.mpr he
  let P1 := walkL ws.reverse (a, e)
  let P2 := walkL ws.reverse (e, a)
  have w1 := own_walk_ok (h := g) (p := (a, e)) cw fk.nd fk.pos ha he (by omega)
  have w2 := own_walk_ok (h := g) (p := (e, a)) cw fk.nd fk.pos he ha (by omega)
  have lP1 : P1.length = ws.length + 1 := by show (walkL _ _).length = _; rw [walkL_len, List.length_reverse]
  have lP2 : P2.length = ws.length + 1 := by show (walkL _ _).length = _; rw [walkL_len, List.length_reverse]
  let q := lastW ws.reverse (a, e)
  have crr : Words l ws.reverse := fun z hz => cw z (List.mem_reverse.mp hz)
  have crr' : Words r ws.reverse := fun z hz => cwr z (List.mem_reverse.mp hz)
  obtain ⟨q1, q2⟩ := lastW_in crr' (p := (a, e)) har her
  have qn : q.1 ≠ q.2 := lastW_ne ws.reverse (p := (a, e)) ne
  have q2' : lastW ws.reverse (e, a) = (q.2, q.1) := lastW_swap ws.reverse (a, e)
  let R : Bool := decide (r.idxOf q.1 < r.idxOf q.2)
  have nR : decide (r.idxOf q.2 < r.idxOf q.1) = !R := by
    have ni : r.idxOf q.1 ≠ r.idxOf q.2 := fun z => qn (idx_inj q1 q2 z)
    by_cases z : r.idxOf q.1 < r.idxOf q.2
    · show _ = !decide _
      rw [decide_eq_true z, decide_eq_false (by omega)]; rfl
    · show _ = !decide _
      rw [decide_eq_false z, decide_eq_true (by omega)]; rfl
  -- the walks' pairs are small
  have nmP : ∀ (P : List (Str × Str)), (∀ p ∈ P, p.1 ∈ l ∧ p.2 ∈ l) → ∀ p ∈ P, NameOk p.1 ∧ NameOk p.2 := fun P hP p hp => ⟨fk.nam _ (hP p hp).1, fk.nam _ (hP p hp).2⟩
  have inW : ∀ (us : List (List (Str × Str))) (p : Str × Str), Words l us → p.1 ∈ l → p.2 ∈ l → ∀ z ∈ walkL us p, z.1 ∈ l ∧ z.2 ∈ l := fun us => by
    induction us with
    | nil => intro p _ p1 p2 z hz; rw [walkL, List.mem_singleton] at hz; rw [hz]; exact ⟨p1, p2⟩
    | cons ps us ih =>
      intro p cu p1 p2 z hz
      obtain ⟨g1, g2⟩ := goneP_in (cu ps List.mem_cons_self) p1 p2
      rw [walkL] at hz
      rcases List.mem_cons.mp hz with h | h
      · rw [h]; exact ⟨p1, p2⟩
      · exact ih _ (fun y hy => cu y (List.mem_cons_of_mem _ hy)) g1 g2 z h
  have n1 := nmP P1 (inW ws.reverse (a, e) crr ha he)
  have n2 := nmP P2 (inW ws.reverse (e, a) crr he ha)
  have gP : ∀ p ∈ P1, gd 100 (.str p.1) = true ∧ gd 100 (.str p.2) = true := fun p hp => by
    have g : ∀ s : Str, NameOk s → gd 100 (.str s) = true := fun s hs => by
      obtain ⟨_, a2, a3⟩ := hs
      refine gd_of ?_ fun c hc => by have := a3 c hc; omega
      have : s.cps.toList.length = s.length := by rw [Array.length_toList]; rfl
      omega
    exact ⟨g _ (n1 p hp).1, g _ (n1 p hp).2⟩
  let Sm : D → Prop := fun d => gd 20 d = true ∧ PyData.depth d ≤ 1 ∧ costD d ≤ 140
  have sp : ∀ p, NameOk p.1 ∧ NameOk p.2 → Sm (prT p) ∧ Sm (prW true p) := fun p hp => by
    obtain ⟨a1, a2, a3, a4, a5, a6⟩ := pr_small hp.1 hp.2
    exact ⟨⟨a1, by omega, a5⟩, ⟨a2, by omega, a6⟩⟩
  have thn : ∀ ds : List D, (∀ d ∈ ds, Sm d) → ds.length ≤ 30 → (gd 20 (.list ds) = true ∧ PyData.depth (.list ds) ≤ 2 ∧ costD (.list ds) ≤ 40000) ∧ Thn (.list ds) ∧ Thn (.tuple ds) := fun ds h l => thn_of (fun d hd => (h d hd).1) (fun d hd => (h d hd).2.1) (fun d hd => (h d hd).2.2) l
  have s1 : ∀ d ∈ P1.map prT, Sm d := fun d hd => by
    obtain ⟨p, hp, rfl⟩ := List.mem_map.mp hd
    exact (sp p (n1 p hp)).1
  have s2 : ∀ d ∈ P2.map prT, Sm d := fun d hd => by
    obtain ⟨p, hp, rfl⟩ := List.mem_map.mp hd
    exact (sp p (n2 p hp)).1
  have s3 : ∀ d ∈ P1.map (prW true), Sm d := fun d hd => by
    obtain ⟨p, hp, rfl⟩ := List.mem_map.mp hd
    exact (sp p (n1 p hp)).2
  have l1 : (P1.map prT).length ≤ 9 := by rw [List.length_map]; omega
  have l2 : (P2.map prT).length ≤ 9 := by rw [List.length_map]; omega
  obtain ⟨⟨gm, dm, cm⟩, th1, th3⟩ := thn (P1.map prT) s1 (by omega)
  have th2 := (thn (P2.map prT) s2 (by omega)).2.1
  have th4 := (thn (P1.map (prW true)) s3 (by rw [List.length_map]; omega)).2.1
  have th5 := (thn ((P1.map prT).drop 1) (fun d hd => s1 d (List.mem_of_mem_drop hd)) (by rw [List.length_drop]; omega)).2.1
  have th6 := (thn (P1.map prT).reverse (fun d hd => s1 d (List.mem_reverse.mp hd)) (by rw [List.length_reverse]; omega)).2.1
  have th7 := (thn [] (fun d hd => by cases hd) (by decide)).2
  have th8 := (thn (P1.map prT ++ (P1.map prT).drop ((P1.map prT).length - 1)) (fun d hd => (List.mem_append.mp hd).elim (s1 d) fun h => s1 d (List.mem_of_mem_drop h)) (by rw [List.length_append, List.length_drop]; omega)).2.1
  have thN : Thn .none := ⟨by rw [gd], by show 0 ≤ _; omega, by show 5 ≤ _; omega⟩
  let A6 : List D := [.list (P1.map prT), .list (P2.map prT), .tuple (P1.map prT), .list (P1.map (prW true)), .list ((P1.map prT).drop 1), .list (P1.map prT).reverse]
  let A4 : List D := [.list [], .none, .tuple [], .list (P1.map prT ++ (P1.map prT).drop ((P1.map prT).length - 1))]
  have tA : ∀ d ∈ A6 ++ A4, Thn d := fun d hd => by
    simp only [A6, A4, List.cons_append, List.nil_append, List.mem_cons, List.not_mem_nil, or_false] at hd
    rcases hd with rfl | rfl | rfl | rfl | rfl | rfl | rfl | rfl | rfl | rfl
    · exact th1
    · exact th2
    · exact th3
    · exact th4
    · exact th5
    · exact th6
    · exact th7.1
    · exact thN
    · exact th7.2
    · exact th8
  let V2 : Option W := some (.dat (.bool R))
  -- the twelve others
  obtain ⟨ds, u4, u5, g1, ea, td, ld, b5, o5, i4, i5⟩ := adds_ok (l := l) (r := r) (ws := ws) (P1 := P1) (P2 := P2) (a := a) (e := e) (v2 := V2) (v6 := none) (v13 := none) (v14 := none) (v15 := none) gm dm cm (rngD 0 12) g (A6 ++ A4) none none _ b4 (by rw [rng_len]; omega) tA (by rw [rng_len]; show 10 + 12 ≤ 100; omega) (fun _ => rfl) (fun _ => rfl)
  have ll12 : (rngD 0 12).length = 12 := rng_len 12
  rw [ll12] at b5
  have g1l : g1.length = g.length := o5.len
  obtain ⟨x5, x13, x14, ec, j5, j13, j14⟩ := chks_ok (b := b) (l := l) (v3 := some (.dat (.list ds))) (v4 := u4) (v6 := none) (v15 := none) (h := g1 ++ [none]) cwr nr (by omega) tr (by omega) har her gP P2 ds u5 none none td i5 (fun _ => rfl) (fun _ => rfl)
  have O : Only b h g1 := og.trans o5
  have bg1 : BoxAt g1 b (c + 8000) := b5.mono (by omega)
  refine ⟨g1, ?_, bg1, hk.only O bg1⟩
  have lv : leave false h (.dat (.bool true)) ((g1 ++ [none]) ++ [none]) = some (.dat (.bool true), g1) := by
    have tk2 : ((g1 ++ [none]) ++ [none]).take h.length = g1 := by rw [← gl, ← g1l, List.append_assoc]; exact List.take_left
    have := leave_dat (h := h) (h' := (g1 ++ [none]) ++ [none]) (d := .bool true) (by rw [tk2]; exact live_only hb bg1 O)
    rw [tk2] at this
    exact this
  have eq : m__law_right = fnM false 1 16 (sSeq (sAsg (f2 (addW false) (fA (m__law_crew) (fCons (fVar 0) (fCons (fC (.int 7)) (fNil)))) (fA (lstW false) (fCons (fC (.str "qqq")) (fNil)))) (gN 1)) (sSeq (sPar (fCons (fA tupRW (fCons (fA (m__law_strewn) (fCons (fVar 0) (fCons (fVar 1) (fNil)))) (fNil))) (fCons (fA (m__law_asks) (fCons (fVar 0) (fCons (fVar 1) (fCons (fC (.int 8)) (fNil))))) (fNil))) [7, 8]) (sSeq (sAsg (fA (m__law_two) (fCons (fVar 0) (fCons (fVar 1) (fNil)))) (gT 2 (gC (gN 9) (gC (gN 10) (gE))))) (sSeq (sPar (fCons (fA (m__law_walk) (fCons (fVar 8) (fCons (fVar 9) (fCons (fVar 10) (fNil))))) (fCons (fA (m__law_walk) (fCons (fVar 8) (fCons (fVar 10) (fCons (fVar 9) (fNil))))) (fNil))) [11, 12]) (sSeq (sAsg (f2 lt_W (fM isRow indexR (fVar 7) (fCons (f2 idxW (f2 idxW (fVar 11) (fNeg (fC (.int 1)))) (fC (.int 0))) (fNil))) (fM isRow indexR (fVar 7) (fCons (f2 idxW (f2 idxW (fVar 11) (fNeg (fC (.int 1)))) (fC (.int 1))) (fNil)))) (gN 2)) (sSeq (sAsg (fA (lstW false) (fCons (fVar 11) (fCons (fVar 12) (fCons (fA tupleW (fCons (fVar 11) (fNil))) (fCons (fLc false (seqI (fVar 11)) (gN 15) (bYes) (fA (listW false) (fCons (fVar 15) (fNil))) [15]) (fCons (fSl false (fVar 11) (oSome (fC (.int 1))) (oNone)) (fCons (fRev false (fVar 11)) (fNil)))))))) (gN 3)) (sSeq (sAsg (f2 (addW true) (fVar 3) (fA (lstW false) (fCons (fA (lstW false) (fNil)) (fCons (fC .none) (fCons (fA tupW (fNil)) (fCons (f2 (addW false) (fVar 11) (fSl false (fVar 11) (oSome (fNeg (fC (.int 1)))) (oNone))) (fNil))))))) (gN 3)) (sSeq (sFor (rng1I (fCons (fC (.int 12)) (fNil))) (gN 4) addB) (sFrz 3 (sSeq (sFor (seqI (fVar 3)) (gN 5) chkB) (sSeq (sAsg (fA (lstW true) (fCons (fA (m_shows_ahead) (fCons (fA (listW false) (fCons (fAsT (fVar 7)) (fNil))) (fCons (fA tupleW (fCons (fA (m__law_lists 12) (fCons (fVar 8) (fNil))) (fNil))) (fCons (fVar 9) (fCons (fVar 10) (fCons (fVar 11) (fNil))))))) (fNil))) (gN 6)) (sSeq (sExpr (fM isL appendW (fVar 6) (fCons (fA (kwM 5 [4, 3, 2, 1, 0] (m_shows_ahead)) (fCons (fVar 12) (fCons (fVar 9) (fCons (fVar 10) (fCons (fVar 8) (fCons (fAsT (fVar 7)) (fNil))))))) (fNil)))) (sFrz 6 (sRet (fA (m__law_sameB 12) (fCons (fVar 6) (fCons (fA (lstW false) (fCons (fVar 2) (fCons (fNot (fVar 2)) (fNil)))) (fNil)))))))))))))))))) := rfl
  rw [eq]
  refine fnM_rt (h' := (g1 ++ [none]) ++ [none]) (w := .dat (.bool true)) ?_ rfl lv
  show sSeq _ _ [some (.ref b), none, none, none, none, none, none, none, none, none, none, none, none, none, none, none] h = _
  have a1 : addW false (.dat (.list (cr.map .str))) (.dat (.list [.str "qqq"])) h1 = some (.dat (.list (l.map .str)), h1) := by
    have := xAdd (a := cr.map .str) (b := [.str "qqq"]) (h := h1) (by rw [List.length_map]; show cr.length + 1 ≤ _; omega)
    rw [this]
    exact congrArg (fun z => some (W.dat (PyData.list z), h1)) x1
  refine (zA (ρ1 := [some (.ref b), some (.dat (.list (l.map .str))), none, none, none, none, none, none, none, none, none, none, none, none, none, none]) (x2 (f := addW false) (xA (xC (E := fVar 0) rfl (xC (E := fC (.int 7)) rfl xN)) e1) (xA (xC (E := fC (.str "qqq")) rfl xN) (xLst (ds := [.str "qqq"]) rfl t1)) a1) rfl).trans ?_
  have tw : tupRW [.dat (.list (r.map .str))] h2 = some (.row (r.map .str), h2) := rfl
  refine (zP (ρ1 := [some (.ref b), some (.dat (.list (l.map .str))), none, none, none, none, none, some (.row (r.map .str)), some (.dat (.list (ws.map cT))), none, none, none, none, none, none, none]) (ws := [.row (r.map .str), .dat (.list (ws.map cT))]) (xC (xA (xC (xA (xC (E := fVar 0) rfl (xC (E := fVar 1) rfl xN)) e2) xN) tw) (xC (xA (xC (E := fVar 0) rfl (xC (E := fVar 1) rfl (xC (E := fC (.int 8)) rfl xN))) e3) xN)) rfl rfl).trans ?_
  refine (zA (ρ1 := [some (.ref b), some (.dat (.list (l.map .str))), none, none, none, none, none, some (.row (r.map .str)), some (.dat (.list (ws.map cT))), some (.dat (.str a)), some (.dat (.str e)), none, none, none, none, none]) (xA (xC (E := fVar 0) rfl (xC (E := fVar 1) rfl xN)) e4) rfl).trans ?_
  refine (zP (ρ1 := e11 b l r ws P1 P2 a e none none none none none none none none) (ws := [.dat (.list (P1.map prT)), .dat (.list (P2.map prT))]) (xC (xA (xC (E := fVar 8) rfl (xC (E := fVar 9) rfl (xC (E := fVar 10) rfl xN))) w1) (xC (xA (xC (E := fVar 8) rfl (xC (E := fVar 10) rfl (xC (E := fVar 9) rfl xN))) w2) xN)) rfl rfl).trans ?_
  obtain ⟨wl', el⟩ := walkL_last ws.reverse (a, e)
  have al : L2.atI (P1.map prT) (-1) = some (prT q) := by show L2.atI ((walkL ws.reverse (a, e)).map prT) (-1) = _; rw [el, List.map_append]; exact atI_neg1 _ _
  have i6 : f2 idxW (fVar 11) (fNeg (fC (.int 1))) (e11 b l r ws P1 P2 a e none none none none none none none none) g = some (.dat (prT q), g) := x2 (f := idxW) (A := fVar 11) rfl neg1 (idxW_lst al)
  have ix : ∀ (k : Int) (s : Str), L2.atI [PyData.str q.1, .str q.2] k = some (.str s) → f2 idxW (f2 idxW (fVar 11) (fNeg (fC (.int 1)))) (fC (.int k)) (e11 b l r ws P1 P2 a e none none none none none none none none) g = some (.dat (.str s), g) := fun k s ee => x2 (f := idxW) i6 (B := fC (.int k)) rfl (by
    show idxW (.dat (.tuple [.str q.1, .str q.2])) (.dat (.int k)) g = _
    unfold idxW
    simp only [deref, ee]
    rfl)
  have ltq : lt_W (.dat (.int (r.idxOf q.1 : Int))) (.dat (.int (r.idxOf q.2 : Int))) g = some (.dat (.bool R), g) := by
    rw [lt_i']
    have : decide ((r.idxOf q.1 : Int) < (r.idxOf q.2 : Int)) = R := by
      by_cases z : r.idxOf q.1 < r.idxOf q.2
      · show _ = decide _
        rw [decide_eq_true z, decide_eq_true (by omega)]
      · show _ = decide _
        rw [decide_eq_false z, decide_eq_false (by omega)]
    rw [this]
  refine (zA (ρ1 := e11 b l r ws P1 P2 a e V2 none none none none none none none) (x2 (f := lt_W) (xIdR (E := fVar 7) rfl (ix 0 q.1 rfl) q1) (xIdR (E := fVar 7) rfl (ix 1 q.2 rfl) q2) ltq) rfl).trans ?_
  have plc : fLc false (seqI (fVar 11)) (gN 15) (bYes) (fA (listW false) (fCons (fVar 15) (fNil))) [15] (e11 b l r ws P1 P2 a e V2 none none none none none none none) g = some (.dat (.list (P1.map (prW true))), g) := by
    refine xL (vs := [15]) (xS (E := fVar 11) rfl (.inl rfl)) ?_ (by rw [List.length_map]; omega)
    exact lcL_list (k := gN 15) (f := fA (listW false) (fCons (fVar 15) (fNil))) (ρ := e11 b l r ws P1 P2 a e V2 none none none none none none none) (h := g) prT (prW true) (xs := P1) fun p _ => ⟨e11 b l r ws P1 P2 a e V2 none none none none none none (some (.dat (prT p))), rfl, xA (xC (E := fVar 15) rfl xN) (xList (.inr rfl))⟩
  have sl1 : fSl false (fVar 11) (oSome (fC (.int 1))) (oNone) (e11 b l r ws P1 P2 a e V2 none none none none none none none) g = some (.dat (.list ((P1.map prT).drop 1)), g) := sl_runF (A := fVar 11) (E := fC (.int 1)) rfl rfl (cut_from1 _)
  refine (zA (ρ1 := e11 b l r ws P1 P2 a e V2 (some (.dat (.list A6))) none none none none none none) (xA (xC (E := fVar 11) rfl (xC (E := fVar 12) rfl (xC (xA (xC (E := fVar 11) rfl xN) (xTup (.inl rfl))) (xC plc (xC sl1 (xC (E := fRev false (fVar 11)) (w := .dat (.list (P1.map prT).reverse)) rfl xN)))))) (xLst (ds := A6) rfl (by show 6 ≤ sizeLine; omega))) rfl).trans ?_
  have sl2 : fSl false (fVar 11) (oSome (fNeg (fC (.int 1)))) (oNone) (e11 b l r ws P1 P2 a e V2 (some (.dat (.list A6))) none none none none none none) g = some (.dat (.list ((P1.map prT).drop ((P1.map prT).length - 1))), g) := sl_runF (A := fVar 11) (E := fNeg (fC (.int 1))) rfl neg1 (cut_lastG _)
  have ad2 : addW false (.dat (.list (P1.map prT))) (.dat (.list ((P1.map prT).drop ((P1.map prT).length - 1)))) g = some (.dat (.list (P1.map prT ++ (P1.map prT).drop ((P1.map prT).length - 1))), g) := xAdd (by rw [List.length_drop]; omega)
  have ad3 : addW true (.dat (.list A6)) (.dat (.list A4)) g = some (.ref g.length, g ++ [some (.lst (A6 ++ A4))]) := rfl
  refine (zA (ρ1 := e11 b l r ws P1 P2 a e V2 (some (.ref g.length)) none none none none none none) (x2 (f := addW true) (A := fVar 3) rfl (xA (xC (xA xN (xLst (ds := []) rfl (Nat.zero_le _))) (xC (E := fC .none) rfl (xC (xA xN (xTp (ds := []) rfl (Nat.zero_le _))) (xC (x2 (f := addW false) (A := fVar 11) rfl sl2 ad2) xN)))) (xLst (ds := A4) rfl (by show 4 ≤ sizeLine; omega))) ad3) rfl).trans ?_
  refine (zF (ds := rngD 0 12) rfl ea).trans ?_
  -- the things change no more
  have hn : (g1 ++ [some (MO.lst ds)])[g.length]? = some (some (.lst ds)) := app_get g1l
  have st : (g1 ++ [some (MO.lst ds)]).set g.length none = g1 ++ [none] := app_set g1l
  have isR_row : ∀ (n : Nat) (zs : List D), isR n (some (.row zs)) = false := fun _ _ => rfl
  have ne1 : (b = g.length) = False := by
    have : b ≠ g.length := by omega
    simpa using this
  have fz : frz 3 (e11 b l r ws P1 P2 a e V2 (some (.ref g.length)) u4 u5 none none none none) (g1 ++ [some (.lst ds)]) = some (e11 b l r ws P1 P2 a e V2 (some (.dat (.list ds))) u4 u5 none none none none, g1 ++ [none]) := by
    unfold frz
    simp only [e11, V2, List.getElem?_cons_zero, List.getElem?_cons_succ, hn, List.set_cons_zero, List.set_cons_succ, List.any_cons, List.any_nil, isR_dat, isR_none, isR_ref, isR_row, i4, i5, ne1, decide_false, Bool.or_false, isTab, Bool.false_eq_true, if_false, moD, st]
  unfold sFrz
  rw [fz]
  show sSeq _ _ _ _ = _
  refine (zF (ds := ds) (xS (E := fVar 3) rfl (.inl rfl)) ec).trans ?_
  have lw := lists_words (h := g1 ++ [none]) (ws := ws) (fun ps hp => by have := (cw ps hp).perm.length_eq; rw [List.length_map] at this; omega) (by omega)
  have sa := shows_any (h := g1 ++ [none]) (x := .list (r.map .str)) (y := .tuple (ws.map (cD true))) (l := true) (d := .list (P1.map prT)) (.inl rfl) (.inr rfl) cwr nr (by omega) tr (by omega) har her (m := 22) (by omega) th1.g (by have := th1.dep; omega) (by have := th1.c; omega)
  rw [decide_eq_true rfl, Bool.true_and] at sa
  let H2 : Hh := (g1 ++ [none]) ++ [some (.lst [.bool R])]
  have sb := shows_any (h := H2) (x := rowT r) (y := .list (ws.map cT)) (l := false) (d := .list (P2.map prT)) (.inr rfl) (.inl (by rw [cD_false])) cwr nr (by omega) tr (by omega) her har (m := 22) (by omega) th2.g (by have := th2.dep; omega) (by have := th2.c; omega)
  rw [decide_eq_true rfl, Bool.true_and, q2', nR] at sb
  let n6 := (g1 ++ [(none : Option MO)]).length
  have l6 : lstW true [.dat (.bool R)] (g1 ++ [none]) = some (.ref n6, H2) := rfl
  refine (zA (ρ1 := e11 b l r ws P1 P2 a e V2 (some (.dat (.list ds))) u4 x5 (some (.ref n6)) x13 x14 none) (xA (xC (xA (xC (xA (xC (E := fAsT (fVar 7)) (w := .dat (rowT r)) rfl xN) (xList (.inr rfl))) (xC (xA (xC (xA (xC (E := fVar 8) rfl xN) lw) xN) (xTup (.inl rfl))) (xC (E := fVar 9) rfl (xC (E := fVar 10) rfl (xC (E := fVar 11) rfl xN))))) sa) xN) l6) rfl).trans ?_
  have hn6 : H2[n6]? = some (some (.lst [.bool R])) := app_get rfl
  have ap := zApp (A := fVar 6) (E := fA (kwM 5 [4, 3, 2, 1, 0] (m_shows_ahead)) (fCons (fVar 12) (fCons (fVar 9) (fCons (fVar 10) (fCons (fVar 8) (fCons (fAsT (fVar 7)) (fNil))))))) (rest := sFrz 6 (sRet (fA (m__law_sameB 12) (fCons (fVar 6) (fCons (fA (lstW false) (fCons (fVar 2) (fCons (fNot (fVar 2)) (fNil)))) (fNil)))))) (n := n6) (ds := [.bool R]) (d := .bool (!R)) (ρ := e11 b l r ws P1 P2 a e V2 (some (.dat (.list ds))) u4 x5 (some (.ref n6)) x13 x14 none) (h := H2) rfl hn6 (xA (xC (E := fVar 12) rfl (xC (E := fVar 9) rfl (xC (E := fVar 10) rfl (xC (E := fVar 8) rfl (xC (E := fAsT (fVar 7)) (w := .dat (rowT r)) rfl xN))))) (xK rfl rfl sb)) hn6 (by show 1 < sizeLine; omega)
  have st6 : H2.set n6 (some (.lst ([.bool R] ++ [.bool (!R)]))) = (g1 ++ [none]) ++ [some (.lst [.bool R, .bool (!R)])] := app_set rfl
  rw [st6] at ap
  refine ap.trans ?_
  have hn7 : ((g1 ++ [none]) ++ [some (MO.lst [.bool R, .bool (!R)])])[n6]? = some (some (.lst [.bool R, .bool (!R)])) := app_get rfl
  have st7 : ((g1 ++ [none]) ++ [some (MO.lst [.bool R, .bool (!R)])]).set n6 none = (g1 ++ [none]) ++ [none] := app_set rfl
  have ne6 : (b = n6) = False := by
    have : b ≠ (g1 ++ [(none : Option MO)]).length := by rw [List.length_append]; omega
    simpa [n6] using this
  have fz6 : frz 6 (e11 b l r ws P1 P2 a e V2 (some (.dat (.list ds))) u4 x5 (some (.ref n6)) x13 x14 none) ((g1 ++ [none]) ++ [some (.lst [.bool R, .bool (!R)])]) = some (e11 b l r ws P1 P2 a e V2 (some (.dat (.list ds))) u4 x5 (some (.dat (.list [.bool R, .bool (!R)]))) x13 x14 none, (g1 ++ [none]) ++ [none]) := by
    unfold frz
    simp only [e11, V2, List.getElem?_cons_zero, List.getElem?_cons_succ, hn7, List.set_cons_zero, List.set_cons_succ, List.any_cons, List.any_nil, isR_dat, isR_none, isR_ref, isR_row, i4, j5, j13, j14, ne6, decide_false, Bool.or_false, isTab, Bool.false_eq_true, if_false, moD, st7]
  unfold sFrz
  rw [fz6]
  show sRet _ _ _ = _
  have nt : fNot (fVar 2) (e11 b l r ws P1 P2 a e V2 (some (.dat (.list ds))) u4 x5 (some (.dat (.list [.bool R, .bool (!R)]))) x13 x14 none) ((g1 ++ [none]) ++ [none]) = some (.dat (.bool (!R)), (g1 ++ [none]) ++ [none]) := rfl
  exact zR (xA (xC (E := fVar 6) rfl (xC (xA (xC (E := fVar 2) rfl (xC nt xN)) (xLst (ds := [.bool R, .bool (!R)]) rfl (by show 2 ≤ sizeLine; omega))) xN)) (sameB_two R (!R)))
theorem law_true (ns : List Int) (hl : ns.length ≤ 63) : ∃ h, m_law [.scr ns] [] = some (.dat (.bool true), h) := by
  have q : m_law = lawM 4 m__law_right := rfl
  rw [q]
  exact law_okJ (t := 4) (J := OkA) rfl (by omega) (by omega) (by decide) OkA.nil (fun h _ => ⟨fun i hi => absurd hi (by simp), by simp⟩) (fun h a b x => x.app (okM_ints _ _ _)) (fun h b c hk _ hb hc => right_ok h b c hk hb hc) ns hl
end LW
set_option maxHeartbeats 4000000
namespace LW
open PySem PySem.Spec PyProof.Rows L2 DL
def topS (i : Nat) : Stmt := PySem.Challenge.pw_standby_k11_walks_that_show_who_is_ahead.main.body.getD i (.Pass ⟨0, 0, 0, 0⟩)
section
variable {P : Program} {w : World} {K : PySem.W.Frag} {mg : Str → Option Value} {base : Heap}
abbrev s_places_of : Stmt := topS 4
abbrev N_places_of : List Str := ["row", "place", "name"]
theorem sc_places_of : FnScope N_places_of ["row"] (defScope s_places_of) := ⟨rfl, rfl, rfl, by decide +kernel, rfl, by decide +kernel, by decide +kernel⟩
theorem ok_places_of (f : Addr) (fd : FuncData) (F : Fun K "places_of" "places_of" s_places_of f fd) (hm : mg "places_of" = some (.ref f)) (B : Bi mg)   : GD P w K mg base 1 "places_of" s_places_of ["row"] m_places_of := gd_ok false F hm sc_places_of fun cdv A outer s H E hr =>
    ds_one (ds_ret (d_dc false (own := [("place", 1), ("name", 2)]) rfl sc_places_of.nd (di_enumA B.enumerate (da_cons (dv 0 (pv 0)) (da_nil))) (blkOk_by (N := N_places_of) (sc := defScope s_places_of) (by decide +kernel)) (fun _ _ _ _ _ => dg_tup rfl (dgs_cons (dg_name 1 (pg_name (i := 1) sc_places_of.nd rfl (Or.inl rfl))) (dgs_cons (dg_name 2 (pg_name (i := 2) sc_places_of.nd rfl (Or.inl rfl))) (dgs_nil)))) (fun _ _ _ _ _ => dts_nil) (fun _ _ _ _ _ => dv 2 (pv 2)) (fun _ _ _ _ _ => dv 1 (pv 1)) (by decide)))
abbrev s_look_alike : Stmt := topS 5
abbrev N_look_alike : List Str := ["one", "other"]
theorem sc_look_alike : FnScope N_look_alike ["one", "other"] (defScope s_look_alike) := ⟨rfl, rfl, rfl, by decide +kernel, rfl, by decide +kernel, by decide +kernel⟩
theorem ok_look_alike (f : Addr) (fd : FuncData) (F : Fun K "look_alike" "look_alike" s_look_alike f fd) (hm : mg "look_alike" = some (.ref f)) (B : Bi mg)   : GD P w K mg base 1 "look_alike" s_look_alike ["one", "other"] m_look_alike := gd_ok false F hm sc_look_alike fun cdv A outer s H E hr =>
    ds_one (ds_if (t_ne hr.room (d_sorted hr false B.sorted (da_cons (dv 0 (pv 0)) (da_nil))) (d_sorted hr false B.sorted (da_cons (dv 1 (pv 1)) (da_nil)))) (ds_one (ds_never)) (ds_nil))
abbrev s_by_names : Stmt := topS 9
abbrev N_by_names : List Str := ["call", "who", "whom"]
theorem sc_by_names : FnScope N_by_names ["call"] (defScope s_by_names) := ⟨rfl, rfl, rfl, by decide +kernel, rfl, by decide +kernel, by decide +kernel⟩
theorem ok_by_names (f : Addr) (fd : FuncData) (F : Fun K "by_names" "by_names" s_by_names f fd) (hm : mg "by_names" = some (.ref f)) (B : Bi mg)   : GD P w K mg base 1 "by_names" s_by_names ["call"] m_by_names := gd_ok false F hm sc_by_names fun cdv A outer s H E hr =>
    ds_one (ds_ret (d_dc false (own := [("who", 1), ("whom", 2)]) rfl sc_by_names.nd (di_seq (dv 0 (pv 0))) (blkOk_by (N := N_by_names) (sc := defScope s_by_names) (by decide +kernel)) (fun _ _ _ _ _ => dg_tup rfl (dgs_cons (dg_name 1 (pg_name (i := 1) sc_by_names.nd rfl (Or.inl rfl))) (dgs_cons (dg_name 2 (pg_name (i := 2) sc_by_names.nd rfl (Or.inl rfl))) (dgs_nil)))) (fun _ _ _ _ _ => dts_nil) (fun _ _ _ _ _ => dv 1 (pv 1)) (fun _ _ _ _ _ => dv 2 (pv 2)) (by decide)))
abbrev s_people : Stmt := topS 10
abbrev N_people : List Str := ["call", "who", "whom"]
theorem sc_people : FnScope N_people ["call"] (defScope s_people) := ⟨rfl, rfl, rfl, by decide +kernel, rfl, by decide +kernel, by decide +kernel⟩
theorem ok_people (f : Addr) (fd : FuncData) (F : Fun K "people" "people" s_people f fd) (hm : mg "people" = some (.ref f)) (B : Bi mg)   : GD P w K mg base 1 "people" s_people ["call"] m_people := gd_ok false F hm sc_people fun cdv A outer s H E hr =>
    ds_one (ds_ret (d_tuple B.tuple (da_cons (d_lc false (own := [("who", 1), ("whom", 2)]) rfl sc_people.nd (di_seq (dv 0 (pv 0))) (blkOk_by (N := N_people) (sc := defScope s_people) (by decide +kernel)) (fun _ _ _ _ _ => dg_tup rfl (dgs_cons (dg_name 1 (pg_name (i := 1) sc_people.nd rfl (Or.inl rfl))) (dgs_cons (dg_name 2 (pg_name (i := 2) sc_people.nd rfl (Or.inl rfl))) (dgs_nil)))) (fun _ _ _ _ _ => dts_nil) (fun _ _ _ _ _ => dv 1 (pv 1)) (by decide)) (da_nil))))
abbrev s_gone : Stmt := topS 12
abbrev N_gone : List Str := ["told", "pair", "one", "other"]
theorem sc_gone : FnScope N_gone ["told", "pair"] (defScope s_gone) := ⟨rfl, rfl, rfl, by decide +kernel, rfl, by decide +kernel, by decide +kernel⟩
theorem ok_gone (f : Addr) (fd : FuncData) (F : Fun K "gone" "gone" s_gone f fd) (hm : mg "gone" = some (.ref f)) (B : Bi mg)   : GD P w K mg base 1 "gone" s_gone ["told", "pair"] m_gone := gd_ok false F hm sc_gone fun cdv A outer s H E hr =>
    ds_cons (ds_par2 (ps_par (i := 2) (j := 3) rfl sc_gone.nd rfl rfl (by decide) rfl rfl (da_cons (d_idx hr.room (dv 0 (pv 0)) (d_idx hr.room (dv 1 (pv 1)) (d_int) (fun _ _ => rfl)) (fun _ _ => rfl)) (da_cons (d_idx hr.room (dv 0 (pv 0)) (d_idx hr.room (dv 1 (pv 1)) (d_int) (fun _ _ => rfl)) (fun _ _ => rfl)) (da_nil))) (by rfl)))
    (ds_one (ds_ret (d_if (t_eq hr.room (dv 2 (pv 2)) (dv 3 (pv 3))) (dv 1 (pv 1)) (d_tup (da_cons (dv 2 (pv 2)) (da_cons (dv 3 (pv 3)) (da_nil)))))))
abbrev s_same_pairs : Stmt := topS 17
abbrev N_same_pairs : List Str := ["thing", "found", "part"]
theorem sc_same_pairs : FnScope N_same_pairs ["thing", "found"] (defScope s_same_pairs) := ⟨rfl, rfl, rfl, by decide +kernel, rfl, by decide +kernel, by decide +kernel⟩
theorem ok_same_pairs (f : Addr) (fd : FuncData) (F : Fun K "same_pairs" "same_pairs" s_same_pairs f fd) (hm : mg "same_pairs" = some (.ref f)) (B : Bi mg)   : GD P w K mg base 1 "same_pairs" s_same_pairs ["thing", "found"] m_same_pairs := gd_ok false F hm sc_same_pairs fun cdv A outer s H E hr =>
    ds_one (ds_ret (d_and (d_all rfl B.all (da_cons (d_lc false (own := [("part", 2)]) rfl sc_same_pairs.nd (di_seq (dv 0 (pv 0))) (blkOk_by (N := N_same_pairs) (sc := defScope s_same_pairs) (by decide +kernel)) (fun _ _ _ _ _ => dg_name 2 (pg_name (i := 2) sc_same_pairs.nd rfl (Or.inl rfl))) (fun _ _ _ _ _ => dts_nil) (fun _ _ _ _ _ => d_isi B.isinstance B.tuple bt_tuple (.inr (.inr (.inr (.inr (.inl rfl))))) (dv 2 (pv 2))) (by decide)) (da_nil))) (d_one (d_eq hr.room (dv 0 (pv 0)) (dv 1 (pv 1))))))
abbrev s__law_box : Stmt := topS 19
abbrev N__law_box : List Str := ["_law_script", "_law_k", "_law_cell"]
theorem sc__law_box : FnScope N__law_box ["_law_script", "_law_k"] (defScope s__law_box) := ⟨rfl, rfl, rfl, by decide +kernel, rfl, by decide +kernel, by decide +kernel⟩
theorem ok__law_box (f : Addr) (fd : FuncData) (F : Fun K "_law_box" "_law_box" s__law_box f fd) (hm : mg "_law_box" = some (.ref f)) (B : Bi mg)   : GD P w K mg base 1 "_law_box" s__law_box ["_law_script", "_law_k"] m__law_box := gd_ok true F hm sc__law_box fun cdv A outer s H E hr =>
    ds_cons (ds_set (ps_set (i := 2) sc__law_box.nd rfl (Or.inl rfl) (d_int)))
    (ds_cons (ds_if (t_lt (dv 1 (pv 1)) (d_len B.len (da_cons (dv 0 (pv 0)) (da_nil)))) (ds_one (ds_set (ps_set (i := 2) sc__law_box.nd rfl (Or.inl rfl) (d_idx hr.room (dv 0 (pv 0)) (dv 1 (pv 1)) (fun _ _ => rfl))))) (ds_nil))
    (ds_one (ds_ret (d_lst true (da_cons (d_mul false (d_abs B.abs (da_cons (dv 2 (pv 2)) (da_nil))) (d_intC B.int (da_cons (d_ge (d_abs B.abs (da_cons (dv 2 (pv 2)) (da_nil))) (d_pow (d_int) (d_int))) (da_nil)))) (da_cons (d_add false (d_add false (d_mod (dv 2 (pv 2)) (d_int)) (d_mul false (d_int) (dv 1 (pv 1)))) (d_int)) (da_cons (d_int) (da_nil))))))))
abbrev s__law_take : Stmt := topS 20
abbrev N__law_take : List Str := ["_law_box_here", "_law_bound", "_law_once", "_law_found"]
theorem sc__law_take : FnScope N__law_take ["_law_box_here", "_law_bound"] (defScope s__law_take) := ⟨rfl, rfl, rfl, by decide +kernel, rfl, by decide +kernel, by decide +kernel⟩
theorem ok__law_take (f : Addr) (fd : FuncData) (F : Fun K "_law_take" "_law_take" s__law_take f fd) (hm : mg "_law_take" = some (.ref f)) (B : Bi mg)   : GD P w K mg base 1 "_law_take" s__law_take ["_law_box_here", "_law_bound"] m__law_take := gd_ok false F hm sc__law_take fun cdv A outer s H E hr =>
    ds_cons (ds_if (t_gt (d_idx hr.room (dv 0 (pv 0)) (d_int) (fun _ _ => rfl)) (d_int)) (ds_cons (ds_set (ps_set (i := 3) sc__law_take.nd rfl (Or.inl rfl) (d_mod (d_idx hr.room (dv 0 (pv 0)) (d_int) (fun _ _ => rfl)) (dv 1 (pv 1)))))
    (ds_cons (ds_sub (d_div (d_idx hr.room (dv 0 (pv 0)) (d_int) (fun _ _ => rfl)) (dv 1 (pv 1))) (dv 0 (pv 0)) (d_int) (ps_asg (d_div (d_idx hr.room (dv 0 (pv 0)) (d_int) (fun _ _ => rfl)) (dv 1 (pv 1))) (pg_sub (dv 0 (pv 0)) (d_int) set_list)))
    (ds_one (ds_ret (dv 3 (pv 3)))))) (ds_nil))
    (ds_cons (ds_sub (d_add false (d_idx hr.room (dv 0 (pv 0)) (d_int) (fun _ _ => rfl)) (d_int)) (dv 0 (pv 0)) (d_int) (ps_asg (d_add false (d_idx hr.room (dv 0 (pv 0)) (d_int) (fun _ _ => rfl)) (d_int)) (pg_sub (dv 0 (pv 0)) (d_int) set_list)))
    (ds_cons (ds_set (ps_set (i := 2) sc__law_take.nd rfl (Or.inl rfl) (d_mod (d_pow (d_add false (d_idx hr.room (dv 0 (pv 0)) (d_int) (fun _ _ => rfl)) (d_mul false (d_int) (d_idx hr.room (dv 0 (pv 0)) (d_int) (fun _ _ => rfl)))) (d_int)) (d_int))))
    (ds_one (ds_ret (d_mod (d_div (d_mod (d_add false (d_mul false (dv 2 (pv 2)) (d_add false (d_mod (dv 2 (pv 2)) (d_int)) (d_int))) (d_mul false (d_idx hr.room (dv 0 (pv 0)) (d_int) (fun _ _ => rfl)) (d_int))) (d_int)) (d_int)) (dv 1 (pv 1)))))))
abbrev s__law_walk : Stmt := topS 28
abbrev N__law_walk : List Str := ["_law_asks_here", "_law_first", "_law_second", "_law_found", "_law_ask_here", "_law_goal", "_law_near", "_law_side"]
theorem sc__law_walk : FnScope N__law_walk ["_law_asks_here", "_law_first", "_law_second"] (defScope s__law_walk) := ⟨rfl, rfl, rfl, by decide +kernel, rfl, by decide +kernel, by decide +kernel⟩
theorem ok__law_walk (f : Addr) (fd : FuncData) (F : Fun K "_law_walk" "_law_walk" s__law_walk f fd) (hm : mg "_law_walk" = some (.ref f)) (B : Bi mg)   : GD P w K mg base 1 "_law_walk" s__law_walk ["_law_asks_here", "_law_first", "_law_second"] m__law_walk := gd_ok false F hm sc__law_walk fun cdv A outer s H E hr =>
    ds_cons (ds_set (ps_set (i := 3) sc__law_walk.nd rfl (Or.inl rfl) (d_lst true (da_cons (d_tup (da_cons (dv 1 (pv 1)) (da_cons (dv 2 (pv 2)) (da_nil)))) (da_nil)))))
    (ds_cons (ds_for rfl PassesOwn.never (di_seq (d_rev false (dv 0 (pv 0)))) (dg_name 4 (pg_name (i := 4) sc__law_walk.nd rfl (Or.inl rfl)))
    (ds_cons (ds_asg (d_tup (da_cons (d_dictA rfl false B.dict (da_cons (dv 4 (pv 4)) (da_nil))) (da_cons (d_idx hr.room (dv 3 (pv 3)) (d_neg (d_int)) (fun _ _ => rfl)) (da_nil)))) (dg_tup rfl (dgs_cons (dg_name 5 (pg_name (i := 5) sc__law_walk.nd rfl (Or.inl rfl))) (dgs_cons (dg_tup rfl (dgs_cons (dg_name 6 (pg_name (i := 6) sc__law_walk.nd rfl (Or.inl rfl))) (dgs_cons (dg_name 7 (pg_name (i := 7) sc__law_walk.nd rfl (Or.inl rfl))) (dgs_nil)))) (dgs_nil)))))
    (ds_one (ds_expr ((pe_bm PySem.F.plainAttrs_list PySem.F.slot_list_append PySem.F.type_list_append mt_append (dv 3 (pv 3)) (da_cons (d_if (t_eq hr.room (d_idx hr.room (dv 5 (pv 5)) (dv 6 (pv 6)) (fun _ _ => rfl)) (d_idx hr.room (dv 5 (pv 5)) (dv 7 (pv 7)) (fun _ _ => rfl))) (d_tup (da_cons (dv 6 (pv 6)) (da_cons (dv 7 (pv 7)) (da_nil)))) (d_tup (da_cons (d_idx hr.room (dv 5 (pv 5)) (dv 6 (pv 6)) (fun _ _ => rfl)) (da_cons (d_idx hr.room (dv 5 (pv 5)) (dv 7 (pv 7)) (fun _ _ => rfl)) (da_nil))))) (da_nil))).weak (meth_imp s_append))))))
    (ds_one (ds_ret (dv 3 (pv 3)))))
abbrev s_ways_back : Stmt := topS 13
abbrev N_ways_back : List Str := ["word", "call"]
theorem sc_ways_back : FnScope N_ways_back ["word"] (defScope s_ways_back) := ⟨rfl, rfl, rfl, by decide +kernel, rfl, by decide +kernel, by decide +kernel⟩
theorem ok_ways_back (f : Addr) (fd : FuncData) (F : Fun K "ways_back" "ways_back" s_ways_back f fd) (hm : mg "ways_back" = some (.ref f)) (B : Bi mg)  (g_by_names : GD P w K mg base 1 "by_names" s_by_names ["call"] m_by_names) : GD P w K mg base 2 "ways_back" s_ways_back ["word"] m_ways_back := gd_ok false F hm sc_ways_back fun cdv A outer s H E hr =>
    ds_one (ds_ret (d_lc false (own := [("call", 1)]) rfl sc_ways_back.nd (di_rev B.reversed (dv 0 (pv 0))) (blkOk_by (N := N_ways_back) (sc := defScope s_ways_back) (by decide +kernel)) (fun _ _ _ _ _ => dg_name 1 (pg_name (i := 1) sc_ways_back.nd rfl (Or.inl rfl))) (fun _ _ _ _ _ => dts_nil) (fun _ _ _ _ _ => d_call' g_by_names (hr.mono (by omega)) (da_cons (dv 1 (pv 1)) (da_nil)) (fun _ _ _ _ _ _ us hl => match us, hl with | [_], _ => rfl)) (by decide)))
abbrev s_walked : Stmt := topS 14
abbrev N_walked : List Str := ["ways", "pair", "found", "told"]
theorem sc_walked : FnScope N_walked ["ways", "pair"] (defScope s_walked) := ⟨rfl, rfl, rfl, by decide +kernel, rfl, by decide +kernel, by decide +kernel⟩
theorem ok_walked (f : Addr) (fd : FuncData) (F : Fun K "walked" "walked" s_walked f fd) (hm : mg "walked" = some (.ref f)) (B : Bi mg)  (g_gone : GD P w K mg base 1 "gone" s_gone ["told", "pair"] m_gone) : GD P w K mg base 2 "walked" s_walked ["ways", "pair"] m_walked := gd_ok false F hm sc_walked fun cdv A outer s H E hr =>
    ds_cons (ds_set (ps_set (i := 2) sc_walked.nd rfl (Or.inl rfl) (d_lst true (da_cons (dv 1 (pv 1)) (da_nil)))))
    (ds_cons (ds_for rfl PassesOwn.never (di_seq (dv 0 (pv 0))) (dg_name 3 (pg_name (i := 3) sc_walked.nd rfl (Or.inl rfl)))
    (ds_one (ds_expr ((pe_bm PySem.F.plainAttrs_list PySem.F.slot_list_append PySem.F.type_list_append mt_append (dv 2 (pv 2)) (da_cons (d_call' g_gone (hr.mono (by omega)) (da_cons (dv 3 (pv 3)) (da_cons (d_idx hr.room (dv 2 (pv 2)) (d_neg (d_int)) (fun _ _ => rfl)) (da_nil))) (fun _ _ _ _ _ _ us hl => match us, hl with | [_, _], _ => rfl)) (da_nil))).weak (meth_imp s_append)))))
    (ds_one (ds_ret (dv 2 (pv 2)))))
abbrev s__law_of : Stmt := topS 23
abbrev N__law_of : List Str := ["_law_box_here", "_law_some"]
theorem sc__law_of : FnScope N__law_of ["_law_box_here", "_law_some"] (defScope s__law_of) := ⟨rfl, rfl, rfl, by decide +kernel, rfl, by decide +kernel, by decide +kernel⟩
theorem ok__law_of (f : Addr) (fd : FuncData) (F : Fun K "_law_of" "_law_of" s__law_of f fd) (hm : mg "_law_of" = some (.ref f)) (B : Bi mg)  (g__law_take : GD P w K mg base 1 "_law_take" s__law_take ["_law_box_here", "_law_bound"] m__law_take) : GD P w K mg base 2 "_law_of" s__law_of ["_law_box_here", "_law_some"] m__law_of := gd_ok false F hm sc__law_of fun cdv A outer s H E hr =>
    ds_one (ds_ret (d_idx hr.room (dv 1 (pv 1)) (d_call' g__law_take (hr.mono (by omega)) (da_cons (dv 0 (pv 0)) (da_cons (d_len B.len (da_cons (dv 1 (pv 1)) (da_nil))) (da_nil))) (fun _ _ _ _ _ _ us hl => match us, hl with | [_, _], _ => rfl)) (fun _ _ => rfl)))
abbrev s__law_strewn : Stmt := topS 24
abbrev N__law_strewn : List Str := ["_law_box_here", "_law_some", "_law_found", "_law_item"]
theorem sc__law_strewn : FnScope N__law_strewn ["_law_box_here", "_law_some"] (defScope s__law_strewn) := ⟨rfl, rfl, rfl, by decide +kernel, rfl, by decide +kernel, by decide +kernel⟩
theorem ok__law_strewn (f : Addr) (fd : FuncData) (F : Fun K "_law_strewn" "_law_strewn" s__law_strewn f fd) (hm : mg "_law_strewn" = some (.ref f)) (B : Bi mg)  (g__law_take : GD P w K mg base 1 "_law_take" s__law_take ["_law_box_here", "_law_bound"] m__law_take) : GD P w K mg base 2 "_law_strewn" s__law_strewn ["_law_box_here", "_law_some"] m__law_strewn := gd_ok false F hm sc__law_strewn fun cdv A outer s H E hr =>
    ds_cons (ds_set (ps_set (i := 2) sc__law_strewn.nd rfl (Or.inl rfl) (d_lst true (da_nil))))
    (ds_cons (ds_for rfl PassesOwn.never (di_seq (dv 1 (pv 1))) (dg_name 3 (pg_name (i := 3) sc__law_strewn.nd rfl (Or.inl rfl)))
    (ds_one (ds_expr ((pe_bm PySem.F.plainAttrs_list PySem.F.slot_list_insert PySem.F.type_list_insert mt_insert (dv 2 (pv 2)) (da_cons (d_call' g__law_take (hr.mono (by omega)) (da_cons (dv 0 (pv 0)) (da_cons (d_add false (d_len B.len (da_cons (dv 2 (pv 2)) (da_nil))) (d_int)) (da_nil))) (fun _ _ _ _ _ _ us hl => match us, hl with | [_, _], _ => rfl)) (da_cons (dv 3 (pv 3)) (da_nil)))).weak (meth_imp s_insert)))))
    (ds_one (ds_ret (dv 2 (pv 2)))))
abbrev s__law_two : Stmt := topS 29
abbrev N__law_two : List Str := ["_law_box_here", "_law_crew_here", "_law_at"]
theorem sc__law_two : FnScope N__law_two ["_law_box_here", "_law_crew_here"] (defScope s__law_two) := ⟨rfl, rfl, rfl, by decide +kernel, rfl, by decide +kernel, by decide +kernel⟩
theorem ok__law_two (f : Addr) (fd : FuncData) (F : Fun K "_law_two" "_law_two" s__law_two f fd) (hm : mg "_law_two" = some (.ref f)) (B : Bi mg)  (g__law_take : GD P w K mg base 1 "_law_take" s__law_take ["_law_box_here", "_law_bound"] m__law_take) : GD P w K mg base 2 "_law_two" s__law_two ["_law_box_here", "_law_crew_here"] m__law_two := gd_ok false F hm sc__law_two fun cdv A outer s H E hr =>
    ds_cons (ds_set (ps_set (i := 2) sc__law_two.nd rfl (Or.inl rfl) (d_call' g__law_take (hr.mono (by omega)) (da_cons (dv 0 (pv 0)) (da_cons (d_len B.len (da_cons (dv 1 (pv 1)) (da_nil))) (da_nil))) (fun _ _ _ _ _ _ us hl => match us, hl with | [_, _], _ => rfl))))
    (ds_one (ds_ret (d_tup (da_cons (d_idx hr.room (dv 1 (pv 1)) (dv 2 (pv 2)) (fun _ _ => rfl)) (da_cons (d_idx hr.room (dv 1 (pv 1)) (d_mod (d_add false (d_add false (dv 2 (pv 2)) (d_int)) (d_call' g__law_take (hr.mono (by omega)) (da_cons (dv 0 (pv 0)) (da_cons (d_sub (d_len B.len (da_cons (dv 1 (pv 1)) (da_nil))) (d_int)) (da_nil))) (fun _ _ _ _ _ _ us hl => match us, hl with | [_, _], _ => rfl))) (d_len B.len (da_cons (dv 1 (pv 1)) (da_nil)))) (fun _ _ => rfl)) (da_nil))))))
abbrev s__law_odd : Stmt := topS 30
abbrev N__law_odd : List Str := ["_law_box_here", "_law_some"]
theorem sc__law_odd : FnScope N__law_odd ["_law_box_here"] (defScope s__law_odd) := ⟨rfl, rfl, rfl, by decide +kernel, rfl, by decide +kernel, by decide +kernel⟩
theorem ok__law_odd (f : Addr) (fd : FuncData) (F : Fun K "_law_odd" "_law_odd" s__law_odd f fd) (hm : mg "_law_odd" = some (.ref f)) (B : Bi mg)  (g__law_take : GD P w K mg base 1 "_law_take" s__law_take ["_law_box_here", "_law_bound"] m__law_take) : GD P w K mg base 2 "_law_odd" s__law_odd ["_law_box_here"] m__law_odd := gd_ok false F hm sc__law_odd fun cdv A outer s H E hr =>
    ds_cons (ds_set (ps_set (i := 1) sc__law_odd.nd rfl (Or.inl rfl) (d_lst false (da_cons (d_non) (da_cons (d_bl) (da_cons (d_int) (da_cons (d_int) (da_cons (d_neg (d_int)) (da_cons (d_str) (da_cons (d_str) (da_cons (d_str) (da_cons (d_str) (da_cons (d_str) (da_cons (d_str) (da_cons (d_tup (da_nil)) (da_cons (d_lst false (da_nil)) (da_cons (d_tup (da_cons (d_str) (da_nil))) (da_cons (d_lst false (da_cons (d_str) (da_nil))) (da_cons (d_tup (da_cons (d_str) (da_cons (d_str) (da_nil)))) (da_cons (d_tup (da_cons (d_str) (da_cons (d_str) (da_nil)))) (da_nil)))))))))))))))))))))
    (ds_one (ds_ret (d_idx hr.room (d_add false (dv 1 (pv 1)) (d_lst false (da_cons (d_tup (da_cons (d_tup (da_cons (d_str) (da_cons (d_str) (da_nil)))) (da_nil))) (da_cons (d_lst false (da_cons (d_tup (da_cons (d_str) (da_cons (d_str) (da_nil)))) (da_nil))) (da_cons (d_tup (da_cons (d_tup (da_cons (d_str) (da_cons (d_str) (da_nil)))) (da_nil))) (da_cons (d_tup (da_cons (d_tup (da_nil)) (da_nil))) (da_nil))))))) (d_call' g__law_take (hr.mono (by omega)) (da_cons (dv 0 (pv 0)) (da_cons (d_int) (da_nil))) (fun _ _ _ _ _ _ us hl => match us, hl with | [_, _], _ => rfl)) (fun _ _ => rfl))))
abbrev s_place_of : Stmt := topS 6
abbrev N_place_of : List Str := ["row", "name", "places"]
theorem sc_place_of : FnScope N_place_of ["row", "name"] (defScope s_place_of) := ⟨rfl, rfl, rfl, by decide +kernel, rfl, by decide +kernel, by decide +kernel⟩
theorem ok_place_of (f : Addr) (fd : FuncData) (F : Fun K "place_of" "place_of" s_place_of f fd) (hm : mg "place_of" = some (.ref f)) (B : Bi mg)  (g_places_of : GD P w K mg base 1 "places_of" s_places_of ["row"] m_places_of) : GD P w K mg base 3 "place_of" s_place_of ["row", "name"] m_place_of := gd_ok false F hm sc_place_of fun cdv A outer s H E hr =>
    ds_cons (ds_set (ps_set (i := 2) sc_place_of.nd rfl (Or.inl rfl) (d_call' g_places_of (hr.mono (by omega)) (da_cons (dv 0 (pv 0)) (da_nil)) (fun _ _ _ _ _ _ us hl => match us, hl with | [_], _ => rfl))))
    (ds_cons (ds_if (t_notin hr.room (dv 1 (pv 1)) (dv 2 (pv 2))) (ds_one (ds_never)) (ds_nil))
    (ds_one (ds_ret (d_idx hr.room (dv 2 (pv 2)) (dv 1 (pv 1)) (fun _ _ => rfl)))))
abbrev s_walks : Stmt := topS 15
abbrev N_walks : List Str := ["word", "one", "other"]
theorem sc_walks : FnScope N_walks ["word", "one", "other"] (defScope s_walks) := ⟨rfl, rfl, rfl, by decide +kernel, rfl, by decide +kernel, by decide +kernel⟩
theorem ok_walks (f : Addr) (fd : FuncData) (F : Fun K "walks" "walks" s_walks f fd) (hm : mg "walks" = some (.ref f)) (B : Bi mg)  (g_walked : GD P w K mg base 2 "walked" s_walked ["ways", "pair"] m_walked) (g_ways_back : GD P w K mg base 2 "ways_back" s_ways_back ["word"] m_ways_back) : GD P w K mg base 3 "walks" s_walks ["word", "one", "other"] m_walks := gd_ok false F hm sc_walks fun cdv A outer s H E hr =>
    ds_one (ds_ret (d_call' g_walked (hr.mono (by omega)) (da_cons (d_call' g_ways_back (hr.mono (by omega)) (da_cons (dv 0 (pv 0)) (da_nil)) (fun _ _ _ _ _ _ us hl => match us, hl with | [_], _ => rfl)) (da_cons (d_tup (da_cons (dv 1 (pv 1)) (da_cons (dv 2 (pv 2)) (da_nil)))) (da_nil))) (fun _ _ _ _ _ _ us hl => match us, hl with | [_, _], _ => rfl)))
abbrev s__law_crew : Stmt := topS 25
abbrev N__law_crew : List Str := ["_law_box_here", "_law_most", "_law_at", "_law_size", "_law_letters", "_law_pool", "_law_start", "_law_step", "_law_sign"]
theorem sc__law_crew : FnScope N__law_crew ["_law_box_here", "_law_most"] (defScope s__law_crew) := ⟨rfl, rfl, rfl, by decide +kernel, rfl, by decide +kernel, by decide +kernel⟩
theorem ok__law_crew (f : Addr) (fd : FuncData) (F : Fun K "_law_crew" "_law_crew" s__law_crew f fd) (hm : mg "_law_crew" = some (.ref f)) (B : Bi mg)  (g__law_strewn : GD P w K mg base 2 "_law_strewn" s__law_strewn ["_law_box_here", "_law_some"] m__law_strewn) (g__law_take : GD P w K mg base 1 "_law_take" s__law_take ["_law_box_here", "_law_bound"] m__law_take) : GD P w K mg base 3 "_law_crew" s__law_crew ["_law_box_here", "_law_most"] m__law_crew := gd_ok false F hm sc__law_crew fun cdv A outer s H E hr =>
    ds_cons (ds_par3 (ps_par3 (i := 3) (j := 4) (l := 5) rfl sc__law_crew.nd rfl rfl rfl (by decide) (by decide) (by decide) rfl rfl rfl (da_cons (d_add false (d_int) (d_call' g__law_take (hr.mono (by omega)) (da_cons (dv 0 (pv 0)) (da_cons (dv 1 (pv 1)) (da_nil))) (fun _ _ _ _ _ _ us hl => match us, hl with | [_, _], _ => rfl))) (da_cons (d_str) (da_cons (d_lst true (da_nil)) (da_nil)))) (by rfl)))
    (ds_cons (ds_par2 (ps_par (i := 6) (j := 7) rfl sc__law_crew.nd rfl rfl (by decide) rfl rfl (da_cons (d_call' g__law_take (hr.mono (by omega)) (da_cons (dv 0 (pv 0)) (da_cons (d_int) (da_nil))) (fun _ _ _ _ _ _ us hl => match us, hl with | [_, _], _ => rfl)) (da_cons (d_idx hr.room (d_lst false (da_cons (d_int) (da_cons (d_int) (da_cons (d_int) (da_nil))))) (d_call' g__law_take (hr.mono (by omega)) (da_cons (dv 0 (pv 0)) (da_cons (d_int) (da_nil))) (fun _ _ _ _ _ _ us hl => match us, hl with | [_, _], _ => rfl)) (fun _ _ => rfl)) (da_nil))) (by rfl)))
    (ds_cons (ds_for rfl PassesOwn.never (di_rng1 B.range (da_cons (dv 3 (pv 3)) (da_nil))) (dg_name 2 (pg_name (i := 2) sc__law_crew.nd rfl (Or.inl rfl)))
    (ds_cons (ds_set (ps_set (i := 8) sc__law_crew.nd rfl (Or.inl rfl) (d_idx hr.room (dv 4 (pv 4)) (d_mod (d_add false (dv 6 (pv 6)) (d_mul false (dv 7 (pv 7)) (d_div (dv 2 (pv 2)) (d_int)))) (d_int)) (fun _ _ => rfl))))
    (ds_one (ds_expr ((pe_bm PySem.F.plainAttrs_list PySem.F.slot_list_append PySem.F.type_list_append mt_append (dv 5 (pv 5)) (da_cons (d_add false (dv 8 (pv 8)) (d_idx hr.room (d_lst false (da_cons (d_str) (da_cons (d_str) (da_cons (d_str) (da_nil))))) (d_mul false (d_mod (dv 2 (pv 2)) (d_int)) (d_add false (d_int) (d_mod (dv 6 (pv 6)) (d_int)))) (fun _ _ => rfl))) (da_nil))).weak (meth_imp s_append))))))
    (ds_frz 5 (ds_one (ds_ret (d_call' g__law_strewn (hr.mono (by omega)) (da_cons (dv 0 (pv 0)) (da_cons (dv 5 (pv 5)) (da_nil))) (fun _ _ _ _ _ _ us hl => match us, hl with | [_, _], _ => rfl)))))))
abbrev s__law_ask : Stmt := topS 26
abbrev N__law_ask : List Str := ["_law_box_here", "_law_crew_here", "_law_found", "_law_folk", "_law_sort", "_law_some", "_law_swap", "_law_at", "_law_mate", "_law_seldom", "_law_any_one", "_law_near"]
theorem sc__law_ask : FnScope N__law_ask ["_law_box_here", "_law_crew_here"] (defScope s__law_ask) := ⟨rfl, rfl, rfl, by decide +kernel, rfl, by decide +kernel, by decide +kernel⟩
theorem ok__law_ask (f : Addr) (fd : FuncData) (F : Fun K "_law_ask" "_law_ask" s__law_ask f fd) (hm : mg "_law_ask" = some (.ref f)) (B : Bi mg)  (g__law_take : GD P w K mg base 1 "_law_take" s__law_take ["_law_box_here", "_law_bound"] m__law_take) (g__law_strewn : GD P w K mg base 2 "_law_strewn" s__law_strewn ["_law_box_here", "_law_some"] m__law_strewn) (g__law_of : GD P w K mg base 2 "_law_of" s__law_of ["_law_box_here", "_law_some"] m__law_of) : GD P w K mg base 3 "_law_ask" s__law_ask ["_law_box_here", "_law_crew_here"] m__law_ask := gd_ok false F hm sc__law_ask fun cdv A outer s H E hr =>
    ds_cons (ds_par2 (ps_par (i := 3) (j := 4) rfl sc__law_ask.nd rfl rfl (by decide) rfl rfl (da_cons (d_sorted hr false B.sorted (da_cons (dv 1 (pv 1)) (da_nil))) (da_cons (d_call' g__law_take (hr.mono (by omega)) (da_cons (dv 0 (pv 0)) (da_cons (d_int) (da_nil))) (fun _ _ _ _ _ _ us hl => match us, hl with | [_, _], _ => rfl)) (da_nil))) (by rfl)))
    (ds_cons (ds_par2 (ps_par (i := 5) (j := 6) rfl sc__law_ask.nd rfl rfl (by decide) rfl rfl (da_cons (d_slice false (d_call' g__law_strewn (hr.mono (by omega)) (da_cons (dv 0 (pv 0)) (da_cons (dv 3 (pv 3)) (da_nil))) (fun _ _ _ _ _ _ us hl => match us, hl with | [_, _], _ => rfl)) (do_none) (do_some (d_add false (d_int) (d_call' g__law_take (hr.mono (by omega)) (da_cons (dv 0 (pv 0)) (da_cons (d_int) (da_nil))) (fun _ _ _ _ _ _ us hl => match us, hl with | [_, _], _ => rfl))))) (da_cons (d_call' g__law_strewn (hr.mono (by omega)) (da_cons (dv 0 (pv 0)) (da_cons (dv 3 (pv 3)) (da_nil))) (fun _ _ _ _ _ _ us hl => match us, hl with | [_, _], _ => rfl)) (da_nil))) (by rfl)))
    (ds_cons (ds_set (ps_set (i := 2) sc__law_ask.nd rfl (Or.inl rfl) (d_lst true (da_nil))))
    (ds_cons (ds_for rfl PassesOwn.never (di_enumA B.enumerate (da_cons (dv 3 (pv 3)) (da_nil))) (dg_tup rfl (dgs_cons (dg_name 7 (pg_name (i := 7) sc__law_ask.nd rfl (Or.inl rfl))) (dgs_cons (dg_name 8 (pg_name (i := 8) sc__law_ask.nd rfl (Or.inl rfl))) (dgs_nil))))
    (ds_cons (ds_par2 (ps_par (i := 10) (j := 11) rfl sc__law_ask.nd rfl rfl (by decide) rfl rfl (da_cons (d_call' g__law_of (hr.mono (by omega)) (da_cons (dv 0 (pv 0)) (da_cons (dv 3 (pv 3)) (da_nil))) (fun _ _ _ _ _ _ us hl => match us, hl with | [_, _], _ => rfl)) (da_cons (d_call' g__law_of (hr.mono (by omega)) (da_cons (dv 0 (pv 0)) (da_cons (dv 5 (pv 5)) (da_nil))) (fun _ _ _ _ _ _ us hl => match us, hl with | [_, _], _ => rfl)) (da_nil))) (by rfl)))
    (ds_cons (ds_set (ps_set (i := 9) sc__law_ask.nd rfl (Or.inl rfl) (d_if (t_eq hr.room (d_call' g__law_take (hr.mono (by omega)) (da_cons (dv 0 (pv 0)) (da_cons (d_int) (da_nil))) (fun _ _ _ _ _ _ us hl => match us, hl with | [_, _], _ => rfl)) (d_int)) (dv 10 (pv 10)) (dv 8 (pv 8)))))
    (ds_one (ds_expr ((pe_bm PySem.F.plainAttrs_list PySem.F.slot_list_append PySem.F.type_list_append mt_append (dv 2 (pv 2)) (da_cons (d_tup (da_cons (dv 8 (pv 8)) (da_cons (d_idx hr.room (d_lst false (da_cons (dv 10 (pv 10)) (da_cons (dv 10 (pv 10)) (da_cons (dv 11 (pv 11)) (da_cons (dv 9 (pv 9)) (da_cons (d_idx hr.room (dv 6 (pv 6)) (dv 7 (pv 7)) (fun _ _ => rfl)) (da_cons (dv 11 (pv 11)) (da_nil)))))))) (dv 4 (pv 4)) (fun _ _ => rfl)) (da_nil)))) (da_nil))).weak (meth_imp s_append)))))))
    (ds_frz 2 (ds_one (ds_ret (d_tuple B.tuple (da_cons (dv 2 (pv 2)) (da_nil)))))))))
abbrev s_is_ahead : Stmt := topS 7
abbrev N_is_ahead : List Str := ["row", "one", "other", "near"]
theorem sc_is_ahead : FnScope N_is_ahead ["row", "one", "other"] (defScope s_is_ahead) := ⟨rfl, rfl, rfl, by decide +kernel, rfl, by decide +kernel, by decide +kernel⟩
theorem ok_is_ahead (f : Addr) (fd : FuncData) (F : Fun K "is_ahead" "is_ahead" s_is_ahead f fd) (hm : mg "is_ahead" = some (.ref f)) (B : Bi mg)  (g_place_of : GD P w K mg base 3 "place_of" s_place_of ["row", "name"] m_place_of) : GD P w K mg base 4 "is_ahead" s_is_ahead ["row", "one", "other"] m_is_ahead := gd_ok false F hm sc_is_ahead fun cdv A outer s H E hr =>
    ds_cons (ds_set (ps_set (i := 3) sc_is_ahead.nd rfl (Or.inl rfl) (d_call' g_place_of (hr.mono (by omega)) (da_cons (dv 0 (pv 0)) (da_cons (dv 1 (pv 1)) (da_nil))) (fun _ _ _ _ _ _ us hl => match us, hl with | [_, _], _ => rfl))))
    (ds_one (ds_ret (d_lt (dv 3 (pv 3)) (d_call' g_place_of (hr.mono (by omega)) (da_cons (dv 0 (pv 0)) (da_cons (dv 2 (pv 2)) (da_nil))) (fun _ _ _ _ _ _ us hl => match us, hl with | [_, _], _ => rfl)))))
abbrev s__law_asks : Stmt := topS 27
abbrev N__law_asks : List Str := ["_law_box_here", "_law_crew_here", "_law_size", "_law_turn"]
theorem sc__law_asks : FnScope N__law_asks ["_law_box_here", "_law_crew_here", "_law_size"] (defScope s__law_asks) := ⟨rfl, rfl, rfl, by decide +kernel, rfl, by decide +kernel, by decide +kernel⟩
theorem ok__law_asks (f : Addr) (fd : FuncData) (F : Fun K "_law_asks" "_law_asks" s__law_asks f fd) (hm : mg "_law_asks" = some (.ref f)) (B : Bi mg)  (g__law_ask : GD P w K mg base 3 "_law_ask" s__law_ask ["_law_box_here", "_law_crew_here"] m__law_ask) (g__law_take : GD P w K mg base 1 "_law_take" s__law_take ["_law_box_here", "_law_bound"] m__law_take) : GD P w K mg base 4 "_law_asks" s__law_asks ["_law_box_here", "_law_crew_here", "_law_size"] m__law_asks := gd_ok false F hm sc__law_asks fun cdv A outer s H E hr =>
    ds_one (ds_ret (d_lc false (own := [("_law_turn", 3)]) rfl sc__law_asks.nd (di_rng1 B.range (da_cons (d_call' g__law_take (hr.mono (by omega)) (da_cons (dv 0 (pv 0)) (da_cons (d_add false (dv 2 (pv 2)) (d_int)) (da_nil))) (fun _ _ _ _ _ _ us hl => match us, hl with | [_, _], _ => rfl)) (da_nil))) (blkOk_by (N := N__law_asks) (sc := defScope s__law_asks) (by decide +kernel)) (fun _ _ _ _ _ => dg_name 3 (pg_name (i := 3) sc__law_asks.nd rfl (Or.inl rfl))) (fun _ _ _ _ _ => dts_nil) (fun _ _ _ _ _ => d_call' g__law_ask (hr.mono (by omega)) (da_cons (dv 0 (pv 0)) (da_cons (dv 1 (pv 1)) (da_nil))) (fun _ _ _ _ _ _ us hl => match us, hl with | [_, _], _ => rfl)) (by decide)))
abbrev s_shows_ahead : Stmt := topS 16
abbrev N_shows_ahead : List Str := ["row", "word", "one", "other", "thing", "call", "found"]
theorem sc_shows_ahead : FnScope N_shows_ahead ["row", "word", "one", "other", "thing"] (defScope s_shows_ahead) := ⟨rfl, rfl, rfl, by decide +kernel, rfl, by decide +kernel, by decide +kernel⟩
theorem ok_shows_ahead (f : Addr) (fd : FuncData) (F : Fun K "shows_ahead" "shows_ahead" s_shows_ahead f fd) (hm : mg "shows_ahead" = some (.ref f)) (B : Bi mg)  (g_walks : GD P w K mg base 3 "walks" s_walks ["word", "one", "other"] m_walks) (g_look_alike : GD P w K mg base 1 "look_alike" s_look_alike ["one", "other"] m_look_alike) (g_same_pairs : GD P w K mg base 1 "same_pairs" s_same_pairs ["thing", "found"] m_same_pairs) (g_is_ahead : GD P w K mg base 4 "is_ahead" s_is_ahead ["row", "one", "other"] m_is_ahead) (g_people : GD P w K mg base 1 "people" s_people ["call"] m_people) : GD P w K mg base 5 "shows_ahead" s_shows_ahead ["row", "word", "one", "other", "thing"] m_shows_ahead := gd_ok false F hm sc_shows_ahead fun cdv A outer s H E hr =>
    ds_cons (ds_for rfl PassesOwn.never (di_seq (dv 1 (pv 1))) (dg_name 5 (pg_name (i := 5) sc_shows_ahead.nd rfl (Or.inl rfl)))
    (ds_one (ds_expr (d_call' g_look_alike (hr.mono (by omega)) (da_cons (dv 0 (pv 0)) (da_cons (d_call' g_people (hr.mono (by omega)) (da_cons (dv 5 (pv 5)) (da_nil)) (fun _ _ _ _ _ _ us hl => match us, hl with | [_], _ => rfl)) (da_nil))) (fun _ _ _ _ _ _ us hl => match us, hl with | [_, _], _ => rfl)))))
    (ds_cons (ds_set (ps_set (i := 6) sc_shows_ahead.nd rfl (Or.inl rfl) (d_call' g_walks (hr.mono (by omega)) (da_cons (dv 1 (pv 1)) (da_cons (dv 2 (pv 2)) (da_cons (dv 3 (pv 3)) (da_nil)))) (fun _ _ _ _ _ _ us hl => match us, hl with | [_, _, _], _ => rfl))))
    (ds_one (ds_ret (d_and (d_isi B.isinstance B.list bt_list (.inr (.inr (.inr (.inl rfl)))) (dv 4 (pv 4))) (d_and (d_call' g_same_pairs (hr.mono (by omega)) (da_cons (dv 4 (pv 4)) (da_cons (dv 6 (pv 6)) (da_nil))) (fun _ _ _ _ _ _ us hl => match us, hl with | [_, _], _ => rfl)) (d_one (d_call' g_is_ahead (hr.mono (by omega)) (da_cons (dv 0 (pv 0)) (da_cons (d_idx hr.room (d_idx hr.room (dv 6 (pv 6)) (d_neg (d_int)) (fun _ _ => rfl)) (d_int) (fun _ _ => rfl)) (da_cons (d_idx hr.room (d_idx hr.room (dv 6 (pv 6)) (d_neg (d_int)) (fun _ _ => rfl)) (d_int) (fun _ _ => rfl)) (da_nil)))) (fun _ _ _ _ _ _ us hl => match us, hl with | [_, _, _], _ => rfl))))))))
abbrev s__law_same : Stmt := topS 21
abbrev N__law_same : List Str := ["_law_found", "_law_due", "_law_mine", "_law_its"]
theorem sc__law_same : FnScope N__law_same ["_law_found", "_law_due"] (defScope s__law_same) := ⟨rfl, rfl, rfl, by decide +kernel, rfl, by decide +kernel, by decide +kernel⟩
theorem ok__law_same (f : Addr) (fd : FuncData) (F : Fun K "_law_same" "_law_same" s__law_same f fd) (hm : mg "_law_same" = some (.ref f)) (B : Bi mg)   : ∀ n : Nat, GD P w K mg base (n) "_law_same" s__law_same ["_law_found", "_law_due"] (m__law_sameB n)
  | 0 => GD.no F hm
  | n + 1 => have ih := ok__law_same f fd F hm B  n
    gd_ok false F hm sc__law_same fun cdv A outer s H E hr =>
    ds_cons (ds_if (dt_val (d_isi2 B.isinstance B.list bt_list (.inr (.inr (.inr (.inl rfl)))) B.tuple bt_tuple (.inr (.inr (.inr (.inr (.inl rfl))))) (dv 1 (pv 1)))) (ds_cons (ds_if (PW.pt (dw_or (t_ne hr.room (d_isi B.isinstance B.list bt_list (.inr (.inr (.inr (.inl rfl)))) (dv 0 (pv 0))) (d_isi B.isinstance B.list bt_list (.inr (.inr (.inr (.inl rfl)))) (dv 1 (pv 1)))) (dw_or1 (t_ne hr.room (d_isi B.isinstance B.tuple bt_tuple (.inr (.inr (.inr (.inr (.inl rfl))))) (dv 0 (pv 0))) (d_isi B.isinstance B.tuple bt_tuple (.inr (.inr (.inr (.inr (.inl rfl))))) (dv 1 (pv 1))))))) (ds_one (ds_ret (d_bl))) (ds_nil))
    (ds_cons (ds_if (t_ne hr.room (d_len B.len (da_cons (dv 0 (pv 0)) (da_nil))) (d_len B.len (da_cons (dv 1 (pv 1)) (da_nil)))) (ds_one (ds_ret (d_bl))) (ds_nil))
    (ds_one (ds_ret (d_all rfl B.all (da_cons (d_lcB false (own := [("_law_mine", 2), ("_law_its", 3)]) rfl sc__law_same.nd (di_zipB B.zip (da_cons (dv 0 (pv 0)) (da_cons (dv 1 (pv 1)) (da_nil)))) (blkOk_by (N := N__law_same) (sc := defScope s__law_same) (by decide +kernel)) (fun _ _ _ _ _ => dg_tupB rfl (dgs_cons (dg_name 2 (pg_name (i := 2) sc__law_same.nd rfl (Or.inl rfl))) (dgs_cons (dg_name 3 (pg_name (i := 3) sc__law_same.nd rfl (Or.inl rfl))) (dgs_nil)))) (fun _ _ _ _ _ => dts_nil) (fun _ _ _ _ _ => d_call' ih hr (da_cons (dv 2 (pv 2)) (da_cons (dv 3 (pv 3)) (da_nil))) (fun _ _ _ _ _ _ us hl => match us, hl with | [_, _], _ => rfl)) (by decide)) (da_nil))))))) (ds_nil))
    (ds_cons (ds_if (PW.pt (dw_or (t_is (dv 1 (pv 1)) (d_non)) (dw_or1 (dt_val (d_isi B.isinstance B.str bt_str (.inr (.inr (.inl rfl))) (dv 1 (pv 1))))))) (ds_one (ds_ret (d_and (d_eq hr.room (dv 0 (pv 0)) (dv 1 (pv 1))) (d_one (d_eq hr.room (d_isi B.isinstance B.str bt_str (.inr (.inr (.inl rfl))) (dv 0 (pv 0))) (d_isi B.isinstance B.str bt_str (.inr (.inr (.inl rfl))) (dv 1 (pv 1)))))))) (ds_nil))
    (ds_one (ds_ret (d_and (d_isi B.isinstance B.int bt_int (.inl rfl) (dv 0 (pv 0))) (d_and (d_eq hr.room (d_isi B.isinstance B.bool bt_bool (.inr (.inl rfl)) (dv 0 (pv 0))) (d_isi B.isinstance B.bool bt_bool (.inr (.inl rfl)) (dv 1 (pv 1)))) (d_one (d_eq hr.room (dv 0 (pv 0)) (dv 1 (pv 1)))))))))
abbrev s__law_lists : Stmt := topS 22
abbrev N__law_lists : List Str := ["_law_matter", "_law_part"]
theorem sc__law_lists : FnScope N__law_lists ["_law_matter"] (defScope s__law_lists) := ⟨rfl, rfl, rfl, by decide +kernel, rfl, by decide +kernel, by decide +kernel⟩
theorem ok__law_lists (f : Addr) (fd : FuncData) (F : Fun K "_law_lists" "_law_lists" s__law_lists f fd) (hm : mg "_law_lists" = some (.ref f)) (B : Bi mg)   : ∀ n : Nat, GD P w K mg base (n) "_law_lists" s__law_lists ["_law_matter"] (m__law_lists n)
  | 0 => GD.no F hm
  | n + 1 => have ih := ok__law_lists f fd F hm B  n
    gd_ok false F hm sc__law_lists fun cdv A outer s H E hr =>
    ds_one (ds_ret (d_if (dt_val (d_isi2 B.isinstance B.list bt_list (.inr (.inr (.inr (.inl rfl)))) B.tuple bt_tuple (.inr (.inr (.inr (.inr (.inl rfl))))) (dv 0 (pv 0)))) (d_lc false (own := [("_law_part", 1)]) rfl sc__law_lists.nd (di_seq (dv 0 (pv 0))) (blkOk_by (N := N__law_lists) (sc := defScope s__law_lists) (by decide +kernel)) (fun _ _ _ _ _ => dg_name 1 (pg_name (i := 1) sc__law_lists.nd rfl (Or.inl rfl))) (fun _ _ _ _ _ => dts_nil) (fun _ _ _ _ _ => d_call' ih hr (da_cons (dv 1 (pv 1)) (da_nil)) (fun _ _ _ _ _ _ us hl => match us, hl with | [_], _ => rfl)) (by decide)) (dv 0 (pv 0))))
abbrev s__law_otherwise : Stmt := topS 31
abbrev N__law_otherwise : List Str := ["_law_box_here", "_law_matter", "_law_at", "_law_turn", "_law_some"]
theorem sc__law_otherwise : FnScope N__law_otherwise ["_law_box_here", "_law_matter"] (defScope s__law_otherwise) := ⟨rfl, rfl, rfl, by decide +kernel, rfl, by decide +kernel, by decide +kernel⟩
theorem ok__law_otherwise (f : Addr) (fd : FuncData) (F : Fun K "_law_otherwise" "_law_otherwise" s__law_otherwise f fd) (hm : mg "_law_otherwise" = some (.ref f)) (B : Bi mg)  (g__law_odd : GD P w K mg base 2 "_law_odd" s__law_odd ["_law_box_here"] m__law_odd) (g__law_take : GD P w K mg base 1 "_law_take" s__law_take ["_law_box_here", "_law_bound"] m__law_take) : ∀ n : Nat, GD P w K mg base (n + 2) "_law_otherwise" s__law_otherwise ["_law_box_here", "_law_matter"] (m__law_otherwise n)
  | 0 => GD.no F hm
  | n + 1 => have ih := ok__law_otherwise f fd F hm B g__law_odd g__law_take n
    gd_ok false F hm sc__law_otherwise fun cdv A outer s H E hr =>
    ds_cons (ds_if (PW.pt (dw_and (dt_val (d_isi2 B.isinstance B.list bt_list (.inr (.inr (.inr (.inl rfl)))) B.tuple bt_tuple (.inr (.inr (.inr (.inr (.inl rfl))))) (dv 1 (pv 1)))) (dw_and (t_gt (d_len B.len (da_cons (dv 1 (pv 1)) (da_nil))) (d_int)) (dw_and1 (t_gt (d_call' g__law_take (hr.mono (by omega)) (da_cons (dv 0 (pv 0)) (da_cons (d_int) (da_nil))) (fun _ _ _ _ _ _ us hl => match us, hl with | [_, _], _ => rfl)) (d_int)))))) (ds_cons (ds_par3 (ps_par3 (i := 2) (j := 3) (l := 4) rfl sc__law_otherwise.nd rfl rfl rfl (by decide) (by decide) (by decide) rfl rfl rfl (da_cons (d_call' g__law_take (hr.mono (by omega)) (da_cons (dv 0 (pv 0)) (da_cons (d_len B.len (da_cons (dv 1 (pv 1)) (da_nil))) (da_nil))) (fun _ _ _ _ _ _ us hl => match us, hl with | [_, _], _ => rfl)) (da_cons (d_call' g__law_take (hr.mono (by omega)) (da_cons (dv 0 (pv 0)) (da_cons (d_int) (da_nil))) (fun _ _ _ _ _ _ us hl => match us, hl with | [_, _], _ => rfl)) (da_cons (d_list true B.list (da_cons (dv 1 (pv 1)) (da_nil))) (da_nil)))) (by rfl)))
    (ds_cons (ds_if (t_lt (dv 3 (pv 3)) (d_int)) (ds_one (ds_sub (d_call' ih hr (da_cons (dv 0 (pv 0)) (da_cons (d_idx hr.room (dv 1 (pv 1)) (dv 2 (pv 2)) (fun _ _ => rfl)) (da_nil))) (fun _ _ _ _ _ _ us hl => match us, hl with | [_, _], _ => rfl)) (dv 4 (pv 4)) (dv 2 (pv 2)) (ps_asg (d_call' ih hr (da_cons (dv 0 (pv 0)) (da_cons (d_idx hr.room (dv 1 (pv 1)) (dv 2 (pv 2)) (fun _ _ => rfl)) (da_nil))) (fun _ _ _ _ _ _ us hl => match us, hl with | [_, _], _ => rfl)) (pg_sub (dv 4 (pv 4)) (dv 2 (pv 2)) set_list)))) (ds_one (ds_if (t_eq hr.room (dv 3 (pv 3)) (d_int)) (ds_one (ds_expr ((pe_bm PySem.F.plainAttrs_list PySem.F.slot_list_pop PySem.F.type_list_pop mt_popAt (dv 4 (pv 4)) (da_cons (dv 2 (pv 2)) (da_nil))).weak (meth_imp s_popAt)))) (ds_one (ds_if (t_eq hr.room (dv 3 (pv 3)) (d_int)) (ds_one (ds_expr ((pe_bm PySem.F.plainAttrs_list PySem.F.slot_list_insert PySem.F.type_list_insert mt_insert (dv 4 (pv 4)) (da_cons (dv 2 (pv 2)) (da_cons (d_idx hr.room (dv 1 (pv 1)) (dv 2 (pv 2)) (fun _ _ => rfl)) (da_nil)))).weak (meth_imp s_insert)))) (ds_one (ds_if (t_eq hr.room (dv 3 (pv 3)) (d_int)) (ds_one (ds_expr ((pe_bm0 PySem.F.plainAttrs_list PySem.F.slot_list_reverse PySem.F.type_list_reverse mt_reverse (dv 4 (pv 4))).weak (meth0_imp s_reverse)))) (ds_one (ds_ret (d_if (dt_val (d_isi B.isinstance B.tuple bt_tuple (.inr (.inr (.inr (.inr (.inl rfl))))) (dv 1 (pv 1)))) (dv 4 (pv 4)) (d_tuple B.tuple (da_cons (dv 4 (pv 4)) (da_nil)))))))))))))
    (ds_frz 4 (ds_one (ds_ret (d_if (dt_val (d_isi B.isinstance B.list bt_list (.inr (.inr (.inr (.inl rfl)))) (dv 1 (pv 1)))) (dv 4 (pv 4)) (d_tuple B.tuple (da_cons (dv 4 (pv 4)) (da_nil))))))))) (ds_nil))
    (ds_cons (ds_if (PW.pt (dw_and (dt_val (d_isi B.isinstance B.int bt_int (.inl rfl) (dv 1 (pv 1)))) (dw_and (dt_not (dt_val (d_isi B.isinstance B.bool bt_bool (.inr (.inl rfl)) (dv 1 (pv 1))))) (dw_and1 (t_gt (d_call' g__law_take (hr.mono (by omega)) (da_cons (dv 0 (pv 0)) (da_cons (d_int) (da_nil))) (fun _ _ _ _ _ _ us hl => match us, hl with | [_, _], _ => rfl)) (d_int)))))) (ds_one (ds_ret (d_idx hr.room (d_lst false (da_cons (d_add false (dv 1 (pv 1)) (d_int)) (da_cons (d_sub (dv 1 (pv 1)) (d_int)) (da_cons (d_int) (da_cons (d_neg (dv 1 (pv 1))) (da_cons (d_eq hr.room (dv 1 (pv 1)) (d_int)) (da_cons (d_strI B.str (da_cons (dv 1 (pv 1)) (da_nil))) (da_cons (d_non) (da_nil))))))))) (d_call' g__law_take (hr.mono (by omega)) (da_cons (dv 0 (pv 0)) (da_cons (d_int) (da_nil))) (fun _ _ _ _ _ _ us hl => match us, hl with | [_, _], _ => rfl)) (fun _ _ => rfl)))) (ds_nil))
    (ds_cons (ds_if (PW.pt (dw_and (dt_val (d_isi B.isinstance B.str bt_str (.inr (.inr (.inl rfl))) (dv 1 (pv 1)))) (dw_and1 (t_gt (d_call' g__law_take (hr.mono (by omega)) (da_cons (dv 0 (pv 0)) (da_cons (d_int) (da_nil))) (fun _ _ _ _ _ _ us hl => match us, hl with | [_, _], _ => rfl)) (d_int))))) (ds_one (ds_ret (d_idx hr.room (d_lst false (da_cons (d_add false (dv 1 (pv 1)) (d_str)) (da_cons (d_slice false (dv 1 (pv 1)) (do_some (d_int)) (do_none)) (da_cons (d_upper (dv 1 (pv 1))) (da_cons (d_add false (dv 1 (pv 1)) (d_str)) (da_cons (d_tup (da_cons (dv 1 (pv 1)) (da_nil))) (da_cons (d_rev false (dv 1 (pv 1))) (da_nil)))))))) (d_call' g__law_take (hr.mono (by omega)) (da_cons (dv 0 (pv 0)) (da_cons (d_int) (da_nil))) (fun _ _ _ _ _ _ us hl => match us, hl with | [_, _], _ => rfl)) (fun _ _ => rfl)))) (ds_nil))
    (ds_one (ds_ret (d_call' g__law_odd (hr.mono (by omega)) (da_cons (dv 0 (pv 0)) (da_nil)) (fun _ _ _ _ _ _ us hl => match us, hl with | [_], _ => rfl))))))
abbrev s__law_right : Stmt := topS 32
abbrev N__law_right : List Str := ["_law_box_here", "_law_crew_here", "_law_is_first", "_law_things", "_law_again", "_law_item", "_law_told", "_law_folk", "_law_asks_here", "_law_first", "_law_second", "_law_mine", "_law_its", "_law_kept", "_law_is_same", "_law_pair"]
theorem sc__law_right : FnScope N__law_right ["_law_box_here"] (defScope s__law_right) := ⟨rfl, rfl, rfl, by decide +kernel, rfl, by decide +kernel, by decide +kernel⟩
theorem ok__law_right (f : Addr) (fd : FuncData) (F : Fun K "_law_right" "_law_right" s__law_right f fd) (hm : mg "_law_right" = some (.ref f)) (B : Bi mg)  (g__law_two : GD P w K mg base 2 "_law_two" s__law_two ["_law_box_here", "_law_crew_here"] m__law_two) (g__law_same : GD P w K mg base 12 "_law_same" s__law_same ["_law_found", "_law_due"] (m__law_sameB 12)) (g__law_crew : GD P w K mg base 3 "_law_crew" s__law_crew ["_law_box_here", "_law_most"] m__law_crew) (g__law_asks : GD P w K mg base 4 "_law_asks" s__law_asks ["_law_box_here", "_law_crew_here", "_law_size"] m__law_asks) (g__law_walk : GD P w K mg base 1 "_law_walk" s__law_walk ["_law_asks_here", "_law_first", "_law_second"] m__law_walk) (g__law_otherwise : GD P w K mg base 14 "_law_otherwise" s__law_otherwise ["_law_box_here", "_law_matter"] (m__law_otherwise 12)) (g_shows_ahead : GD P w K mg base 5 "shows_ahead" s_shows_ahead ["row", "word", "one", "other", "thing"] m_shows_ahead) (g__law_strewn : GD P w K mg base 2 "_law_strewn" s__law_strewn ["_law_box_here", "_law_some"] m__law_strewn) (g__law_lists : GD P w K mg base 12 "_law_lists" s__law_lists ["_law_matter"] (m__law_lists 12)) (g__law_take : GD P w K mg base 1 "_law_take" s__law_take ["_law_box_here", "_law_bound"] m__law_take) : GD P w K mg base 15 "_law_right" s__law_right ["_law_box_here"] m__law_right := gd_ok false F hm sc__law_right fun cdv A outer s H E hr =>
    ds_cons (ds_set (ps_set (i := 1) sc__law_right.nd rfl (Or.inl rfl) (d_add false (d_call' g__law_crew (hr.mono (by omega)) (da_cons (dv 0 (pv 0)) (da_cons (d_int) (da_nil))) (fun _ _ _ _ _ _ us hl => match us, hl with | [_, _], _ => rfl)) (d_lst false (da_cons (d_str) (da_nil))))))
    (ds_cons (ds_par2 (ps_par (i := 7) (j := 8) rfl sc__law_right.nd rfl rfl (by decide) rfl rfl (da_cons (d_tupR B.tuple (da_cons (d_call' g__law_strewn (hr.mono (by omega)) (da_cons (dv 0 (pv 0)) (da_cons (dv 1 (pv 1)) (da_nil))) (fun _ _ _ _ _ _ us hl => match us, hl with | [_, _], _ => rfl)) (da_nil))) (da_cons (d_call' g__law_asks (hr.mono (by omega)) (da_cons (dv 0 (pv 0)) (da_cons (dv 1 (pv 1)) (da_cons (d_int) (da_nil)))) (fun _ _ _ _ _ _ us hl => match us, hl with | [_, _, _], _ => rfl)) (da_nil))) (by rfl)))
    (ds_cons (ds_asg (d_call' g__law_two (hr.mono (by omega)) (da_cons (dv 0 (pv 0)) (da_cons (dv 1 (pv 1)) (da_nil))) (fun _ _ _ _ _ _ us hl => match us, hl with | [_, _], _ => rfl)) (dg_tup rfl (dgs_cons (dg_name 9 (pg_name (i := 9) sc__law_right.nd rfl (Or.inl rfl))) (dgs_cons (dg_name 10 (pg_name (i := 10) sc__law_right.nd rfl (Or.inl rfl))) (dgs_nil)))))
    (ds_cons (ds_par2 (ps_par (i := 11) (j := 12) rfl sc__law_right.nd rfl rfl (by decide) rfl rfl (da_cons (d_call' g__law_walk (hr.mono (by omega)) (da_cons (dv 8 (pv 8)) (da_cons (dv 9 (pv 9)) (da_cons (dv 10 (pv 10)) (da_nil)))) (fun _ _ _ _ _ _ us hl => match us, hl with | [_, _, _], _ => rfl)) (da_cons (d_call' g__law_walk (hr.mono (by omega)) (da_cons (dv 8 (pv 8)) (da_cons (dv 10 (pv 10)) (da_cons (dv 9 (pv 9)) (da_nil)))) (fun _ _ _ _ _ _ us hl => match us, hl with | [_, _, _], _ => rfl)) (da_nil))) (by rfl)))
    (ds_cons (ds_set (ps_set (i := 2) sc__law_right.nd rfl (Or.inl rfl) (d_lt (d_indexR (dv 7 (pv 7)) (da_cons (d_idx hr.room (d_idx hr.room (dv 11 (pv 11)) (d_neg (d_int)) (fun _ _ => rfl)) (d_int) (fun _ _ => rfl)) (da_nil))) (d_indexR (dv 7 (pv 7)) (da_cons (d_idx hr.room (d_idx hr.room (dv 11 (pv 11)) (d_neg (d_int)) (fun _ _ => rfl)) (d_int) (fun _ _ => rfl)) (da_nil))))))
    (ds_cons (ds_set (ps_set (i := 3) sc__law_right.nd rfl (Or.inl rfl) (d_lst false (da_cons (dv 11 (pv 11)) (da_cons (dv 12 (pv 12)) (da_cons (d_tuple B.tuple (da_cons (dv 11 (pv 11)) (da_nil))) (da_cons (d_lc false (own := [("_law_pair", 15)]) rfl sc__law_right.nd (di_seq (dv 11 (pv 11))) (blkOk_by (N := N__law_right) (sc := defScope s__law_right) (by decide +kernel)) (fun _ _ _ _ _ => dg_name 15 (pg_name (i := 15) sc__law_right.nd rfl (Or.inl rfl))) (fun _ _ _ _ _ => dts_nil) (fun _ _ _ _ _ => d_list false B.list (da_cons (dv 15 (pv 15)) (da_nil))) (by decide)) (da_cons (d_slice false (dv 11 (pv 11)) (do_some (d_int)) (do_none)) (da_cons (d_rev false (dv 11 (pv 11))) (da_nil))))))))))
    (ds_cons (ds_set (ps_set (i := 3) sc__law_right.nd rfl (Or.inl rfl) (d_add true (dv 3 (pv 3)) (d_lst false (da_cons (d_lst false (da_nil)) (da_cons (d_non) (da_cons (d_tup (da_nil)) (da_cons (d_add false (dv 11 (pv 11)) (d_slice false (dv 11 (pv 11)) (do_some (d_neg (d_int))) (do_none))) (da_nil)))))))))
    (ds_cons (ds_for rfl PassesOwn.never (di_rng1 B.range (da_cons (d_int) (da_nil))) (dg_name 4 (pg_name (i := 4) sc__law_right.nd rfl (Or.inl rfl)))
    (ds_cons (ds_set (ps_set (i := 5) sc__law_right.nd rfl (Or.inl rfl) (d_call' g__law_otherwise (hr.mono (by omega)) (da_cons (dv 0 (pv 0)) (da_cons (dv 11 (pv 11)) (da_nil))) (fun _ _ _ _ _ _ us hl => match us, hl with | [_, _], _ => rfl))))
    (ds_one (ds_expr ((pe_bm PySem.F.plainAttrs_list PySem.F.slot_list_append PySem.F.type_list_append mt_append (dv 3 (pv 3)) (da_cons (d_if (t_eq hr.room (d_call' g__law_take (hr.mono (by omega)) (da_cons (dv 0 (pv 0)) (da_cons (d_int) (da_nil))) (fun _ _ _ _ _ _ us hl => match us, hl with | [_, _], _ => rfl)) (d_int)) (d_call' g__law_otherwise (hr.mono (by omega)) (da_cons (dv 0 (pv 0)) (da_cons (dv 5 (pv 5)) (da_nil))) (fun _ _ _ _ _ _ us hl => match us, hl with | [_, _], _ => rfl)) (dv 5 (pv 5))) (da_nil))).weak (meth_imp s_append))))))
    (ds_frz 3 (ds_cons (ds_for rfl PassesOwn.never (di_seq (dv 3 (pv 3))) (dg_name 5 (pg_name (i := 5) sc__law_right.nd rfl (Or.inl rfl)))
    (ds_cons (ds_par2 (ps_par (i := 13) (j := 14) rfl sc__law_right.nd rfl rfl (by decide) rfl rfl (da_cons (d_reprA hr B.repr (da_cons (dv 5 (pv 5)) (da_nil))) (da_cons (d_call' g__law_same (hr.mono (by omega)) (da_cons (dv 5 (pv 5)) (da_cons (dv 11 (pv 11)) (da_nil))) (fun _ _ _ _ _ _ us hl => match us, hl with | [_, _], _ => rfl)) (da_nil))) (by rfl)))
    (ds_cons (ds_if (dt_not (dt_val (d_call' g__law_same (hr.mono (by omega)) (da_cons (d_call' g_shows_ahead (hr.mono (by omega)) (da_cons (d_asT (dv 7 (pv 7))) (da_cons (dv 8 (pv 8)) (da_cons (dv 9 (pv 9)) (da_cons (dv 10 (pv 10)) (da_cons (dv 5 (pv 5)) (da_nil)))))) (fun _ _ _ _ _ _ us hl => match us, hl with | [_, _, _, _, _], _ => rfl)) (da_cons (d_and (dv 14 (pv 14)) (d_one (dv 2 (pv 2)))) (da_nil))) (fun _ _ _ _ _ _ us hl => match us, hl with | [_, _], _ => rfl)))) (ds_one (ds_ret (d_bl))) (ds_nil))
    (ds_one (ds_if (t_ne hr.room (d_reprA hr B.repr (da_cons (dv 5 (pv 5)) (da_nil))) (dv 13 (pv 13))) (ds_one (ds_ret (d_bl))) (ds_nil))))))
    (ds_cons (ds_set (ps_set (i := 6) sc__law_right.nd rfl (Or.inl rfl) (d_lst true (da_cons (d_call' g_shows_ahead (hr.mono (by omega)) (da_cons (d_list false B.list (da_cons (d_asT (dv 7 (pv 7))) (da_nil))) (da_cons (d_tuple B.tuple (da_cons (d_call' g__law_lists (hr.mono (by omega)) (da_cons (dv 8 (pv 8)) (da_nil)) (fun _ _ _ _ _ _ us hl => match us, hl with | [_], _ => rfl)) (da_nil))) (da_cons (dv 9 (pv 9)) (da_cons (dv 10 (pv 10)) (da_cons (dv 11 (pv 11)) (da_nil)))))) (fun _ _ _ _ _ _ us hl => match us, hl with | [_, _, _, _, _], _ => rfl)) (da_nil)))))
    (ds_cons (ds_expr ((pe_bm PySem.F.plainAttrs_list PySem.F.slot_list_append PySem.F.type_list_append mt_append (dv 6 (pv 6)) (da_cons (d_callK (ks := ["thing", "other", "one", "word", "row"]) g_shows_ahead (hr.mono (by omega)) (dk_cons (dv 12 (pv 12)) (dk_cons (dv 9 (pv 9)) (dk_cons (dv 10 (pv 10)) (dk_cons (dv 8 (pv 8)) (dk_cons (d_asT (dv 7 (pv 7))) (dk_nil)))))) (fun _ _ _ _ _ _ us l hl hp => match us, hl with | [_, _, _, _, _], _ => by cases hp; rfl) rfl) (da_nil))).weak (meth_imp s_append)))
    (ds_frz 6 (ds_one (ds_ret (d_call' g__law_same (hr.mono (by omega)) (da_cons (dv 6 (pv 6)) (da_cons (d_lst false (da_cons (dv 2 (pv 2)) (da_cons (d_not (dv 2 (pv 2))) (da_nil)))) (da_nil))) (fun _ _ _ _ _ _ us hl => match us, hl with | [_, _], _ => rfl))))))))))))))))
abbrev s_law : Stmt := topS 33
abbrev N_law : List Str := ["_law_script", "_law_k", "_law_box_here", "_law_turn"]
theorem sc_law : FnScope N_law ["_law_script"] (defScope s_law) := ⟨rfl, rfl, rfl, by decide +kernel, rfl, by decide +kernel, by decide +kernel⟩
theorem ok_law (f : Addr) (fd : FuncData) (F : Fun K "law" "law" s_law f fd) (hm : mg "law" = some (.ref f)) (B : Bi mg)  (g__law_box : GD P w K mg base 1 "_law_box" s__law_box ["_law_script", "_law_k"] m__law_box) (g__law_right : GD P w K mg base 15 "_law_right" s__law_right ["_law_box_here"] m__law_right) : FnG P w K mg base CX0 16 f fd ["_law_script"] (spD m_law) := fng_ok false F sc_law fun cdv A outer s H E hr =>
    ds_cons (ds_for rfl PassesOwn.never (di_rng1 B.range (da_cons (d_max rfl B.max (da_cons (d_int) (da_cons (d_min rfl B.min (da_cons (d_int) (da_cons (d_len B.len (da_cons (dv 0 (pv 0)) (da_nil))) (da_nil)))) (da_nil)))) (da_nil))) (dg_name 1 (pg_name (i := 1) sc_law.nd rfl (Or.inl rfl)))
    (ds_cons (ds_set (ps_set (i := 2) sc_law.nd rfl (Or.inr rfl) (d_call' g__law_box (hr.mono (by omega)) (da_cons (dv 0 (pv 0)) (da_cons (dv 1 (pv 1)) (da_nil))) (fun _ _ _ _ _ _ us hl => match us, hl with | [_, _], _ => rfl))))
    (ds_one (ds_if (dt_not (dt_val (d_all rfl B.all (da_cons (d_lc false (own := [("_law_turn", 3)]) rfl sc_law.nd (di_rng1 B.range (da_cons (d_int) (da_nil))) (blkOk_by (N := N_law) (sc := defScope s_law) (by decide +kernel)) (fun _ _ _ _ _ => dg_name 3 (pg_name (i := 3) sc_law.nd rfl (Or.inl rfl))) (fun _ _ _ _ _ => dts_nil) (fun _ _ _ _ _ => d_call' g__law_right (hr.mono (by omega)) (da_cons (dv 2 (pv 2)) (da_nil)) (fun _ _ _ _ _ _ us hl => match us, hl with | [_], _ => rfl)) (by decide)) (da_nil))))) (ds_one (ds_ret (d_bl))) (ds_nil)))))
    (ds_one (ds_ret (d_bl)))
end
theorem all_mk {l : PySem.W.OpenLaw} {w : World} {K : PySem.W.Frag} {h : Heap} {mg : Str → Option Value} {fa f0 f1 f2 f3 f4 f5 f6 f7 f8 f9 f10 f11 f12 f13 f14 f15 f16 f17 f18 f19 f20 f21 f22 f23 f24 f25 f26 : Addr} (X : K.In h) (G : h.Ns mainGlobals mg) (hfa : mg "law" = some (.ref fa))
    {od0 od1 od2 od3 od4 od5 od6 od7 od8 od9 od10 od11 od12 od13 od14 od15 od16 od17 od18 od19 od20 od21 od22 od23 od24 od25 od26 an0 an1 an2 an3 an4 an5 an6 an7 an8 an9 an10 an11 an12 an13 an14 an15 an16 an17 an18 an19 an20 an21 an22 an23 an24 an25 an26 : Option Addr} {sl0 sl1 sl2 sl3 sl4 sl5 sl6 sl7 sl8 sl9 sl10 sl11 sl12 sl13 sl14 sl15 sl16 sl17 sl18 sl19 sl20 sl21 sl22 sl23 sl24 sl25 sl26 : Array (Option Value)} {oc0 oc1 oc2 oc3 oc4 oc5 oc6 oc7 oc8 oc9 oc10 oc11 oc12 oc13 oc14 oc15 oc16 oc17 oc18 oc19 oc20 oc21 oc22 oc23 oc24 oc25 oc26 kV0 kV1 kV2 kV3 kV4 kV5 kV6 kV7 kV8 kV9 kV10 kV11 kV12 kV13 kV14 kV15 kV16 kV17 kV18 kV19 kV20 kV21 kV22 kV23 kV24 kV25 kV26 dc0 dc1 dc2 dc3 dc4 dc5 dc6 dc7 dc8 dc9 dc10 dc11 dc12 dc13 dc14 dc15 dc16 dc17 dc18 dc19 dc20 dc21 dc22 dc23 dc24 dc25 dc26 pm0 pm1 pm2 pm3 pm4 pm5 pm6 pm7 pm8 pm9 pm10 pm11 pm12 pm13 pm14 pm15 pm16 pm17 pm18 pm19 pm20 pm21 pm22 pm23 pm24 pm25 pm26 cd0 cd1 cd2 cd3 cd4 cd5 cd6 cd7 cd8 cd9 cd10 cd11 cd12 cd13 cd14 cd15 cd16 cd17 cd18 cd19 cd20 cd21 cd22 cd23 cd24 cd25 cd26 ct0 ct1 ct2 ct3 ct4 ct5 ct6 ct7 ct8 ct9 ct10 ct11 ct12 ct13 ct14 ct15 ct16 ct17 ct18 ct19 ct20 ct21 ct22 ct23 ct24 ct25 ct26 : Value}
    (a0 : PySem.W.nsIn K mainGlobals "places_of" = some (some (.ref f0))) (l0 : K.lookup f0 = some ⟨oc0, od0, .func (PySem.W.fnOf "places_of" "places_of" (defArgs s_places_of) (defBody s_places_of) (defScope s_places_of) .none kV0 dc0 pm0 an0 cd0 ct0), sl0⟩) (c0 : PySem.W.codeIn K cd0 "places_of" = true) (k0 : PySem.W.keepIn K (.ref f0) = true)
    (a1 : PySem.W.nsIn K mainGlobals "look_alike" = some (some (.ref f1))) (l1 : K.lookup f1 = some ⟨oc1, od1, .func (PySem.W.fnOf "look_alike" "look_alike" (defArgs s_look_alike) (defBody s_look_alike) (defScope s_look_alike) .none kV1 dc1 pm1 an1 cd1 ct1), sl1⟩) (c1 : PySem.W.codeIn K cd1 "look_alike" = true) (k1 : PySem.W.keepIn K (.ref f1) = true)
    (a2 : PySem.W.nsIn K mainGlobals "place_of" = some (some (.ref f2))) (l2 : K.lookup f2 = some ⟨oc2, od2, .func (PySem.W.fnOf "place_of" "place_of" (defArgs s_place_of) (defBody s_place_of) (defScope s_place_of) .none kV2 dc2 pm2 an2 cd2 ct2), sl2⟩) (c2 : PySem.W.codeIn K cd2 "place_of" = true) (k2 : PySem.W.keepIn K (.ref f2) = true)
    (a3 : PySem.W.nsIn K mainGlobals "is_ahead" = some (some (.ref f3))) (l3 : K.lookup f3 = some ⟨oc3, od3, .func (PySem.W.fnOf "is_ahead" "is_ahead" (defArgs s_is_ahead) (defBody s_is_ahead) (defScope s_is_ahead) .none kV3 dc3 pm3 an3 cd3 ct3), sl3⟩) (c3 : PySem.W.codeIn K cd3 "is_ahead" = true) (k3 : PySem.W.keepIn K (.ref f3) = true)
    (a4 : PySem.W.nsIn K mainGlobals "by_names" = some (some (.ref f4))) (l4 : K.lookup f4 = some ⟨oc4, od4, .func (PySem.W.fnOf "by_names" "by_names" (defArgs s_by_names) (defBody s_by_names) (defScope s_by_names) .none kV4 dc4 pm4 an4 cd4 ct4), sl4⟩) (c4 : PySem.W.codeIn K cd4 "by_names" = true) (k4 : PySem.W.keepIn K (.ref f4) = true)
    (a5 : PySem.W.nsIn K mainGlobals "people" = some (some (.ref f5))) (l5 : K.lookup f5 = some ⟨oc5, od5, .func (PySem.W.fnOf "people" "people" (defArgs s_people) (defBody s_people) (defScope s_people) .none kV5 dc5 pm5 an5 cd5 ct5), sl5⟩) (c5 : PySem.W.codeIn K cd5 "people" = true) (k5 : PySem.W.keepIn K (.ref f5) = true)
    (a6 : PySem.W.nsIn K mainGlobals "gone" = some (some (.ref f6))) (l6 : K.lookup f6 = some ⟨oc6, od6, .func (PySem.W.fnOf "gone" "gone" (defArgs s_gone) (defBody s_gone) (defScope s_gone) .none kV6 dc6 pm6 an6 cd6 ct6), sl6⟩) (c6 : PySem.W.codeIn K cd6 "gone" = true) (k6 : PySem.W.keepIn K (.ref f6) = true)
    (a7 : PySem.W.nsIn K mainGlobals "ways_back" = some (some (.ref f7))) (l7 : K.lookup f7 = some ⟨oc7, od7, .func (PySem.W.fnOf "ways_back" "ways_back" (defArgs s_ways_back) (defBody s_ways_back) (defScope s_ways_back) .none kV7 dc7 pm7 an7 cd7 ct7), sl7⟩) (c7 : PySem.W.codeIn K cd7 "ways_back" = true) (k7 : PySem.W.keepIn K (.ref f7) = true)
    (a8 : PySem.W.nsIn K mainGlobals "walked" = some (some (.ref f8))) (l8 : K.lookup f8 = some ⟨oc8, od8, .func (PySem.W.fnOf "walked" "walked" (defArgs s_walked) (defBody s_walked) (defScope s_walked) .none kV8 dc8 pm8 an8 cd8 ct8), sl8⟩) (c8 : PySem.W.codeIn K cd8 "walked" = true) (k8 : PySem.W.keepIn K (.ref f8) = true)
    (a9 : PySem.W.nsIn K mainGlobals "walks" = some (some (.ref f9))) (l9 : K.lookup f9 = some ⟨oc9, od9, .func (PySem.W.fnOf "walks" "walks" (defArgs s_walks) (defBody s_walks) (defScope s_walks) .none kV9 dc9 pm9 an9 cd9 ct9), sl9⟩) (c9 : PySem.W.codeIn K cd9 "walks" = true) (k9 : PySem.W.keepIn K (.ref f9) = true)
    (a10 : PySem.W.nsIn K mainGlobals "shows_ahead" = some (some (.ref f10))) (l10 : K.lookup f10 = some ⟨oc10, od10, .func (PySem.W.fnOf "shows_ahead" "shows_ahead" (defArgs s_shows_ahead) (defBody s_shows_ahead) (defScope s_shows_ahead) .none kV10 dc10 pm10 an10 cd10 ct10), sl10⟩) (c10 : PySem.W.codeIn K cd10 "shows_ahead" = true) (k10 : PySem.W.keepIn K (.ref f10) = true)
    (a11 : PySem.W.nsIn K mainGlobals "same_pairs" = some (some (.ref f11))) (l11 : K.lookup f11 = some ⟨oc11, od11, .func (PySem.W.fnOf "same_pairs" "same_pairs" (defArgs s_same_pairs) (defBody s_same_pairs) (defScope s_same_pairs) .none kV11 dc11 pm11 an11 cd11 ct11), sl11⟩) (c11 : PySem.W.codeIn K cd11 "same_pairs" = true) (k11 : PySem.W.keepIn K (.ref f11) = true)
    (a12 : PySem.W.nsIn K mainGlobals "_law_box" = some (some (.ref f12))) (l12 : K.lookup f12 = some ⟨oc12, od12, .func (PySem.W.fnOf "_law_box" "_law_box" (defArgs s__law_box) (defBody s__law_box) (defScope s__law_box) .none kV12 dc12 pm12 an12 cd12 ct12), sl12⟩) (c12 : PySem.W.codeIn K cd12 "_law_box" = true) (k12 : PySem.W.keepIn K (.ref f12) = true)
    (a13 : PySem.W.nsIn K mainGlobals "_law_take" = some (some (.ref f13))) (l13 : K.lookup f13 = some ⟨oc13, od13, .func (PySem.W.fnOf "_law_take" "_law_take" (defArgs s__law_take) (defBody s__law_take) (defScope s__law_take) .none kV13 dc13 pm13 an13 cd13 ct13), sl13⟩) (c13 : PySem.W.codeIn K cd13 "_law_take" = true) (k13 : PySem.W.keepIn K (.ref f13) = true)
    (a14 : PySem.W.nsIn K mainGlobals "_law_same" = some (some (.ref f14))) (l14 : K.lookup f14 = some ⟨oc14, od14, .func (PySem.W.fnOf "_law_same" "_law_same" (defArgs s__law_same) (defBody s__law_same) (defScope s__law_same) .none kV14 dc14 pm14 an14 cd14 ct14), sl14⟩) (c14 : PySem.W.codeIn K cd14 "_law_same" = true) (k14 : PySem.W.keepIn K (.ref f14) = true)
    (a15 : PySem.W.nsIn K mainGlobals "_law_lists" = some (some (.ref f15))) (l15 : K.lookup f15 = some ⟨oc15, od15, .func (PySem.W.fnOf "_law_lists" "_law_lists" (defArgs s__law_lists) (defBody s__law_lists) (defScope s__law_lists) .none kV15 dc15 pm15 an15 cd15 ct15), sl15⟩) (c15 : PySem.W.codeIn K cd15 "_law_lists" = true) (k15 : PySem.W.keepIn K (.ref f15) = true)
    (a16 : PySem.W.nsIn K mainGlobals "_law_of" = some (some (.ref f16))) (l16 : K.lookup f16 = some ⟨oc16, od16, .func (PySem.W.fnOf "_law_of" "_law_of" (defArgs s__law_of) (defBody s__law_of) (defScope s__law_of) .none kV16 dc16 pm16 an16 cd16 ct16), sl16⟩) (c16 : PySem.W.codeIn K cd16 "_law_of" = true) (k16 : PySem.W.keepIn K (.ref f16) = true)
    (a17 : PySem.W.nsIn K mainGlobals "_law_strewn" = some (some (.ref f17))) (l17 : K.lookup f17 = some ⟨oc17, od17, .func (PySem.W.fnOf "_law_strewn" "_law_strewn" (defArgs s__law_strewn) (defBody s__law_strewn) (defScope s__law_strewn) .none kV17 dc17 pm17 an17 cd17 ct17), sl17⟩) (c17 : PySem.W.codeIn K cd17 "_law_strewn" = true) (k17 : PySem.W.keepIn K (.ref f17) = true)
    (a18 : PySem.W.nsIn K mainGlobals "_law_crew" = some (some (.ref f18))) (l18 : K.lookup f18 = some ⟨oc18, od18, .func (PySem.W.fnOf "_law_crew" "_law_crew" (defArgs s__law_crew) (defBody s__law_crew) (defScope s__law_crew) .none kV18 dc18 pm18 an18 cd18 ct18), sl18⟩) (c18 : PySem.W.codeIn K cd18 "_law_crew" = true) (k18 : PySem.W.keepIn K (.ref f18) = true)
    (a19 : PySem.W.nsIn K mainGlobals "_law_ask" = some (some (.ref f19))) (l19 : K.lookup f19 = some ⟨oc19, od19, .func (PySem.W.fnOf "_law_ask" "_law_ask" (defArgs s__law_ask) (defBody s__law_ask) (defScope s__law_ask) .none kV19 dc19 pm19 an19 cd19 ct19), sl19⟩) (c19 : PySem.W.codeIn K cd19 "_law_ask" = true) (k19 : PySem.W.keepIn K (.ref f19) = true)
    (a20 : PySem.W.nsIn K mainGlobals "_law_asks" = some (some (.ref f20))) (l20 : K.lookup f20 = some ⟨oc20, od20, .func (PySem.W.fnOf "_law_asks" "_law_asks" (defArgs s__law_asks) (defBody s__law_asks) (defScope s__law_asks) .none kV20 dc20 pm20 an20 cd20 ct20), sl20⟩) (c20 : PySem.W.codeIn K cd20 "_law_asks" = true) (k20 : PySem.W.keepIn K (.ref f20) = true)
    (a21 : PySem.W.nsIn K mainGlobals "_law_walk" = some (some (.ref f21))) (l21 : K.lookup f21 = some ⟨oc21, od21, .func (PySem.W.fnOf "_law_walk" "_law_walk" (defArgs s__law_walk) (defBody s__law_walk) (defScope s__law_walk) .none kV21 dc21 pm21 an21 cd21 ct21), sl21⟩) (c21 : PySem.W.codeIn K cd21 "_law_walk" = true) (k21 : PySem.W.keepIn K (.ref f21) = true)
    (a22 : PySem.W.nsIn K mainGlobals "_law_two" = some (some (.ref f22))) (l22 : K.lookup f22 = some ⟨oc22, od22, .func (PySem.W.fnOf "_law_two" "_law_two" (defArgs s__law_two) (defBody s__law_two) (defScope s__law_two) .none kV22 dc22 pm22 an22 cd22 ct22), sl22⟩) (c22 : PySem.W.codeIn K cd22 "_law_two" = true) (k22 : PySem.W.keepIn K (.ref f22) = true)
    (a23 : PySem.W.nsIn K mainGlobals "_law_odd" = some (some (.ref f23))) (l23 : K.lookup f23 = some ⟨oc23, od23, .func (PySem.W.fnOf "_law_odd" "_law_odd" (defArgs s__law_odd) (defBody s__law_odd) (defScope s__law_odd) .none kV23 dc23 pm23 an23 cd23 ct23), sl23⟩) (c23 : PySem.W.codeIn K cd23 "_law_odd" = true) (k23 : PySem.W.keepIn K (.ref f23) = true)
    (a24 : PySem.W.nsIn K mainGlobals "_law_otherwise" = some (some (.ref f24))) (l24 : K.lookup f24 = some ⟨oc24, od24, .func (PySem.W.fnOf "_law_otherwise" "_law_otherwise" (defArgs s__law_otherwise) (defBody s__law_otherwise) (defScope s__law_otherwise) .none kV24 dc24 pm24 an24 cd24 ct24), sl24⟩) (c24 : PySem.W.codeIn K cd24 "_law_otherwise" = true) (k24 : PySem.W.keepIn K (.ref f24) = true)
    (a25 : PySem.W.nsIn K mainGlobals "_law_right" = some (some (.ref f25))) (l25 : K.lookup f25 = some ⟨oc25, od25, .func (PySem.W.fnOf "_law_right" "_law_right" (defArgs s__law_right) (defBody s__law_right) (defScope s__law_right) .none kV25 dc25 pm25 an25 cd25 ct25), sl25⟩) (c25 : PySem.W.codeIn K cd25 "_law_right" = true) (k25 : PySem.W.keepIn K (.ref f25) = true)
    (a26 : PySem.W.nsIn K mainGlobals "law" = some (some (.ref f26))) (l26 : K.lookup f26 = some ⟨oc26, od26, .func (PySem.W.fnOf "law" "law" (defArgs s_law) (defBody s_law) (defScope s_law) .none kV26 dc26 pm26 an26 cd26 ct26), sl26⟩) (c26 : PySem.W.codeIn K cd26 "law" = true) (k26 : PySem.W.keepIn K (.ref f26) = true)
    (z_len : PySem.W.nsIn K mainGlobals "len" = some none)
    (z_abs : PySem.W.nsIn K mainGlobals "abs" = some none)
    (z_int : PySem.W.nsIn K mainGlobals "int" = some none)
    (z_max : PySem.W.nsIn K mainGlobals "max" = some none)
    (z_min : PySem.W.nsIn K mainGlobals "min" = some none)
    (z_all : PySem.W.nsIn K mainGlobals "all" = some none)
    (z_any : PySem.W.nsIn K mainGlobals "any" = some none)
    (z_sum : PySem.W.nsIn K mainGlobals "sum" = some none)
    (z_tuple : PySem.W.nsIn K mainGlobals "tuple" = some none)
    (z_list : PySem.W.nsIn K mainGlobals "list" = some none)
    (z_dict : PySem.W.nsIn K mainGlobals "dict" = some none)
    (z_sorted : PySem.W.nsIn K mainGlobals "sorted" = some none)
    (z_isinstance : PySem.W.nsIn K mainGlobals "isinstance" = some none)
    (z_str : PySem.W.nsIn K mainGlobals "str" = some none)
    (z_bool : PySem.W.nsIn K mainGlobals "bool" = some none)
    (z_range : PySem.W.nsIn K mainGlobals "range" = some none)
    (z_enumerate : PySem.W.nsIn K mainGlobals "enumerate" = some none)
    (z_zip : PySem.W.nsIn K mainGlobals "zip" = some none)
    (z_reversed : PySem.W.nsIn K mainGlobals "reversed" = some none)
    (z_repr : PySem.W.nsIn K mainGlobals "repr" = some none)
    (z_set : PySem.W.nsIn K mainGlobals "set" = some none)
    : ∃ fd : FuncData, (∀ (s : Shared) (v : Value), BindsTo s fd ⟨[v], []⟩ [("_law_script", v)]) ∧ ∀ base : Heap, K.In base → base.Ns mainGlobals mg → FnG l.prog w K mg base CX0 16 fa fd ["_law_script"] (spD m_law) := by
  have e := hfa.symm.trans (PySem.W.mg_of X G a26)
  cases e
  have B : Bi mg := ⟨PySem.W.mg_none_of X G z_len, PySem.W.mg_none_of X G z_abs, PySem.W.mg_none_of X G z_int, PySem.W.mg_none_of X G z_max, PySem.W.mg_none_of X G z_min, PySem.W.mg_none_of X G z_all, PySem.W.mg_none_of X G z_any, PySem.W.mg_none_of X G z_sum, PySem.W.mg_none_of X G z_tuple, PySem.W.mg_none_of X G z_list, PySem.W.mg_none_of X G z_dict, PySem.W.mg_none_of X G z_sorted, PySem.W.mg_none_of X G z_isinstance, PySem.W.mg_none_of X G z_str, PySem.W.mg_none_of X G z_bool, PySem.W.mg_none_of X G z_range, PySem.W.mg_none_of X G z_enumerate, PySem.W.mg_none_of X G z_zip, PySem.W.mg_none_of X G z_reversed, PySem.W.mg_none_of X G z_repr, PySem.W.mg_none_of X G z_set⟩
  have F0 := fun_mk (st := s_places_of) l0 c0 k0
  have F1 := fun_mk (st := s_look_alike) l1 c1 k1
  have F2 := fun_mk (st := s_place_of) l2 c2 k2
  have F3 := fun_mk (st := s_is_ahead) l3 c3 k3
  have F4 := fun_mk (st := s_by_names) l4 c4 k4
  have F5 := fun_mk (st := s_people) l5 c5 k5
  have F6 := fun_mk (st := s_gone) l6 c6 k6
  have F7 := fun_mk (st := s_ways_back) l7 c7 k7
  have F8 := fun_mk (st := s_walked) l8 c8 k8
  have F9 := fun_mk (st := s_walks) l9 c9 k9
  have F10 := fun_mk (st := s_shows_ahead) l10 c10 k10
  have F11 := fun_mk (st := s_same_pairs) l11 c11 k11
  have F12 := fun_mk (st := s__law_box) l12 c12 k12
  have F13 := fun_mk (st := s__law_take) l13 c13 k13
  have F14 := fun_mk (st := s__law_same) l14 c14 k14
  have F15 := fun_mk (st := s__law_lists) l15 c15 k15
  have F16 := fun_mk (st := s__law_of) l16 c16 k16
  have F17 := fun_mk (st := s__law_strewn) l17 c17 k17
  have F18 := fun_mk (st := s__law_crew) l18 c18 k18
  have F19 := fun_mk (st := s__law_ask) l19 c19 k19
  have F20 := fun_mk (st := s__law_asks) l20 c20 k20
  have F21 := fun_mk (st := s__law_walk) l21 c21 k21
  have F22 := fun_mk (st := s__law_two) l22 c22 k22
  have F23 := fun_mk (st := s__law_odd) l23 c23 k23
  have F24 := fun_mk (st := s__law_otherwise) l24 c24 k24
  have F25 := fun_mk (st := s__law_right) l25 c25 k25
  have F26 := fun_mk (st := s_law) l26 c26 k26
  refine ⟨PySem.W.fnOf "law" "law" (defArgs s_law) (defBody s_law) (defScope s_law) .none kV26 dc26 pm26 an26 cd26 ct26, fun s v => .of_eq rfl, fun base _ _ => ?_⟩
  have g__law_box := ok__law_box (P := l.prog) (w := w) (base := base) _ _ F12 (PySem.W.mg_of X G a12) B 
  have g__law_take := ok__law_take (P := l.prog) (w := w) (base := base) _ _ F13 (PySem.W.mg_of X G a13) B 
  have g__law_strewn := ok__law_strewn (P := l.prog) (w := w) (base := base) _ _ F17 (PySem.W.mg_of X G a17) B g__law_take
  have g__law_crew := ok__law_crew (P := l.prog) (w := w) (base := base) _ _ F18 (PySem.W.mg_of X G a18) B g__law_strewn g__law_take
  have g__law_of := ok__law_of (P := l.prog) (w := w) (base := base) _ _ F16 (PySem.W.mg_of X G a16) B g__law_take
  have g__law_ask := ok__law_ask (P := l.prog) (w := w) (base := base) _ _ F19 (PySem.W.mg_of X G a19) B g__law_take g__law_strewn g__law_of
  have g__law_asks := ok__law_asks (P := l.prog) (w := w) (base := base) _ _ F20 (PySem.W.mg_of X G a20) B g__law_ask g__law_take
  have g__law_two := ok__law_two (P := l.prog) (w := w) (base := base) _ _ F22 (PySem.W.mg_of X G a22) B g__law_take
  have g__law_walk := ok__law_walk (P := l.prog) (w := w) (base := base) _ _ F21 (PySem.W.mg_of X G a21) B 
  have g__law_odd := ok__law_odd (P := l.prog) (w := w) (base := base) _ _ F23 (PySem.W.mg_of X G a23) B g__law_take
  have g__law_otherwise := ok__law_otherwise (P := l.prog) (w := w) (base := base) _ _ F24 (PySem.W.mg_of X G a24) B g__law_odd g__law_take 12
  have g__law_same := ok__law_same (P := l.prog) (w := w) (base := base) _ _ F14 (PySem.W.mg_of X G a14) B  12
  have g_look_alike := ok_look_alike (P := l.prog) (w := w) (base := base) _ _ F1 (PySem.W.mg_of X G a1) B 
  have g_people := ok_people (P := l.prog) (w := w) (base := base) _ _ F5 (PySem.W.mg_of X G a5) B 
  have g_gone := ok_gone (P := l.prog) (w := w) (base := base) _ _ F6 (PySem.W.mg_of X G a6) B 
  have g_walked := ok_walked (P := l.prog) (w := w) (base := base) _ _ F8 (PySem.W.mg_of X G a8) B g_gone
  have g_by_names := ok_by_names (P := l.prog) (w := w) (base := base) _ _ F4 (PySem.W.mg_of X G a4) B 
  have g_ways_back := ok_ways_back (P := l.prog) (w := w) (base := base) _ _ F7 (PySem.W.mg_of X G a7) B g_by_names
  have g_walks := ok_walks (P := l.prog) (w := w) (base := base) _ _ F9 (PySem.W.mg_of X G a9) B g_walked g_ways_back
  have g_same_pairs := ok_same_pairs (P := l.prog) (w := w) (base := base) _ _ F11 (PySem.W.mg_of X G a11) B 
  have g_places_of := ok_places_of (P := l.prog) (w := w) (base := base) _ _ F0 (PySem.W.mg_of X G a0) B 
  have g_place_of := ok_place_of (P := l.prog) (w := w) (base := base) _ _ F2 (PySem.W.mg_of X G a2) B g_places_of
  have g_is_ahead := ok_is_ahead (P := l.prog) (w := w) (base := base) _ _ F3 (PySem.W.mg_of X G a3) B g_place_of
  have g_shows_ahead := ok_shows_ahead (P := l.prog) (w := w) (base := base) _ _ F10 (PySem.W.mg_of X G a10) B g_walks g_look_alike g_same_pairs g_is_ahead g_people
  have g__law_lists := ok__law_lists (P := l.prog) (w := w) (base := base) _ _ F15 (PySem.W.mg_of X G a15) B  12
  have g__law_right := ok__law_right (P := l.prog) (w := w) (base := base) _ _ F25 (PySem.W.mg_of X G a25) B g__law_two g__law_same g__law_crew g__law_asks g__law_walk g__law_otherwise g_shows_ahead g__law_strewn g__law_lists g__law_take
  exact ok_law (P := l.prog) (w := w) (base := base) _ _ F26 (PySem.W.mg_of X G a26) B g__law_box g__law_right
end LW
open PySem PySem.W PyProof.Rows
set_option maxRecDepth 100000 in
set_option maxHeartbeats 0 in
theorem PySem.Challenge.cw_standby_k11_walks_that_show_who_is_ahead_holds : PySem.Challenge.rw_standby_k11_walks_that_show_who_is_ahead.Holds := by
  w_on; o_law; k_head; (case hw => w_witness2)
  k_fill
  refine DL.walk_g (l := PySem.Challenge.rw_standby_k11_walks_that_show_who_is_ahead) (k := 16) (x := "_law_script") (m := LW.m_law) rfl rfl ⟨rfl, by decide, by decide⟩ (fun w h Y => PySem.W.kIn_of Y) ?nl ?F LW.law_true
  case nl => intro w; first | rfl | kernel_rfl | decide +kernel
  case F =>
    intro w mg fa h KX G hmg
    refine' LW.all_mk KX G hmg ?a0 ?l0 ?c0 ?k0 ?a1 ?l1 ?c1 ?k1 ?a2 ?l2 ?c2 ?k2 ?a3 ?l3 ?c3 ?k3 ?a4 ?l4 ?c4 ?k4 ?a5 ?l5 ?c5 ?k5 ?a6 ?l6 ?c6 ?k6 ?a7 ?l7 ?c7 ?k7 ?a8 ?l8 ?c8 ?k8 ?a9 ?l9 ?c9 ?k9 ?a10 ?l10 ?c10 ?k10 ?a11 ?l11 ?c11 ?k11 ?a12 ?l12 ?c12 ?k12 ?a13 ?l13 ?c13 ?k13 ?a14 ?l14 ?c14 ?k14 ?a15 ?l15 ?c15 ?k15 ?a16 ?l16 ?c16 ?k16 ?a17 ?l17 ?c17 ?k17 ?a18 ?l18 ?c18 ?k18 ?a19 ?l19 ?c19 ?k19 ?a20 ?l20 ?c20 ?k20 ?a21 ?l21 ?c21 ?k21 ?a22 ?l22 ?c22 ?k22 ?a23 ?l23 ?c23 ?k23 ?a24 ?l24 ?c24 ?k24 ?a25 ?l25 ?c25 ?k25 ?a26 ?l26 ?c26 ?k26 ?z_len ?z_abs ?z_int ?z_max ?z_min ?z_all ?z_any ?z_sum ?z_tuple ?z_list ?z_dict ?z_sorted ?z_isinstance ?z_str ?z_bool ?z_range ?z_enumerate ?z_zip ?z_reversed ?z_repr ?z_set
    (case a0 => k_is); (case l0 => k_is); (case c0 => k_is); (case k0 => k_is)
    (case a1 => k_is); (case l1 => k_is); (case c1 => k_is); (case k1 => k_is)
    (case a2 => k_is); (case l2 => k_is); (case c2 => k_is); (case k2 => k_is)
    (case a3 => k_is); (case l3 => k_is); (case c3 => k_is); (case k3 => k_is)
    (case a4 => k_is); (case l4 => k_is); (case c4 => k_is); (case k4 => k_is)
    (case a5 => k_is); (case l5 => k_is); (case c5 => k_is); (case k5 => k_is)
    (case a6 => k_is); (case l6 => k_is); (case c6 => k_is); (case k6 => k_is)
    (case a7 => k_is); (case l7 => k_is); (case c7 => k_is); (case k7 => k_is)
    (case a8 => k_is); (case l8 => k_is); (case c8 => k_is); (case k8 => k_is)
    (case a9 => k_is); (case l9 => k_is); (case c9 => k_is); (case k9 => k_is)
    (case a10 => k_is); (case l10 => k_is); (case c10 => k_is); (case k10 => k_is)
    (case a11 => k_is); (case l11 => k_is); (case c11 => k_is); (case k11 => k_is)
    (case a12 => k_is); (case l12 => k_is); (case c12 => k_is); (case k12 => k_is)
    (case a13 => k_is); (case l13 => k_is); (case c13 => k_is); (case k13 => k_is)
    (case a14 => k_is); (case l14 => k_is); (case c14 => k_is); (case k14 => k_is)
    (case a15 => k_is); (case l15 => k_is); (case c15 => k_is); (case k15 => k_is)
    (case a16 => k_is); (case l16 => k_is); (case c16 => k_is); (case k16 => k_is)
    (case a17 => k_is); (case l17 => k_is); (case c17 => k_is); (case k17 => k_is)
    (case a18 => k_is); (case l18 => k_is); (case c18 => k_is); (case k18 => k_is)
    (case a19 => k_is); (case l19 => k_is); (case c19 => k_is); (case k19 => k_is)
    (case a20 => k_is); (case l20 => k_is); (case c20 => k_is); (case k20 => k_is)
    (case a21 => k_is); (case l21 => k_is); (case c21 => k_is); (case k21 => k_is)
    (case a22 => k_is); (case l22 => k_is); (case c22 => k_is); (case k22 => k_is)
    (case a23 => k_is); (case l23 => k_is); (case c23 => k_is); (case k23 => k_is)
    (case a24 => k_is); (case l24 => k_is); (case c24 => k_is); (case k24 => k_is)
    (case a25 => k_is); (case l25 => k_is); (case c25 => k_is); (case k25 => k_is)
    (case a26 => k_is); (case l26 => k_is); (case c26 => k_is); (case k26 => k_is)
    (case z_len => k_is); (case z_abs => k_is); (case z_int => k_is); (case z_max => k_is); (case z_min => k_is); (case z_all => k_is); (case z_any => k_is); (case z_sum => k_is); (case z_tuple => k_is); (case z_list => k_is); (case z_dict => k_is); (case z_sorted => k_is); (case z_isinstance => k_is); (case z_str => k_is); (case z_bool => k_is); (case z_range => k_is); (case z_enumerate => k_is); (case z_zip => k_is); (case z_reversed => k_is); (case z_repr => k_is); (case z_set => k_is)
