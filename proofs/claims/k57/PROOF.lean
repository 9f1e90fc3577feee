import PyProof.Rows.All
import Wide.All
import OpenK.AllK
import Wide.FinOn
import HandS.Lambda
import HandS.ForMost
import HandS.TupAny
import HandS.TupLe
import HandS.More
import HandS.IsInst
import HandS.Strs
import KE.SortData
import HandS.Style
import HandS.Deep
import HandS.Zip
import HandS.Rev
import HandS.NoneIn
import HandS.DictComp
import HandS.Defaults
import PyProof.ReprRoads
import KE.KRevSl
import HandS.Text
import HandS.Ends
import KE.GoesEnum
import KE.KDictZip
import KE.SortKeyHeap
import KE.KSortKey
import HandS.EndTab
import HandS.Small
import HandS.SetTxt0
import HandS.Set
import HandS.TupSets
import KE.KDictSum
import PyProof.AutoIntOps
import HandS.List
import HandS.Iter
import KE.KDictList
import KE.DataMinMax
import PyProof.Rows.CountFlat
import HandS.RaiseMore
import HandS.Call
import KE.KEqNest
import HandS.DictEq
import HandS.OwnEq
import HandS.Exc
import HandS.ExcOwn
import HandS.ExcIs
import KE.KExcIs
import HandS.Zip0
import HandS.DictTup
import PyProof.InstNe
import OpenK.KOps
import HandS.SetFor
import KE.KDictCopyH
import PyProof.SeqRoads2
import KE.DataCmp
import HandS.Wide
import PySem.Challenge.RW_standby_k57_the_fewest_who_go
set_option Elab.async false
set_option linter.all false
set_option maxRecDepth 100000
set_option maxRecDepth 100000
set_option maxHeartbeats 4000000
namespace DL
open PySem PySem.Spec PyProof.Rows L2
abbrev D := PyData
structure Mm where
  u : List Addr
  m : List (Option Addr)
def Mm.Has (M : Mm) (a : Addr) : Prop := a ∈ M.u ∨ some a ∈ M.m
def kP : Key → D
  | .inl i => .int i
  | .inr s => .str s
def prTx : List D → Option (List (Str × Str))
  | [] => some []
  | .tuple [.str a, .str b] :: ds => (prTx ds).map ((a, b) :: ·)
  | _ :: _ => none
def rowS : List D → Option (List Str)
  | [] => some []
  | .str a :: ds => (rowS ds).map (a :: ·)
  | _ :: _ => none
def pairD (ds : List D) : Bool := match prTx ds with
  | some ps => !ps.isEmpty && decide (ps.map (·.1)).Nodup
  | none => false
def rowD (ds : List D) : Bool := match rowS ds with
  | some l => !l.isEmpty && decide l.Nodup
  | none => false
def callD (ds : List D) : Bool := pairD ds
def TupAt (H : Hp) (a : Addr) (xs : List V) (ds : List D) : Prop := (callD ds = false ∧ H a = some (.tup xs)) ∨ (True ∧ ∃ o : Obj, o.dict = none ∧ H a = some (.frz o (.tup xs)))
theorem TupAt.to {H H' : Hp} {a : Addr} {xs : List V} {ds : List D} (t : TupAt H a xs ds) (f : ∀ o, H a = some o → H' a = some o) : TupAt H' a xs ds := by
  rcases t with ⟨c, e⟩ | ⟨c, o, h, e⟩
  · exact .inl ⟨c, f _ e⟩
  · exact .inr ⟨c, o, h, f _ e⟩
theorem TupAt.some_ {H : Hp} {a : Addr} {xs : List V} {ds : List D} (t : TupAt H a xs ds) : ∃ o, H a = some o := by
  rcases t with ⟨c, e⟩ | ⟨c, o, h, e⟩
  · exact ⟨_, e⟩
  · exact ⟨_, e⟩
theorem TupAt.rd {H : Hp} {a : Addr} {xs : List V} {ds : List D} (t : TupAt H a xs ds) : Rd H a (.tup xs) := by
  rcases t with ⟨c, e⟩ | ⟨c, o, h, e⟩
  · exact .inl e
  · exact .inr ⟨o, e⟩
theorem TupAt.sq {K : PySem.W.Frag} {H : Hp} {a : Addr} {xs : List V} {ds : List D} (t : TupAt H a xs ds) : SqT K H a xs := .inl t.rd
theorem pairD_not {d : D} (ds : List D) (h : ∀ a b : Str, d ≠ .tuple [.str a, .str b]) : pairD (d :: ds) = false := by
  have e : prTx (d :: ds) = none := by
    unfold prTx
    split
    · rename_i q; cases q
    · rename_i a b ds' q; cases q; exact absurd rfl (h a b)
    · rfl
  unfold pairD
  rw [e]
theorem callD_not {d : D} (ds : List D) (h : ∀ a b : Str, d ≠ .tuple [.str a, .str b]) (h' : ∀ a : Str, d ≠ .str a) : callD (d :: ds) = false := by
  unfold callD
  exact pairD_not ds h
mutual
inductive RD (M : Mm) (H : Hp) : V → D → Prop
  | non : RD M H .non .none
  | bl (b : Bool) : RD M H (.bl b) (.bool b)
  | int (i : Int) : RD M H (.int i) (.int i)
  | str (x : Str) : RD M H (.str x) (.str x)
  | tup {a : Addr} {xs : List V} {ds : List D} : ¬ M.Has a → TupAt H a xs ds → RDs M H xs ds → RD M H (.ref a) (.tuple ds)
  | lst {a : Addr} {xs : List V} {ds : List D} : ¬ M.Has a → H a = some (.lst xs) → RDs M H xs ds → RD M H (.ref a) (.list ds)
  | dic {a : Addr} {kvs : List (Key × V)} {es : List (D × D)} : ¬ M.Has a → H a = some (.dK kvs) → RDk M H kvs es → RD M H (.ref a) (.dict es)
  | dit {a : Addr} {o : Obj} {kvs : List (List Key × V)} {es : List (D × D)} : ¬ M.Has a → H a = some (.frz o (.dT kvs)) → RDt M H kvs es → RD M H (.ref a) (.dict ((.none, .none) :: es))
inductive RDs (M : Mm) (H : Hp) : List V → List D → Prop
  | nil : RDs M H [] []
  | cons {v : V} {vs : List V} {d : D} {ds : List D} : RD M H v d → RDs M H vs ds → RDs M H (v :: vs) (d :: ds)
inductive RDk (M : Mm) (H : Hp) : List (Key × V) → List (D × D) → Prop
  | nil : RDk M H [] []
  | cons {k : Key} {v : V} {d : D} {kvs : List (Key × V)} {es : List (D × D)} : RD M H v d → RDk M H kvs es → RDk M H ((k, v) :: kvs) ((kP k, d) :: es)
inductive RDt (M : Mm) (H : Hp) : List (List Key × V) → List (D × D) → Prop
  | nil : RDt M H [] []
  | cons {k : List Key} {v : V} {d : D} {kvs : List (List Key × V)} {es : List (D × D)} : RD M H v d → RDt M H kvs es → RDt M H ((k, v) :: kvs) ((.tuple (k.map kP), d) :: es)
end

structure Ext (M M' : Mm) (H H' : Hp) : Prop where
  us : ∀ a ∈ M'.u, a ∈ M.u ∨ H a = none
  trk : ∀ a o, H a = some o → ∃ o', H' a = some o'
  stab : ∀ a o, H a = some o → some a ∉ M.m → H' a = some o
  fresh : ∀ a, some a ∈ M'.m → some a ∈ M.m ∨ H a = none
  len : M.m.length ≤ M'.m.length
  kill : ∀ i : Nat, i < M.m.length → M'.m[i]? = M.m[i]? ∨ M'.m[i]? = some none
structure ExtE (M M' : Mm) (H H' : Hp) : Prop where
  same : M'.u = M.u
  trk : ∀ a o, H a = some o → ∃ o', H' a = some o'
  stab : ∀ a o, H a = some o → some a ∉ M.m → H' a = some o
  fresh : ∀ a, some a ∈ M'.m → some a ∈ M.m ∨ H a = none
  len : M.m.length ≤ M'.m.length
  pre : ∀ i : Nat, i < M.m.length → M'.m[i]? = M.m[i]?
theorem ExtE.ext {M M' : Mm} {H H' : Hp} (x : ExtE M M' H H') : Ext M M' H H' := ⟨fun a m => .inl (x.same ▸ m), x.trk, x.stab, x.fresh, x.len, fun i h => .inl (x.pre i h)⟩
theorem Ext.outm {M M' : Mm} {H H' : Hp} (x : Ext M M' H H') {a : Addr} {o : HO} (n : some a ∉ M.m) (e : H a = some o) : some a ∉ M'.m := fun m =>
  (x.fresh a m).elim n fun z => by rw [e] at z; cases z
theorem Ext.out {M M' : Mm} {H H' : Hp} (x : Ext M M' H H') {a : Addr} {o : HO} (n : ¬ M.Has a) (e : H a = some o) : ¬ M'.Has a := fun m => by
  rcases m with m | m
  · exact (x.us a m).elim (fun z => n (.inl z)) fun z => by rw [e] at z; cases z
  · exact x.outm (fun z => n (.inr z)) e m
theorem Ext.st {M M' : Mm} {H H' : Hp} (x : Ext M M' H H') {a : Addr} {o : HO} (n : ¬ M.Has a) (e : H a = some o) : H' a = some o := x.stab a o e fun z => n (.inr z)
theorem Ext.refl (M : Mm) (H : Hp) : Ext M M H H := ⟨fun _ m => .inl m, fun a o e => ⟨o, e⟩, fun _ _ e _ => e, fun _ m => .inl m, Nat.le_refl _, fun _ _ => .inl rfl⟩
theorem ExtE.refl (M : Mm) (H : Hp) : ExtE M M H H := ⟨rfl, fun a o e => ⟨o, e⟩, fun _ _ e _ => e, fun _ m => .inl m, Nat.le_refl _, fun _ _ => rfl⟩
theorem Ext.trans {M M1 M2 : Mm} {H H1 H2 : Hp} (x : Ext M M1 H H1) (y : Ext M1 M2 H1 H2) : Ext M M2 H H2 where
  us := fun a m => by
    rcases y.us a m with z | z
    · exact x.us a z
    · right
      cases q : H a with
      | none => rfl
      | some o => obtain ⟨o', e⟩ := x.trk a o q; rw [z] at e; cases e
  trk := fun a o e => by obtain ⟨o', e'⟩ := x.trk a o e; exact y.trk a o' e'
  stab := fun a o e n => y.stab a o (x.stab a o e n) (x.outm n e)
  fresh := fun a m => by
    rcases y.fresh a m with m1 | z
    · exact x.fresh a m1
    · by_cases hm : some a ∈ M.m
      · exact .inl hm
      · right
        cases q : H a with
        | none => rfl
        | some o => rw [x.stab a o q hm] at z; cases z
  len := Nat.le_trans x.len y.len
  kill := fun i h => by
    rcases y.kill i (Nat.lt_of_lt_of_le h x.len) with e | e
    · rw [e]; exact x.kill i h
    · exact .inr e
theorem ExtE.trans {M M1 M2 : Mm} {H H1 H2 : Hp} (x : ExtE M M1 H H1) (y : ExtE M1 M2 H1 H2) : ExtE M M2 H H2 where
  same := y.same.trans x.same
  trk := (x.ext.trans y.ext).trk
  stab := (x.ext.trans y.ext).stab
  fresh := (x.ext.trans y.ext).fresh
  len := Nat.le_trans x.len y.len
  pre := fun i h => by rw [y.pre i (Nat.lt_of_lt_of_le h x.len), x.pre i h]
mutual
theorem RD.mono {M M' : Mm} {H H' : Hp} (x : Ext M M' H H') : ∀ {v : V} {d : D}, RD M H v d → RD M' H' v d
  | _, _, .non => .non
  | _, _, .bl b => .bl b
  | _, _, .int i => .int i
  | _, _, .str s => .str s
  | _, _, .tup n e r => .tup (let ⟨_, q⟩ := e.some_; x.out n q) (e.to fun _ q => x.st n q) (RDs.mono x r)
  | _, _, .lst n e r => .lst (x.out n e) (x.st n e) (RDs.mono x r)
  | _, _, .dic n e r => .dic (x.out n e) (x.st n e) (RDk.mono x r)
  | _, _, .dit n e r => .dit (x.out n e) (x.st n e) (RDt.mono x r)
theorem RDs.mono {M M' : Mm} {H H' : Hp} (x : Ext M M' H H') : ∀ {v : List V} {d : List D}, RDs M H v d → RDs M' H' v d
  | _, _, .nil => .nil
  | _, _, .cons a r => .cons (RD.mono x a) (RDs.mono x r)
theorem RDk.mono {M M' : Mm} {H H' : Hp} (x : Ext M M' H H') : ∀ {v : List (Key × V)} {d : List (D × D)}, RDk M H v d → RDk M' H' v d
  | _, _, .nil => .nil
  | _, _, .cons a r => .cons (RD.mono x a) (RDk.mono x r)
theorem RDt.mono {M M' : Mm} {H H' : Hp} (x : Ext M M' H H') : ∀ {v : List (List Key × V)} {d : List (D × D)}, RDt M H v d → RDt M' H' v d
  | _, _, .nil => .nil
  | _, _, .cons a r => .cons (RD.mono x a) (RDt.mono x r)
end

inductive MO where
  | lst (ds : List D) | dic (es : List (D × D)) | dit (es : List (D × D)) | tab (q : Str) (P : Addr) | ins (C : Addr) (fs : List (Str × D))
abbrev Hh := List (Option MO)
def RF (M : Mm) (H : Hp) (gs : List (Str × V)) (fs : List (Str × D)) : Prop := Paired (fun (p : Str × V) (q : Str × D) => p.1 = q.1 ∧ RD M H p.2 q.2) gs fs
theorem RF.to {M M' : Mm} {H H' : Hp} {gs : List (Str × V)} {fs : List (Str × D)} (r : RF M H gs fs) (h : ∀ v d, RD M H v d → RD M' H' v d) : RF M' H' gs fs := Paired.mapP r fun p q z => ⟨z.1, h _ _ z.2⟩
def RO (M : Mm) (H : Hp) (a : Addr) : MO → Prop
  | .lst ds => ∃ xs, H a = some (.lst xs) ∧ RDs M H xs ds
  | .dic es => ∃ kvs, H a = some (.dK kvs) ∧ RDk M H kvs es
  | .dit es => ∃ kvs, H a = some (.dT kvs) ∧ RDt M H kvs es
  | .ins C fs => ∃ dx gs, H a = some (.ins C dx gs) ∧ RF M H gs fs
  | .tab q P => a = P ∧ ∃ ps : Array Value, H a = some (.tbl ps) ∧ TriplesOk ps.toList ∧ ∀ pos cv, codeAmong pos ps.toList = some cv → ∃ c, cv = .ref c ∧ ¬ M.Has c ∧ H c = some (LamX.CodeO c q)
def tpO : HO → Bool
  | .tup _ => true
  | .frz _ (.tup _) => true
  | _ => false
structure Rep (M : Mm) (H : Hp) (h : Hh) : Prop where
  us : ∀ a ∈ M.u, some a ∉ M.m ∧ ∃ o, H a = some o ∧ tpO o = false
  len : M.m.length = h.length
  inj : ∀ (i j : Nat) (a : Addr), M.m[i]? = some (some a) → M.m[j]? = some (some a) → i = j
  at_ : ∀ (i : Nat) (a : Addr), M.m[i]? = some (some a) → ∃ o, h[i]? = some (some o) ∧ RO M H a o
  dead : ∀ i : Nat, M.m[i]? = some none → h[i]? = some none
theorem RO.move {M M' : Mm} {H H' : Hp} (x : Ext M M' H H') {a : Addr} {o : MO} (e : H' a = H a) (r : RO M H a o) : RO M' H' a o := by
  cases o with
  | lst ds => obtain ⟨xs, h, r⟩ := r; exact ⟨xs, e.trans h, r.mono x⟩
  | dic ds => obtain ⟨xs, h, r⟩ := r; exact ⟨xs, e.trans h, r.mono x⟩
  | dit ds => obtain ⟨xs, h, r⟩ := r; exact ⟨xs, e.trans h, r.mono x⟩
  | ins C fs => obtain ⟨dx, gs, h, r⟩ := r; exact ⟨dx, gs, e.trans h, r.to fun _ _ => RD.mono x⟩
  | tab q P =>
    obtain ⟨z, ps, h, t, r⟩ := r
    refine ⟨z, ps, e.trans h, t, fun pos cv hc => ?_⟩
    obtain ⟨c, e1, n, e2⟩ := r pos cv hc
    exact ⟨c, e1, x.out n e2, x.st n e2⟩
theorem RO.some_ {M : Mm} {H : Hp} {a : Addr} {o : MO} (r : RO M H a o) : ∃ u, H a = some u := by
  cases o with
  | lst ds => obtain ⟨xs, h, r⟩ := r; exact ⟨_, h⟩
  | dic ds => obtain ⟨xs, h, r⟩ := r; exact ⟨_, h⟩
  | dit ds => obtain ⟨xs, h, r⟩ := r; exact ⟨_, h⟩
  | ins C fs => obtain ⟨dx, gs, h, r⟩ := r; exact ⟨_, h⟩
  | tab q P => obtain ⟨_, ps, h, _⟩ := r; exact ⟨_, h⟩
theorem RO.kind {M : Mm} {H : Hp} {a : Addr} {o : MO} (r : RO M H a o) : ∃ u, H a = some u ∧ tpO u = false := by
  cases o with
  | lst ds => obtain ⟨xs, h, r⟩ := r; exact ⟨_, h, rfl⟩
  | dic ds => obtain ⟨xs, h, r⟩ := r; exact ⟨_, h, rfl⟩
  | dit ds => obtain ⟨xs, h, r⟩ := r; exact ⟨_, h, rfl⟩
  | ins C fs => obtain ⟨dx, gs, h, r⟩ := r; exact ⟨_, h, rfl⟩
  | tab q P => obtain ⟨_, ps, h, _⟩ := r; exact ⟨_, h, rfl⟩
theorem Rep.tracked {M : Mm} {H : Hp} {h : Hh} (r : Rep M H h) {a : Addr} (m : M.Has a) : ∃ u, H a = some u ∧ tpO u = false := by
  rcases m with m | m
  · exact (r.us a m).2
  · obtain ⟨i, hi, e⟩ := List.getElem_of_mem m
    obtain ⟨o, _, ro⟩ := r.at_ i a (by rw [List.getElem?_eq_getElem hi, e])
    exact ro.kind
theorem Rep.new {M : Mm} {H : Hp} {h : Hh} (r : Rep M H h) {p : Addr} (n : H p = none) : ¬ M.Has p := fun m => by
  obtain ⟨u, e, _⟩ := r.tracked m
  rw [n] at e; cases e
theorem trk_upd {H : Hp} {p : Addr} {o : HO} : ∀ a u, H a = some u → ∃ u', upd H p o a = some u' := fun a u e => by
  by_cases h : a = p
  · subst h; exact ⟨o, upd_same⟩
  · exact ⟨u, by rw [upd_ne h]; exact e⟩
theorem ext_new {M : Mm} {H : Hp} {p : Addr} {o : HO} (n : H p = none) : ExtE M M H (upd H p o) :=
  ⟨rfl, trk_upd, fun a u e _ => by rw [upd_ne (ne_of_none e n)]; exact e, fun _ m => .inl m, Nat.le_refl _, fun _ _ => rfl⟩
theorem Rep.upd_new {M : Mm} {H : Hp} {h : Hh} (r : Rep M H h) {p : Addr} {o : HO} (n : H p = none) : Rep M (upd H p o) h :=
  ⟨fun a m => by
    obtain ⟨h1, u, e, ht⟩ := r.us a m
    exact ⟨h1, u, by rw [upd_ne (ne_of_none e n)]; exact e, ht⟩, r.len, r.inj, fun i a e => by
    obtain ⟨u, hu, ro⟩ := r.at_ i a e
    obtain ⟨z, hz⟩ := ro.some_
    exact ⟨u, hu, ro.move (ext_new n).ext (upd_ne (ne_of_none hz n))⟩, r.dead⟩
def Mm.more (M : Mm) (p : Addr) : Mm := ⟨M.u, M.m ++ [some p]⟩
theorem ext_add {M : Mm} {H : Hp} {p : Addr} {o : HO} (n : H p = none) : ExtE M (M.more p) H (upd H p o) :=
  ⟨rfl, trk_upd, fun a u e _ => by rw [upd_ne (ne_of_none e n)]; exact e, fun a m => by
    rcases List.mem_append.mp m with m | m
    · exact .inl m
    · right
      have : a = p := by simpa using m
      rw [this]; exact n, by simp [Mm.more], fun i hi => List.getElem?_append_left hi⟩
theorem Rep.add {M : Mm} {H : Hp} {h : Hh} (r : Rep M H h) {p : Addr} {o : HO} {m : MO} (n : H p = none) (ro : RO (M.more p) (upd H p o) p m) : Rep (M.more p) (upd H p o) (h ++ [some m]) := by
  have nm := r.new n
  have cases_ : ∀ (i : Nat) (z : Option Addr), (M.m ++ [some p])[i]? = some z → (i < M.m.length ∧ M.m[i]? = some z) ∨ (i = M.m.length ∧ z = some p) := fun i z e => by
    by_cases hi : i < M.m.length
    · rw [List.getElem?_append_left hi] at e
      exact .inl ⟨hi, e⟩
    · rw [List.getElem?_append_right (by omega)] at e
      by_cases h0 : i - M.m.length = 0
      · rw [h0] at e
        exact .inr ⟨by omega, by simpa using e.symm⟩
      · rw [List.getElem?_eq_none (by simp; omega)] at e
        cases e
  refine ⟨fun a m => ?_, by simp [Mm.more, r.len], fun i j a e1 e2 => ?_, fun i a e => ?_, fun i e => ?_⟩
  · obtain ⟨h1, u, e, ht⟩ := r.us a m
    refine ⟨fun z => ?_, u, by rw [upd_ne (ne_of_none e n)]; exact e, ht⟩
    rcases List.mem_append.mp z with z | z
    · exact h1 z
    · have : a = p := by simpa using z
      rw [this, n] at e; cases e
  · rcases cases_ i _ e1 with ⟨h1, e1⟩ | ⟨h1, e1⟩ <;> rcases cases_ j _ e2 with ⟨h2, e2⟩ | ⟨h2, e2⟩
    · exact r.inj i j a e1 e2
    · cases e2; exact absurd (Or.inr (List.mem_of_getElem? e1)) nm
    · cases e1; exact absurd (Or.inr (List.mem_of_getElem? e2)) nm
    · omega
  · rcases cases_ i _ e with ⟨h1, e1⟩ | ⟨h1, e1⟩
    · obtain ⟨u, hu, q⟩ := r.at_ i a e1
      obtain ⟨z, hz⟩ := q.some_
      exact ⟨u, by rw [List.getElem?_append_left (by rw [← r.len]; exact h1)]; exact hu, q.move (ext_add n).ext (upd_ne (ne_of_none hz n))⟩
    · cases e1
      subst h1
      exact ⟨m, by rw [r.len]; simp, ro⟩
  · rcases cases_ i _ e with ⟨h1, e1⟩ | ⟨h1, e1⟩
    · rw [List.getElem?_append_left (by rw [← r.len]; exact h1)]
      exact r.dead i e1
    · cases e1
theorem ext_set {M : Mm} {H : Hp} {n : Nat} {a : Addr} {o : HO} (e : M.m[n]? = some (some a)) : ExtE M M H (upd H a o) :=
  ⟨rfl, trk_upd, fun b u q nb => by rw [upd_ne (fun z => nb (by rw [z]; exact List.mem_of_getElem? e))]; exact q, fun _ m => .inl m, Nat.le_refl _, fun _ _ => rfl⟩
theorem Rep.set {M : Mm} {H : Hp} {h : Hh} (r : Rep M H h) {n : Nat} {a : Addr} {o : HO} {m : MO} (e : M.m[n]? = some (some a)) (ro : RO M (upd H a o) a m) : Rep M (upd H a o) (h.set n (some m)) := by
  have hn : n < h.length := by
    obtain ⟨u, hu, _⟩ := r.at_ n a e
    exact (List.getElem?_eq_some_iff.mp hu).1
  refine ⟨fun b mb => ?_, by simpa using r.len, r.inj, fun i b q => ?_, fun i q => ?_⟩
  · obtain ⟨h1, u, q, ht⟩ := r.us b mb
    exact ⟨h1, u, by rw [upd_ne (fun z => h1 (by rw [z]; exact List.mem_of_getElem? e))]; exact q, ht⟩
  · by_cases hi : i = n
    · subst hi
      rw [e] at q; cases q
      exact ⟨m, by rw [List.getElem?_set_self hn], ro⟩
    · obtain ⟨u, hu, q2⟩ := r.at_ i b q
      have hb : b ≠ a := fun z => hi (r.inj i n a (by rw [← z]; exact q) e)
      exact ⟨u, by rw [List.getElem?_set_ne (Ne.symm hi)]; exact hu, q2.move (ext_set e).ext (upd_ne hb)⟩
  · have hi : n ≠ i := fun z => by subst z; rw [e] at q; cases q
    rw [List.getElem?_set_ne hi]
    exact r.dead i q
def XO (C : Addr) (d : Option Addr) (a : Addr) : HO := .ext fun h => ∃ (oe : Obj) (vs : Array Value), h.get? a = some oe ∧ oe.cls = .ref C ∧ oe.dict = d ∧ oe.data = .fields vs
def xk : HO → Bool
  | .ext _ => true
  | .xd _ => true
  | _ => false
def XD (M : Mm) (H : Hp) : Option Addr → List (Str × V) → Prop
  | none, gs => gs = []
  | some d, gs => ¬ M.Has d ∧ H d = some (.xd gs)
theorem XD.to {M M' : Mm} {H H' : Hp} (hn : ∀ b o, H b = some o → ¬ M.Has b → ¬ M'.Has b) (he : ∀ b o, H b = some o → xk o = true → ¬ M.Has b → H' b = some o) : ∀ {d : Option Addr} {gs : List (Str × V)}, XD M H d gs → XD M' H' d gs
  | none, _, e => e
  | some _, _, e => ⟨hn _ _ e.2 e.1, he _ _ e.2 rfl e.1⟩
def RX (M : Mm) (H : Hp) (a C : Addr) (d : Option Addr) (gs : List (Str × V)) (fs : List (Str × D)) : Prop := ¬ M.Has a ∧ H a = some (XO C d a) ∧ XD M H d gs ∧ RF M H gs fs
theorem RX.to {M M' : Mm} {H H' : Hp} {a C : Addr} {d : Option Addr} {gs : List (Str × V)} {fs : List (Str × D)} (r : RX M H a C d gs fs) (hn : ∀ b o, H b = some o → ¬ M.Has b → ¬ M'.Has b) (he : ∀ b o, H b = some o → xk o = true → ¬ M.Has b → H' b = some o) (hd : ∀ v d, RD M H v d → RD M' H' v d) : RX M' H' a C d gs fs :=
  ⟨hn _ _ r.2.1 r.1, he _ _ r.2.1 rfl r.1, r.2.2.1.to hn he, r.2.2.2.to hd⟩
inductive W where
  | dat (d : D) | ref (n : Nat) | scr (ns : List Int) | pack (its : List (Sum Nat D)) | lock (es : List (D × D)) | ins (C : Addr) (fs : List (Str × D)) | exc (k : Nat) (C : Addr) (fs : List (Str × D)) | row (ds : List D)
inductive RPs (M : Mm) (H : Hp) : List V → List (Sum Nat D) → Prop
  | nil : RPs M H [] []
  | ref {n : Nat} {a : Addr} {vs : List V} {ds : List (Sum Nat D)} : M.m[n]? = some (some a) → RPs M H vs ds → RPs M H (.ref a :: vs) (.inl n :: ds)
  | dat {v : V} {d : D} {vs : List V} {ds : List (Sum Nat D)} : RD M H v d → RPs M H vs ds → RPs M H (v :: vs) (.inr d :: ds)
theorem RPs.move {M M' : Mm} {H H' : Hp} (hm : ∀ (n : Nat) (a : Addr), M.m[n]? = some (some a) → M'.m[n]? = some (some a)) (hd : ∀ v d, RD M H v d → RD M' H' v d) : ∀ {vs : List V} {ds : List (Sum Nat D)}, RPs M H vs ds → RPs M' H' vs ds
  | _, _, .nil => .nil
  | _, _, .ref e r => .ref (hm _ _ e) (r.move hm hd)
  | _, _, .dat e r => .dat (hd _ _ e) (r.move hm hd)
abbrev Env := List (Option W)
def RV (M : Mm) (H : Hp) (v : V) : W → Prop
  | .dat d => RD M H v d
  | .ref n => ∃ a, M.m[n]? = some (some a) ∧ v = .ref a
  | .scr ns => ∃ a o, v = .ref a ∧ ¬ M.Has a ∧ H a = some (.frz o (.lst (ns.map V.int)))
  | .pack its => ∃ a xs, v = .ref a ∧ ¬ M.Has a ∧ H a = some (.lst xs) ∧ RPs M H xs its
  | .lock es => ∃ a o kvs, v = .ref a ∧ ¬ M.Has a ∧ H a = some (.frz o (.dK kvs)) ∧ RDk M H kvs es
  | .ins C fs => ∃ a dx gs, v = .ref a ∧ ¬ M.Has a ∧ H a = some (.ins C dx gs) ∧ RF M H gs fs
  | .exc _ C fs => ∃ a d gs, v = .ref a ∧ RX M H a C d gs fs
  | .row ds => ∃ a o xs, v = .ref a ∧ ¬ M.Has a ∧ o.dict = none ∧ H a = some (.frz o (.tup xs)) ∧ RDs M H xs ds
theorem lt_of_get {α : Type} {l : List α} {i : Nat} {x : α} (e : l[i]? = some x) : i < l.length := (List.getElem?_eq_some_iff.mp e).1
theorem RV.mono {M M' : Mm} {H H' : Hp} (x : ExtE M M' H H') {v : V} : ∀ {w : W}, RV M H v w → RV M' H' v w
  | .dat _, r => RD.mono x.ext r
  | .ref n, ⟨a, e, r⟩ => ⟨a, by rw [x.pre n (lt_of_get e)]; exact e, r⟩
  | .scr ns, ⟨a, o, e, n, q⟩ => ⟨a, o, e, x.ext.out n q, x.ext.st n q⟩
  | .pack its, ⟨a, xs, e, n, q, r⟩ => ⟨a, xs, e, x.ext.out n q, x.ext.st n q, r.move (fun i b z => by rw [x.pre i (lt_of_get z)]; exact z) fun _ _ => RD.mono x.ext⟩
  | .lock es, ⟨a, o, kvs, e, n, q, r⟩ => ⟨a, o, kvs, e, x.ext.out n q, x.ext.st n q, r.mono x.ext⟩
  | .ins C fs, ⟨a, dx, gs, e, n, q, r⟩ => ⟨a, dx, gs, e, x.ext.out n q, x.ext.st n q, r.to fun _ _ => RD.mono x.ext⟩
  | .exc _ C fs, ⟨a, d, gs, e, r⟩ => ⟨a, d, gs, e, r.to (fun _ _ q n => x.ext.out n q) (fun _ _ q _ n => x.ext.st n q) fun _ _ => RD.mono x.ext⟩
  | .row _, ⟨a, o, xs, e, n, d, q, r⟩ => ⟨a, o, xs, e, x.ext.out n q, d, x.ext.st n q, RDs.mono x.ext r⟩
inductive RVs (M : Mm) (H : Hp) : List V → List W → Prop
  | nil : RVs M H [] []
  | cons {v : V} {vs : List V} {d : W} {ds : List W} : RV M H v d → RVs M H vs ds → RVs M H (v :: vs) (d :: ds)
theorem RVs.mono {M M' : Mm} {H H' : Hp} (x : ExtE M M' H H') : ∀ {vs : List V} {ws : List W}, RVs M H vs ws → RVs M' H' vs ws
  | _, _, .nil => .nil
  | _, _, .cons a r => .cons (a.mono x) (r.mono x)
theorem RVs.length {M : Mm} {H : Hp} : ∀ {vs : List V} {ws : List W}, RVs M H vs ws → vs.length = ws.length
  | _, _, .nil => rfl
  | _, _, .cons _ r => by rw [List.length_cons, List.length_cons, r.length]
theorem RDs.length {M : Mm} {H : Hp} : ∀ {vs : List V} {ws : List D}, RDs M H vs ws → vs.length = ws.length
  | _, _, .nil => rfl
  | _, _, .cons _ r => by rw [List.length_cons, List.length_cons, r.length]
def RS (M : Mm) (H : Hp) (ρ : Env) (σ : L2.St) : Prop := ρ.length = σ.length ∧ ∀ (i : Nat) (w : W), ρ[i]? = some (some w) → ∃ v, σ[i]? = some (some v) ∧ RV M H v w
theorem RS.mono {M M' : Mm} {H H' : Hp} (x : ExtE M M' H H') {ρ : Env} {σ : L2.St} (r : RS M H ρ σ) : RS M' H' ρ σ := ⟨r.1, fun i w e => by
  obtain ⟨v, e1, q⟩ := r.2 i w e
  exact ⟨v, e1, q.mono x⟩⟩
theorem RS.set {M : Mm} {H : Hp} {ρ : Env} {σ : L2.St} (r : RS M H ρ σ) {i : Nat} {v : V} {w : W} (q : RV M H v w) : RS M H (ρ.set i (some w)) (σ.set i (some v)) := by
  refine ⟨by simp [r.1], fun j u e => ?_⟩
  by_cases hj : i = j
  · subst hj
    by_cases hi : i < ρ.length
    · rw [List.getElem?_set_self hi] at e
      cases e
      exact ⟨v, by rw [List.getElem?_set_self (by rw [← r.1]; exact hi)], q⟩
    · rw [List.getElem?_eq_none (by simpa using hi)] at e; cases e
  · rw [List.getElem?_set_ne hj] at e ⊢
    exact r.2 j u e
def obnd {α β : Type} (r : Option (α × Hh)) (k : α → Hh → Option (β × Hh)) : Option (β × Hh) := match r with
  | some (a, h) => k a h
  | none => none
@[simp] theorem obnd_some {α β : Type} (a : α) (h : Hh) (k : α → Hh → Option (β × Hh)) : obnd (some (a, h)) k = k a h := rfl
@[simp] theorem obnd_none {α β : Type} (k : α → Hh → Option (β × Hh)) : obnd none k = none := rfl
def Cont {α β : Type} (rel : Mm → Hp → β → α → Prop) (r : Option (α × Hh)) (M : Mm) (H : Hp) (Q : β → Hp → Prop) : Prop :=
  ∃ w h', r = some (w, h') ∧ ∀ M' H' v, ExtE M M' H H' → Rep M' H' h' → rel M' H' v w → Q v H'
theorem Cont.bind {α β γ δ : Type} {rel : Mm → Hp → β → α → Prop} {r : Option (γ × Hh)} {k : γ → Hh → Option (α × Hh)} {M : Mm} {H : Hp} {Q : β → Hp → Prop} (c : Cont rel (obnd r k) M H Q) :
    ∃ a h1, r = some (a, h1) ∧ ∀ M1 H1, ExtE M M1 H H1 → Cont rel (k a h1) M1 H1 Q := by
  obtain ⟨w, h', e, q⟩ := c
  cases r with
  | none => cases e
  | some p =>
    obtain ⟨a, h1⟩ := p
    exact ⟨a, h1, rfl, fun M1 H1 x => ⟨w, h', e, fun M' H' v y => q M' H' v (x.trans y)⟩⟩
theorem Cont.fin {α β : Type} {rel : Mm → Hp → β → α → Prop} {w : α} {h : Hh} {M : Mm} {H : Hp} {Q : β → Hp → Prop} (c : Cont rel (some (w, h)) M H Q) {M' : Mm} {H' : Hp} {v : β} (x : ExtE M M' H H') (r : Rep M' H' h) (q : rel M' H' v w) : Q v H' := by
  obtain ⟨w', h', e, k⟩ := c
  cases e
  exact k M' H' v x r q
def tX {α β : Type} (rel : Mm → Hp → β → α → Prop) (f : Env → Hh → Option (α × Hh)) : L2.St → Hp → (β → Hp → Prop) → Prop := fun σ H Q => ∃ M h ρ, Rep M H h ∧ RS M H ρ σ ∧ Cont rel (f ρ h) M H Q
abbrev EM := Env → Hh → Option (W × Hh)
abbrev tE : EM → TE := tX RV
abbrev BM := Env → Hh → Option (Bool × Hh)
abbrev tT : BM → TT := tX fun _ _ (b : Bool) (c : Bool) => b = c
abbrev AM := Env → Hh → Option (List W × Hh)
abbrev tA : AM → TA := tX RVs
abbrev OM := Env → Hh → Option (Option Int × Hh)
abbrev tO : OM → TO := tX fun _ _ (b : Option Int) (c : Option Int) => b = c
abbrev DE (X : Cx) (e : Expr) (f : EM) : Prop := PE X e (tE f)
abbrev DT (X : Cx) (e : Expr) (f : BM) : Prop := PT X e (tT f)
abbrev DA (X : Cx) (es : List Expr) (f : AM) : Prop := PA X es (tA f)
abbrev DK (X : Cx) (es : List Keyword) (f : AM) : Prop := PK X es (tA f)
theorem _root_.L2.PE.weak {X : Cx} {e : Expr} {t t' : TE} (h : PE X e t) (i : ∀ σ H Q, t' σ H Q → t σ H Q) : PE X e t' := ⟨fun pins s σ H Q I q => h.run pins s σ H Q I (i σ H Q q)⟩
theorem _root_.L2.PT.weak {X : Cx} {e : Expr} {t t' : TT} (h : PT X e t) (i : ∀ σ H Q, t' σ H Q → t σ H Q) : PT X e t' := ⟨fun pins s σ H Q I q => h.run pins s σ H Q I (i σ H Q q)⟩
theorem _root_.L2.PA.weak {X : Cx} {e : List Expr} {t t' : TA} (h : PA X e t) (i : ∀ σ H Q, t' σ H Q → t σ H Q) : PA X e t' := ⟨fun pos pins s σ H Q I q => h.run pos pins s σ H Q I (i σ H Q q)⟩
theorem _root_.L2.PK.weak {X : Cx} {e : List Keyword} {t t' : TA} (h : PK X e t) (i : ∀ σ H Q, t' σ H Q → t σ H Q) : PK X e t' := ⟨fun pos pins s σ H Q I q => h.run pos pins s σ H Q I (i σ H Q q)⟩
theorem _root_.L2.PS.weak {X : Cx} {e : Stmt} {t t' : TS} (h : PS X e t) (i : ∀ D σ H, t' D σ H → t D σ H) : PS X e t' := ⟨fun pins s σ H Q I q => h.run pins s σ H Q I (i Q σ H q)⟩
theorem _root_.L2.PSs.weak {X : Cx} {e : List Stmt} {t t' : TS} (h : PSs X e t) (i : ∀ D σ H, t' D σ H → t D σ H) : PSs X e t' := ⟨fun pins s σ H Q I q => h.run pins s σ H Q I (i Q σ H q)⟩
theorem _root_.L2.PG.weak {X : Cx} {e : Expr} {t t' : TG} (h : PG X e t) (i : ∀ v σ H Q, t' v σ H Q → t v σ H Q) : PG X e t' := ⟨fun pins s σ H v u Q I r q => h.run pins s σ H v u Q I r (i v σ H Q q)⟩
theorem _root_.L2.PI.weak {X : Cx} {tg e : Expr} {t t' : TI} (h : PI X tg e t) (i : ∀ σ H Q, t' σ H Q → t σ H Q) : PI X tg e t' := ⟨fun pins s σ H R I q => h.run pins s σ H R I (i σ H R q)⟩
section
variable {X : Cx}
def fVar (i : Nat) : EM := fun ρ h => match ρ[i]? with
  | some (some w) => some (w, h)
  | _ => none
theorem dv (i : Nat) {x : Str} {pos : Pos} (h : PE X (.Name x pos) (tVar i)) : DE X (.Name x pos) (fVar i) := h.weak fun σ H Q => by
  rintro ⟨M, h, ρ, r, rs, c⟩
  unfold fVar at c
  split at c
  · rename_i w e
    obtain ⟨v, e1, rv⟩ := rs.2 i w e
    exact ⟨v, e1, c.fin (.refl _ _) r rv⟩
  · obtain ⟨_, _, e, _⟩ := c; cases e
def fC (d : D) : EM := fun _ h => some (.dat d, h)
theorem d_const {e : Expr} {v : V} {d : D} (h : PE X e (tC v)) (q : ∀ M H, RD M H v d) : DE X e (fC d) := h.weak fun σ H Q => by
  rintro ⟨M, h, ρ, r, rs, c⟩
  exact c.fin (.refl _ _) r (q M H)
theorem d_int {i j pos} : DE X (.Constant (.int i) j pos) (fC (.int i)) := d_const pe_int fun _ _ => .int i
theorem d_bl {i j pos} : DE X (.Constant (.bool i) j pos) (fC (.bool i)) := d_const pe_bl fun _ _ => .bl i
theorem d_non {j pos} : DE X (.Constant .none j pos) (fC .none) := d_const pe_non fun _ _ => .non
theorem d_str {i j pos} : DE X (.Constant (.str i) j pos) (fC (.str i)) := d_const pe_str fun _ _ => .str i
def fNil : AM := fun _ h => some ([], h)
def fCons (f : EM) (g : AM) : AM := fun ρ h => obnd (f ρ h) fun w h1 => obnd (g ρ h1) fun ws h2 => some (w :: ws, h2)
theorem da_nil : DA X [] fNil := pa_nil.weak fun σ H Q => by
  rintro ⟨M, h, ρ, r, rs, c⟩
  exact c.fin (.refl _ _) r .nil
theorem cons_imp {f : EM} {g : AM} : ∀ σ H Q, tA (fCons f g) σ H Q → tCons (tE f) (tA g) σ H Q := fun σ H Q => by
  rintro ⟨M, h, ρ, r, rs, c⟩
  obtain ⟨w, h1, e1, c1⟩ := Cont.bind (δ := Unit) c
  refine ⟨M, h, ρ, r, rs, w, h1, e1, fun M1 H1 v x1 r1 v1 => ⟨M1, h1, ρ, r1, rs.mono x1, ?_⟩⟩
  obtain ⟨ws, h2, e2, c2⟩ := Cont.bind (δ := Unit) (c1 M1 H1 x1)
  exact ⟨ws, h2, e2, fun M2 H2 vs x2 r2 v2 => (c2 M2 H2 x2).fin (.refl _ _) r2 (.cons (v1.mono x2) v2)⟩
theorem da_cons {e : Expr} {es : List Expr} {f : EM} {g : AM} (he : DE X e f) (hr : DA X es g) (hs : starEach (e :: es) X.env = (false, eval e X.env) :: starEach es X.env := by rfl) : DA X (e :: es) (fCons f g) :=
  (pa_cons he hr hs).weak cons_imp
theorem dk_nil : DK X [] fNil := pk_nil.weak fun σ H Q => by
  rintro ⟨M, h, ρ, r, rs, c⟩
  exact c.fin (.refl _ _) r .nil
theorem dk_cons {nm : Option Str} {kpos : Pos} {e : Expr} {es : List Keyword} {f : EM} {g : AM} (he : DE X e f) (hr : DK X es g) : DK X (⟨nm, e, kpos⟩ :: es) (fCons f g) :=
  (pk_cons he hr).weak cons_imp
def Sem2 (r : R2) (sem : W → W → Hh → Option (W × Hh)) : Prop := ∀ (M : Mm) (H : Hp) (h : Hh) (x y : V) (wx wy : W) (Q : VK), Rep M H h → RV M H x wx → RV M H y wy → Cont RV (sem wx wy h) M H Q → r x y H Q
def f2 (sem : W → W → Hh → Option (W × Hh)) (f g : EM) : EM := fun ρ h => obnd (f ρ h) fun a h1 => obnd (g ρ h1) fun b h2 => sem a b h2
theorem op_imp {r : R2} {sem : W → W → Hh → Option (W × Hh)} {f g : EM} (hs : Sem2 r sem) : ∀ σ H Q, tE (f2 sem f g) σ H Q → tOp r (tE f) (tE g) σ H Q := fun σ H Q => by
  rintro ⟨M, h, ρ, r, rs, c⟩
  obtain ⟨w, h1, e1, c1⟩ := Cont.bind (δ := Unit) c
  refine ⟨M, h, ρ, r, rs, w, h1, e1, fun M1 H1 v x1 r1 v1 => ⟨M1, h1, ρ, r1, rs.mono x1, ?_⟩⟩
  obtain ⟨w2, h2, e2, c2⟩ := Cont.bind (δ := Unit) (c1 M1 H1 x1)
  exact ⟨w2, h2, e2, fun M2 H2 v2 x2 r2 q2 => hs M2 H2 h2 _ _ w w2 Q r2 (v1.mono x2) q2 (c2 M2 H2 x2)⟩
theorem d_op {a b : Expr} {op : Operator} {pos : Pos} {r : R2} {sem : W → W → Hh → Option (W × Hh)} {f g : EM} (ho : OpR X (binaryOp op) r) (hs : Sem2 r sem) (ha : DE X a f) (hb : DE X b g) : DE X (.BinOp a op b pos) (f2 sem f g) :=
  (pe_op ho ha hb).weak (op_imp hs)
theorem d_cmp {a b : Expr} {op : CmpOp} {pos : Pos} {r : R2} {sem : W → W → Hh → Option (W × Hh)} {f g : EM} (ho : OpR X (compareOp op) r) (hs : Sem2 r sem) (ha : DE X a f) (hb : DE X b g) (hm : behindInMarks op b = false) : DE X (.Compare a [op] [b] pos) (f2 sem f g) :=
  (pe_cmpR ho ha hb hm).weak (op_imp hs)
end
end DL
set_option maxRecDepth 100000
set_option maxHeartbeats 4000000
namespace DL
open PySem PySem.Spec PyProof.Rows L2
def deref (h : Hh) : W → Option D
  | .dat d => some d
  | .ref n => match h[n]? with
    | some (some (.lst ds)) => some (.list ds)
    | some (some (.dic es)) => some (.dict es)
    | some (some (.dit es)) => some (.dict ((.none, .none) :: es))
    | _ => none
  | .scr _ => none
  | .pack _ => none
  | .lock _ => none
  | .ins _ _ => none
  | .exc _ _ _ => none
  | .row _ => none
@[simp] theorem deref_dat (h : Hh) (d : D) : deref h (.dat d) = some d := rfl
def RR (M : Mm) (H : Hp) (v : V) : D → Prop
  | .list ds => ∃ a xs, v = .ref a ∧ H a = some (.lst xs) ∧ RDs M H xs ds
  | .dict es => (∃ a kvs, v = .ref a ∧ H a = some (.dK kvs) ∧ RDk M H kvs es) ∨ ∃ a kvs es', es = (.none, .none) :: es' ∧ v = .ref a ∧ Rd H a (.dT kvs) ∧ RDt M H kvs es'
  | d => RD M H v d
theorem RD.rr {M : Mm} {H : Hp} {v : V} : ∀ {d : D}, RD M H v d → RR M H v d
  | .none, r => r
  | .bool _, r => r
  | .int _, r => r
  | .str _, r => r
  | .tuple _, r => r
  | .list _, .lst _ e r => ⟨_, _, rfl, e, r⟩
  | .dict _, .dic _ e r => .inl ⟨_, _, rfl, e, r⟩
  | .dict _, .dit _ e r => .inr ⟨_, _, _, rfl, rfl, .inr ⟨_, e⟩, r⟩
theorem deref_rr {M : Mm} {H : Hp} {h : Hh} {v : V} {w : W} {d : D} (rep : Rep M H h) (r : RV M H v w) (e : deref h w = some d) : RR M H v d := by
  cases w with
  | dat d' => cases e; exact r.rr
  | scr ns => cases e
  | pack its => cases e
  | lock its => cases e
  | ins C fs => cases e
  | exc k C fs => cases e
  | row ds => cases e
  | ref n =>
    obtain ⟨a, ea, rfl⟩ := r
    obtain ⟨o, ho, ro⟩ := rep.at_ n a ea
    simp only [deref, ho] at e
    cases o with
    | lst ds => cases e; obtain ⟨xs, h1, h2⟩ := ro; exact ⟨a, xs, rfl, h1, h2⟩
    | dic ds => cases e; obtain ⟨xs, h1, h2⟩ := ro; exact .inl ⟨a, xs, rfl, h1, h2⟩
    | dit ds => cases e; obtain ⟨xs, h1, h2⟩ := ro; exact .inr ⟨a, xs, _, rfl, rfl, .inl h1, h2⟩
    | tab q P => cases e
    | ins C fs => cases e
section
variable {M : Mm} {H : Hp} {h : Hh} {v : V}
theorem rr_int {i : Int} (r : RR M H v (.int i)) : v = .int i := by cases (show RD M H v _ from r); rfl
theorem rr_str {i : Str} (r : RR M H v (.str i)) : v = .str i := by cases (show RD M H v _ from r); rfl
theorem rr_bl {i : Bool} (r : RR M H v (.bool i)) : v = .bl i := by cases (show RD M H v _ from r); rfl
theorem rr_non (r : RR M H v .none) : v = .non := by cases (show RD M H v _ from r); rfl
theorem rr_tup {ds : List D} (r : RR M H v (.tuple ds)) : ∃ a xs, v = .ref a ∧ ¬ M.Has a ∧ TupAt H a xs ds ∧ RDs M H xs ds := by
  cases (show RD M H v _ from r) with
  | tup n e q => exact ⟨_, _, rfl, n, e, q⟩
theorem RDs.get : ∀ {xs : List V} {ds : List D} {i : Nat} {d : D}, RDs M H xs ds → ds[i]? = some d → ∃ v, xs[i]? = some v ∧ RD M H v d
  | _, _, _, _, .nil, e => by simp at e
  | _, _, 0, _, .cons r _, e => by simp at e; subst e; exact ⟨_, rfl, r⟩
  | _, _, i + 1, _, .cons _ t, e => by
    obtain ⟨u, h1, h2⟩ := RDs.get (i := i) t (by simpa using e)
    exact ⟨u, by simpa using h1, h2⟩
theorem RDs.app : ∀ {xs : List V} {ds : List D} {ys : List V} {es : List D}, RDs M H xs ds → RDs M H ys es → RDs M H (xs ++ ys) (ds ++ es)
  | _, _, _, _, .nil, q => q
  | _, _, _, _, .cons r t, q => .cons r (RDs.app t q)
theorem RDs.take : ∀ {xs : List V} {ds : List D} (n : Nat), RDs M H xs ds → RDs M H (xs.take n) (ds.take n)
  | _, _, 0, _ => .nil
  | _, _, _ + 1, .nil => .nil
  | _, _, n + 1, .cons r t => .cons r (RDs.take n t)
theorem RDs.drop : ∀ {xs : List V} {ds : List D} (n : Nat), RDs M H xs ds → RDs M H (xs.drop n) (ds.drop n)
  | _, _, 0, r => r
  | _, _, _ + 1, .nil => .nil
  | _, _, n + 1, .cons _ t => RDs.drop n t
theorem RDs.rev : ∀ {xs : List V} {ds : List D}, RDs M H xs ds → RDs M H xs.reverse ds.reverse
  | _, _, .nil => .nil
  | _, _, .cons r t => by rw [List.reverse_cons, List.reverse_cons]; exact RDs.app (RDs.rev t) (.cons r .nil)
theorem RDs.set : ∀ {xs : List V} {ds : List D} (n : Nat) {v : V} {d : D}, RDs M H xs ds → RD M H v d → RDs M H (xs.set n v) (ds.set n d)
  | _, _, _, _, _, .nil, _ => .nil
  | _, _, 0, _, _, .cons r t, q => .cons q t
  | _, _, n + 1, _, _, .cons r t, q => .cons r (RDs.set n t q)
theorem RDs.erase : ∀ {xs : List V} {ds : List D} (n : Nat), RDs M H xs ds → RDs M H (xs.eraseIdx n) (ds.eraseIdx n)
  | _, _, _, .nil => .nil
  | _, _, 0, .cons r t => t
  | _, _, n + 1, .cons r t => .cons r (RDs.erase n t)
theorem RDs.rep {xs : List V} {ds : List D} (r : RDs M H xs ds) : ∀ k : Nat, RDs M H (List.replicate k xs).flatten (List.replicate k ds).flatten
  | 0 => .nil
  | k + 1 => by rw [List.replicate_succ, List.replicate_succ, List.flatten_cons, List.flatten_cons]; exact RDs.app r (RDs.rep r k)
theorem RDs.atI {xs : List V} {ds : List D} {i : Int} {d : D} (r : RDs M H xs ds) (e : L2.atI ds i = some d) : ∃ v, L2.atI xs i = some v ∧ RD M H v d := by
  unfold L2.atI at e ⊢
  rw [r.length]
  cases q : ixN ds.length i with
  | none => rw [q] at e; cases e
  | some j => rw [q] at e; exact r.get e
end
def mkL (m : Bool) (ds : List D) (h : Hh) : Option (W × Hh) := if m = true then some (.ref h.length, h ++ [some (.lst ds)]) else some (.dat (.list ds), h)
@[simp] theorem mkL_false (ds : List D) (h : Hh) : mkL false ds h = some (.dat (.list ds), h) := rfl
@[simp] theorem mkL_true (ds : List D) (h : Hh) : mkL true ds h = some (.ref h.length, h ++ [some (.lst ds)]) := rfl
theorem mkL_fin {m : Bool} {ds : List D} {h : Hh} {M : Mm} {H : Hp} {Q : VK} {p : Addr} {xs : List V} (rep : Rep M H h) (n : H p = none) (r : RDs M H xs ds) (c : Cont RV (mkL m ds h) M H Q) : Q (.ref p) (upd H p (.lst xs)) := by
  cases m with
  | false => exact c.fin (ext_new n) (rep.upd_new n) (RD.lst (rep.new n) upd_same (r.mono (ext_new n).ext))
  | true => exact c.fin (ext_add n) (rep.add n ⟨xs, upd_same, r.mono (ext_add n).ext⟩) ⟨p, by simp [Mm.more, ← rep.len], rfl⟩
theorem mkT_fin {ds : List D} {h : Hh} {M : Mm} {H : Hp} {Q : VK} {p : Addr} {xs : List V} (rep : Rep M H h) (n : H p = none) (r : RDs M H xs ds) (hd : callD ds = false) (c : Cont RV (some (.dat (.tuple ds), h)) M H Q) : Q (.ref p) (upd H p (.tup xs)) :=
  c.fin (ext_new n) (rep.upd_new n) (RD.tup (rep.new n) (.inl ⟨hd, upd_same⟩) (r.mono (ext_new n).ext))
def bareO (b : Bool) (o : Obj) (xs : List V) : HO := if b = true then .frz o (.tup xs) else .tup xs
theorem mkB_fin {ds : List D} {h : Hh} {M : Mm} {H : Hp} {Q : VK} {p : Addr} {xs : List V} {o : Obj} (rep : Rep M H h) (n : H p = none) (r : RDs M H xs ds) (ho : o.dict = none) (c : Cont RV (some (.dat (.tuple ds), h)) M H Q) : Q (.ref p) (upd H p (bareO (callD ds) o xs)) := by
  cases hd : callD ds with
  | false => exact mkT_fin rep n r hd c
  | true => exact c.fin (ext_new n) (rep.upd_new n) (RD.tup (rep.new n) (.inr ⟨trivial, o, ho, upd_same⟩) (r.mono (ext_new n).ext))
theorem bare_ok {P : Program} {w : World} {H : Hp} {h' : Heap} {a : Addr} {xs : List V} {o : Obj} (b : Bool) (e : h'.get? a = some o) (ok : ∀ G, ObjOk P w G h' a (.tup xs)) : ObjOk P w H h' a (bareO b o xs) := by
  cases b with
  | false => exact ok _
  | true => exact ⟨e, ok _⟩
theorem Cont.here {d : D} {h : Hh} {M : Mm} {H : Hp} {Q : VK} {v : V} (c : Cont RV (some (.dat d, h)) M H Q) (rep : Rep M H h) (r : RD M H v d) : Q v H := c.fin (.refl _ _) rep r
theorem Cont.no {α β : Type} {rel : Mm → Hp → β → α → Prop} {M : Mm} {H : Hp} {Q : β → Hp → Prop} (c : Cont rel none M H Q) : False := by obtain ⟨_, _, e, _⟩ := c; cases e
def ok (d : D) (h : Hh) : Option (W × Hh) := some (.dat d, h)
def addW (m : Bool) (x y : W) (h : Hh) : Option (W × Hh) := match deref h x, deref h y with
  | some (.int i), some (.int j) => ok (.int (i + j)) h
  | some (.str a), some (.str b) => if a.length + b.length ≤ sizeLine then ok (.str (a ++ b)) h else none
  | some (.tuple a), some (.tuple b) => if a.length + b.length ≤ sizeLine then ok (.tuple (a ++ b)) h else none
  | some (.list a), some (.list b) => if a.length + b.length ≤ sizeLine then mkL m (a ++ b) h else none
  | _, _ => none
section
variable {X : Cx}
def rCatB (K : PySem.W.Frag) : R2 := fun x y H Q => ∃ a b vs ws, x = .ref a ∧ y = .ref b ∧ SqT K H a vs ∧ SqT K H b ws ∧ vs.length + ws.length ≤ sizeLine ∧
  (vs = [] → Q (.ref b) H) ∧ (vs ≠ [] → ws = [] → Q (.ref a) H) ∧ (vs ≠ [] → ws ≠ [] → ∃ bb : Bool, ∀ p o, H p = none → o.dict = none → Q (.ref p) (upd H p (bareO bb o (vs ++ ws))))
theorem op_catB : OpR X (binaryOp .Add) (rCatB X.K) := by
  rintro pins s σ H x y v u Q I rx ry ⟨a, b, vs, ws, rfl, rfl, ha, hb, hz, f0, f1, f2⟩
  by_cases e : vs = [] ∨ ws = []
  · exact op_catA pins s σ H _ _ v u Q I rx ry ⟨a, b, vs, ws, rfl, rfl, ha, hb, hz, f0, f1, fun n1 n2 => (e.elim n1 n2).elim⟩
  · have n1 : vs ≠ [] := fun z => e (.inl z)
    have n2 : ws ≠ [] := fun z => e (.inr z)
    obtain ⟨bb, f⟩ := f2 n1 n2
    cases rx
    cases ry
    obtain ⟨l1, r1, p1, _⟩ := I.tuple ha
    obtain ⟨l2, r2, p2, _⟩ := I.tuple hb
    apply HT.cat_tup p1 p2 (fun z => n1 (r1.nil_iff.mp z)) (fun z => absurd (r2.nil_iff.mp z) n2)
    · intro _
      refine ⟨.ref s.heap.objs.size, _, I.laid (t' := s.toks) (o := bareO bb _ (vs ++ ws)) (fun _ _ q => Heap.get?_push_of_some _ q) (Nat.le_refl _) (bare_ok bb (Heap.get?_push_size _ rfl) fun G => ⟨?_, _, r1.append r2, IsTup.new _ _⟩), rfl, f _ _ (I.hok.fresh (Nat.le_refl _)) rfl⟩
      rw [List.length_append]
      exact hz
    · rw [← r1.length, ← r2.length]
      exact hz
theorem s_add (m : Bool) : Sem2 (fun x y H Q => rI0 (fun i j => .int (i + j)) x y H Q ∨ (∃ i j, x = .str i ∧ y = .str j ∧ i.length + j.length ≤ sizeLine ∧ Q (.str (i ++ j)) H) ∨ rCatB X.K x y H Q ∨ rCat x y H Q) (addW m) := by
  intro M H h x y wx wy Q rep rx ry c
  unfold addW at c
  split at c
  · rename_i i j h1 h2
    obtain rfl := rr_int (deref_rr rep rx h1)
    obtain rfl := rr_int (deref_rr rep ry h2)
    exact .inl ⟨i, j, rfl, rfl, c.here rep (.int _)⟩
  · rename_i i j h1 h2
    obtain rfl := rr_str (deref_rr rep rx h1)
    obtain rfl := rr_str (deref_rr rep ry h2)
    split at c
    · rename_i hz
      exact .inr (.inl ⟨i, j, rfl, rfl, hz, c.here rep (.str _)⟩)
    · exact c.no.elim
  · rename_i i j h1 h2
    obtain ⟨a, xs, rfl, na, ha, qa⟩ := rr_tup (deref_rr rep rx h1)
    obtain ⟨b, ys, rfl, nb, hb, qb⟩ := rr_tup (deref_rr rep ry h2)
    split at c
    · rename_i hz
      refine .inr (.inr (.inl ⟨a, b, xs, ys, rfl, rfl, .inl ha.rd, .inl hb.rd, by rw [qa.length, qb.length]; exact hz, fun e => ?_, fun _ e => ?_, fun _ _ => ⟨callD (i ++ j), fun p o np ho => ?_⟩⟩))
      · subst e; cases qa
        exact c.here rep (.tup nb hb qb)
      · subst e; cases qb; rw [List.append_nil] at c
        exact c.here rep (.tup na ha qa)
      · exact mkB_fin rep np (qa.app qb) ho c
    · exact c.no.elim
  · rename_i i j h1 h2
    obtain ⟨a, xs, rfl, ha, qa⟩ := deref_rr rep rx h1
    obtain ⟨b, ys, rfl, hb, qb⟩ := deref_rr rep ry h2
    split at c
    · rename_i hz
      exact .inr (.inr (.inr ⟨a, b, xs, ys, rfl, rfl, ha, hb, by rw [qa.length, qb.length]; exact hz, fun p np => mkL_fin rep np (qa.app qb) c⟩))
    · exact c.no.elim
  · exact c.no.elim
theorem d_add (m : Bool) {a b : Expr} {pos : Pos} {f g : EM} (ha : DE X a f) (hb : DE X b g) : DE X (.BinOp a .Add b pos) (f2 (addW m) f g) :=
  d_op (op_add.or (op_add_str.or (op_catB.or op_cat))) (s_add m) ha hb
def intW (C : Int → Int → Bool) (g : Int → Int → Int) (x y : W) (h : Hh) : Option (W × Hh) := match deref h x, deref h y with
  | some (.int i), some (.int j) => if C i j = true then ok (.int (g i j)) h else none
  | _, _ => none
theorem s_int {C : Int → Int → Prop} {Cb : Int → Int → Bool} {g : Int → Int → Int} (hc : ∀ i j, Cb i j = true → C i j) : Sem2 (rI C fun i j => .int (g i j)) (intW Cb g) := by
  intro M H h x y wx wy Q rep rx ry c
  unfold intW at c
  split at c
  · rename_i i j h1 h2
    obtain rfl := rr_int (deref_rr rep rx h1)
    obtain rfl := rr_int (deref_rr rep ry h2)
    split at c
    · rename_i hz
      exact ⟨i, j, rfl, rfl, hc i j hz, c.here rep (.int _)⟩
    · exact c.no.elim
  · exact c.no.elim
theorem op_subC : OpR X (binaryOp .Sub) (rI (fun _ _ => True) fun i j => .int (i - j)) := fun pins s σ H x y v u Q I rx ry ⟨i, j, e1, e2, _, q⟩ => op_sub pins s σ H x y v u Q I rx ry ⟨i, j, e1, e2, q⟩
def subW := intW (fun _ _ => true) fun i j => i - j
theorem d_sub {a b : Expr} {pos : Pos} {f g : EM} (ha : DE X a f) (hb : DE X b g) : DE X (.BinOp a .Sub b pos) (f2 subW f g) := d_op op_subC (s_int fun _ _ _ => trivial) ha hb
def modW := intW (fun _ j => decide (0 < j)) fun i j => i % j
theorem d_mod {a b : Expr} {pos : Pos} {f g : EM} (ha : DE X a f) (hb : DE X b g) : DE X (.BinOp a .Mod b pos) (f2 modW f g) := d_op op_mod (s_int fun _ _ h => of_decide_eq_true h) ha hb
def divW := intW (fun _ j => decide (0 < j ∧ j < 1073741824)) fun i j => i / j
theorem d_div {a b : Expr} {pos : Pos} {f g : EM} (ha : DE X a f) (hb : DE X b g) : DE X (.BinOp a .FloorDiv b pos) (f2 divW f g) := d_op op_fdiv (s_int fun _ _ h => by simpa [CDiv] using h) ha hb
def powW := intW (fun i j => decide (0 ≤ j ∧ j ≤ 1000000 ∧ i.natAbs < 18446744073709551616)) fun i j => i ^ j.toNat
theorem d_pow {a b : Expr} {pos : Pos} {f g : EM} (ha : DE X a f) (hb : DE X b g) : DE X (.BinOp a .Pow b pos) (f2 powW f g) := d_op op_pow (s_int fun _ _ h => by simpa [CPow] using h) ha hb
def mulW (m : Bool) (x y : W) (h : Hh) : Option (W × Hh) := match deref h x, deref h y with
  | some (.int i), some (.int j) => if ((-18446744073709551616 < i && i < 18446744073709551616) || (-18446744073709551616 < j && j < 18446744073709551616)) = true then ok (.int (i * j)) h else none
  | some (.list a), some (.int k) => if (0 ≤ k && k < 1000000 && a.length * k.toNat ≤ sizeLine) = true then mkL m (List.replicate k.toNat a).flatten h else none
  | _, _ => none
theorem s_mul (m : Bool) : Sem2 (fun x y H Q => rI CMul (fun i j => .int (i * j)) x y H Q ∨ rRep x y H Q) (mulW m) := by
  intro M H h x y wx wy Q rep rx ry c
  unfold mulW at c
  split at c
  · rename_i i j h1 h2
    obtain rfl := rr_int (deref_rr rep rx h1)
    obtain rfl := rr_int (deref_rr rep ry h2)
    split at c
    · rename_i hz
      refine .inl ⟨i, j, rfl, rfl, ?_, c.here rep (.int _)⟩
      simpa [CMul] using hz
    · exact c.no.elim
  · rename_i i j h1 h2
    obtain ⟨a, xs, rfl, ha, qa⟩ := deref_rr rep rx h1
    obtain rfl := rr_int (deref_rr rep ry h2)
    split at c
    · rename_i hz
      simp only [Bool.and_eq_true, decide_eq_true_eq] at hz
      refine .inr ⟨a, j, xs, rfl, rfl, ha, by omega, by omega, by rw [qa.length]; exact hz.2, fun p np => mkL_fin rep np (qa.rep _) c⟩
    · exact c.no.elim
  · exact c.no.elim
theorem d_mul (m : Bool) {a b : Expr} {pos : Pos} {f g : EM} (ha : DE X a f) (hb : DE X b g) : DE X (.BinOp a .Mult b pos) (f2 (mulW m) f g) := d_op (op_mul.or op_rep) (s_mul m) ha hb
def fNeg (f : EM) : EM := fun ρ h => obnd (f ρ h) fun w h1 => match w with
  | .dat (.int i) => ok (.int (-i)) h1
  | _ => none
theorem d_neg {a : Expr} {pos : Pos} {f : EM} (ha : DE X a f) : DE X (.UnaryOp .USub a pos) (fNeg f) := (pe_un un_neg ha).weak fun σ H Q => by
  rintro ⟨M, h, ρ, r, rs, c⟩
  obtain ⟨w, h1, e1, c1⟩ := Cont.bind (δ := Unit) c
  refine ⟨M, h, ρ, r, rs, w, h1, e1, fun M1 H1 v x1 r1 v1 => ?_⟩
  have c2 := c1 M1 H1 x1
  split at c2
  · cases v1; exact ⟨_, rfl, c2.here r1 (.int _)⟩
  · exact c2.no.elim
def bok (b : Bool) (h : Hh) : Option (W × Hh) := some (.dat (.bool b), h)
def ltW (g : Int → Int → Bool) (k : List Nat → List Nat → Bool) (x y : W) (h : Hh) : Option (W × Hh) := match deref h x, deref h y with
  | some (.int i), some (.int j) => bok (g i j) h
  | some (.str i), some (.str j) => bok (k i.cps.toList j.cps.toList) h
  | _, _ => none
theorem s_lt {g : Int → Int → Bool} {k : List Nat → List Nat → Bool} : Sem2 (fun x y H Q => rI0 (fun i j => .bl (g i j)) x y H Q ∨ ∃ i j, x = .str i ∧ y = .str j ∧ Q (.bl (k i.cps.toList j.cps.toList)) H) (ltW g k) := by
  intro M H h x y wx wy Q rep rx ry c
  unfold ltW at c
  split at c
  · rename_i i j h1 h2
    obtain rfl := rr_int (deref_rr rep rx h1)
    obtain rfl := rr_int (deref_rr rep ry h2)
    exact .inl ⟨i, j, rfl, rfl, c.here rep (.bl _)⟩
  · rename_i i j h1 h2
    obtain rfl := rr_str (deref_rr rep rx h1)
    obtain rfl := rr_str (deref_rr rep ry h2)
    exact .inr ⟨i, j, rfl, rfl, c.here rep (.bl _)⟩
  · exact c.no.elim
def lt_W := ltW (fun i j => decide (i < j)) fun i j => decide (i < j)
def gt_W := ltW (fun i j => decide (j < i)) fun i j => decide (j < i)
def le_W := ltW (fun i j => decide (i ≤ j)) fun i j => !decide (j < i)
def ge_W := ltW (fun i j => decide (j ≤ i)) fun i j => !decide (i < j)
theorem d_lt {a b : Expr} {pos : Pos} {f g : EM} (ha : DE X a f) (hb : DE X b g) : DE X (.Compare a [.Lt] [b] pos) (f2 lt_W f g) := d_cmp (op_lt.or op_lt_str) s_lt ha hb (nomark _)
theorem d_le {a b : Expr} {pos : Pos} {f g : EM} (ha : DE X a f) (hb : DE X b g) : DE X (.Compare a [.LtE] [b] pos) (f2 le_W f g) := d_cmp (op_le.or op_le_str) s_lt ha hb (nomark _)
theorem d_ge {a b : Expr} {pos : Pos} {f g : EM} (ha : DE X a f) (hb : DE X b g) : DE X (.Compare a [.GtE] [b] pos) (f2 ge_W f g) := d_cmp (op_ge.or op_ge_str) s_lt ha hb (nomark _)
end
mutual
theorem RD.dp {K : PySem.W.Frag} {M : Mm} {H : Hp} : ∀ {v : V} {d : D}, RD M H v d → d.canLay0 = true → Dp K H v d
  | _, _, .non, _ => .non
  | _, _, .bl b, _ => .bl b
  | _, _, .int i, _ => .int i
  | _, _, .str x, _ => .str x
  | _, _, .tup _ e r, h => .tup e.sq (RDs.dp r (by simpa [PyData.canLay0] using h))
  | _, _, .lst _ e r, h => .lst (.of e) (RDs.dp r (by simpa [PyData.canLay0] using h))
  | _, _, .dic _ _ _, h => by simp [PyData.canLay0] at h
  | _, _, .dit _ _ _, h => by simp [PyData.canLay0] at h
theorem RDs.dp {K : PySem.W.Frag} {M : Mm} {H : Hp} : ∀ {v : List V} {d : List D}, RDs M H v d → PyData.canLayAll0 d = true → DpAll K H v d
  | _, _, .nil, _ => .nil
  | _, _, .cons a r, h => by
    simp only [PyData.canLayAll0, Bool.and_eq_true] at h
    exact .cons (RD.dp a h.1) (RDs.dp r h.2)
end
theorem rr_dp {K : PySem.W.Frag} {M : Mm} {H : Hp} {v : V} : ∀ {d : D}, RR M H v d → d.canLay0 = true → Dp K H v d
  | .none, r, h => RD.dp r h
  | .bool _, r, h => RD.dp r h
  | .int _, r, h => RD.dp r h
  | .str _, r, h => RD.dp r h
  | .tuple _, r, h => RD.dp r h
  | .list _, ⟨_, _, e, h1, h2⟩, h => by subst e; exact .lst (.of h1) (h2.dp (by simpa [PyData.canLay0] using h))
  | .dict _, _, h => by simp [PyData.canLay0] at h
def eqS : D → D → Option Bool
  | .int i, .int j => some (decide (i = j))
  | .str i, .str j => some (decide (i = j))
  | .bool i, .bool j => some (decide (i = j))
  | .none, .none => some true
  | .none, .int _ => some false
  | .none, .str _ => some false
  | .none, .bool _ => some false
  | .int _, .none => some false
  | .str _, .none => some false
  | .bool _, .none => some false
  | .int _, .str _ => some false
  | .str _, .int _ => some false
  | .bool _, .str _ => some false
  | .str _, .bool _ => some false
  | _, _ => none
theorem eqS_ok {M : Mm} {H : Hp} {x y : V} {a b : D} {r : Bool} (ra : RR M H x a) (rb : RR M H y b) (e : eqS a b = some r) : scal x y = true ∧ r = decide (x = y) := by
  cases a <;> cases b <;> simp only [eqS, Option.some.injEq, reduceCtorEq] at e <;> subst e <;> cases (show RD M H x _ from ra) <;> cases (show RD M H y _ from rb) <;> simp [scal]
def shp (d : D) : Bool := d.canLay0 && decide (d.depth ≤ 64)
def eqW (neg : Bool) (x y : W) (h : Hh) : Option (W × Hh) := match deref h x, deref h y with
  | some a, some b => match eqS a b with
    | some r => bok (if neg = true then !r else r) h
    | none => if shp a && shp b then bok (if neg = true then !PyData.eqv a b else PyData.eqv a b) h else none
  | _, _ => none
section
variable {X : Cx}
theorem s_eq : Sem2 (fun x y H Q => rEq x y H Q ∨ rEqD X.K x y H Q) (eqW false) := by
  intro M H h x y wx wy Q rep rx ry c
  unfold eqW at c
  split at c
  · rename_i a b h1 h2
    have ra := deref_rr rep rx h1
    have rb := deref_rr rep ry h2
    split at c
    · rename_i r e
      obtain ⟨e1, e2⟩ := eqS_ok ra rb e
      subst e2
      exact .inl ⟨e1, c.here rep (.bl _)⟩
    · split at c
      · rename_i hz
        rw [Bool.and_eq_true] at hz
        exact .inr ⟨a, b, rr_dp ra (SeqAt.canLay_of_shaped hz.1), rr_dp rb (SeqAt.canLay_of_shaped hz.2), hz.1, hz.2, c.here rep (.bl _)⟩
      · exact c.no.elim
  · exact c.no.elim
theorem s_ne : Sem2 (fun x y H Q => rNe x y H Q ∨ rNeD X.K x y H Q) (eqW true) := by
  intro M H h x y wx wy Q rep rx ry c
  unfold eqW at c
  split at c
  · rename_i a b h1 h2
    have ra := deref_rr rep rx h1
    have rb := deref_rr rep ry h2
    split at c
    · rename_i r e
      obtain ⟨e1, e2⟩ := eqS_ok ra rb e
      subst e2
      exact .inl ⟨e1, c.here rep (.bl _)⟩
    · split at c
      · rename_i hz
        rw [Bool.and_eq_true] at hz
        exact .inr ⟨a, b, rr_dp ra (SeqAt.canLay_of_shaped hz.1), rr_dp rb (SeqAt.canLay_of_shaped hz.2), hz.1, hz.2, c.here rep (.bl _)⟩
      · exact c.no.elim
  · exact c.no.elim
theorem d_eq {k : Nat} (hr : Room k X.A) {a b : Expr} {pos : Pos} {f g : EM} (ha : DE X a f) (hb : DE X b g) : DE X (.Compare a [.Eq] [b] pos) (f2 (eqW false) f g) := d_cmp (op_eq.or (op_eqD hr.units)) s_eq ha hb (nomark _)
def isW (neg : Bool) (x y : W) (h : Hh) : Option (W × Hh) := match x, y with
  | .dat (.bool a), .dat (.bool b) => bok (if neg = true then !decide (a = b) else decide (a = b)) h
  | .dat .none, .dat .none => bok (!neg) h
  | _, .dat .none => bok neg h
  | _, _ => none
theorem rv_non {M : Mm} {H : Hp} {w : W} (r : RV M H .non w) : w = .dat .none := by
  cases w with
  | dat d => cases (show RD M H _ d from r); rfl
  | ref n => obtain ⟨_, _, e⟩ := r; cases e
  | scr n => obtain ⟨_, _, e, _⟩ := r; cases e
  | pack its => obtain ⟨_, _, e, _⟩ := r; cases e
  | lock its => obtain ⟨_, _, _, e, _⟩ := r; cases e
  | ins C fs => obtain ⟨_, _, _, e, _⟩ := r; cases e
  | exc k C fs => obtain ⟨_, _, _, e, _⟩ := r; cases e
  | row ds => obtain ⟨_, _, _, e, _⟩ := r; cases e
theorem s_is : Sem2 (fun x y H Q => (y = .non ∧ Q (.bl (decide (x = .non))) H) ∨ ∃ a b, x = .bl a ∧ y = .bl b ∧ Q (.bl (decide (a = b))) H) (isW false) := by
  intro M H h x y wx wy Q rep rx ry c
  unfold isW at c
  split at c
  · cases (show RD M H _ _ from rx); cases (show RD M H _ _ from ry)
    exact .inr ⟨_, _, rfl, rfl, c.here rep (.bl _)⟩
  · cases (show RD M H _ _ from rx); cases (show RD M H _ _ from ry)
    exact .inl ⟨rfl, c.here rep (.bl _)⟩
  · rename_i hn
    cases (show RD M H _ _ from ry)
    refine .inl ⟨rfl, ?_⟩
    have e : decide (x = V.non) = false := decide_eq_false fun z => by subst z; exact hn (rv_non rx)
    rw [e]
    exact c.here rep (.bl _)
  · exact c.no.elim
def fB (f : EM) : BM := fun ρ h => obnd (f ρ h) fun w h1 => match w with
  | .dat (.bool b) => some (b, h1)
  | _ => none
theorem test_imp {f : EM} : ∀ σ H Q, tT (fB f) σ H Q → tTest (tE f) σ H Q := fun σ H Q => by
  rintro ⟨M, h, ρ, r, rs, c⟩
  obtain ⟨w, h1, e1, c1⟩ := Cont.bind (δ := Unit) c
  refine ⟨M, h, ρ, r, rs, w, h1, e1, fun M1 H1 v x1 r1 v1 => ?_⟩
  have c2 := c1 M1 H1 x1
  split at c2
  · cases v1; exact ⟨_, rfl, c2.fin (.refl _ _) r1 rfl⟩
  · exact c2.no.elim
theorem dt_val {e : Expr} {f : EM} (h : DE X e f) (he : ∀ whole, isTrue e X.env whole = (do let v ← whole; standAt e.pos; holding [v] (truthy v)) := by intro _; rfl) : DT X e (fB f) := (pt_val h he).weak test_imp
theorem dt_of_cmp {a b : Expr} {op : CmpOp} {pos : Pos} {r : R2} {sem : W → W → Hh → Option (W × Hh)} {f g : EM} (ho : OpR X (compareOp op) r) (hs : Sem2 r sem) (ha : DE X a f) (hb : DE X b g) (hm : behindInMarks op b = false) : DT X (.Compare a [op] [b] pos) (fB (f2 sem f g)) :=
  (pt_cmpR ho ha hb hm).weak fun σ H Q q => by
    obtain ⟨M, h, ρ, r, rs, c⟩ := q
    obtain ⟨w, h1, e1, c1⟩ := Cont.bind (δ := Unit) c
    refine op_imp hs σ H _ ⟨M, h, ρ, r, rs, w, h1, e1, fun M1 H1 v x1 r1 v1 => ?_⟩
    have c2 := c1 M1 H1 x1
    split at c2
    · cases v1; exact ⟨_, rfl, c2.fin (.refl _ _) r1 rfl⟩
    · exact c2.no.elim
theorem t_lt {a b : Expr} {pos : Pos} {f g : EM} (ha : DE X a f) (hb : DE X b g) : DT X (.Compare a [.Lt] [b] pos) (fB (f2 lt_W f g)) := dt_of_cmp (op_lt.or op_lt_str) s_lt ha hb (nomark _)
theorem t_gt {a b : Expr} {pos : Pos} {f g : EM} (ha : DE X a f) (hb : DE X b g) : DT X (.Compare a [.Gt] [b] pos) (fB (f2 gt_W f g)) := dt_of_cmp (op_gt.or op_gt_str) s_lt ha hb (nomark _)
theorem t_ge {a b : Expr} {pos : Pos} {f g : EM} (ha : DE X a f) (hb : DE X b g) : DT X (.Compare a [.GtE] [b] pos) (fB (f2 ge_W f g)) := dt_of_cmp (op_ge.or op_ge_str) s_lt ha hb (nomark _)
theorem t_eq {k : Nat} (hr : Room k X.A) {a b : Expr} {pos : Pos} {f g : EM} (ha : DE X a f) (hb : DE X b g) : DT X (.Compare a [.Eq] [b] pos) (fB (f2 (eqW false) f g)) := dt_of_cmp (op_eq.or (op_eqD hr.units)) s_eq ha hb (nomark _)
theorem t_ne {k : Nat} (hr : Room k X.A) {a b : Expr} {pos : Pos} {f g : EM} (ha : DE X a f) (hb : DE X b g) : DT X (.Compare a [.NotEq] [b] pos) (fB (f2 (eqW true) f g)) := dt_of_cmp (op_ne.or (op_neD hr.units)) s_ne ha hb (nomark _)
theorem t_is {a b : Expr} {pos : Pos} {f g : EM} (ha : DE X a f) (hb : DE X b g) : DT X (.Compare a [.Is] [b] pos) (fB (f2 (isW false) f g)) := dt_of_cmp (op_isN.or op_is_bl) s_is ha hb (nomark _)
def bAnd (f g : BM) : BM := fun ρ h => obnd (f ρ h) fun b h1 => if b = true then g ρ h1 else some (false, h1)
def bOr (f g : BM) : BM := fun ρ h => obnd (f ρ h) fun b h1 => if b = true then some (true, h1) else g ρ h1
def bNot (f : BM) : BM := fun ρ h => obnd (f ρ h) fun b h1 => some (!b, h1)
abbrev DW (X : Cx) (e : Expr) (f : BM) : Prop := PW X e (tT f)
theorem _root_.L2.PW.weak {X : Cx} {e : Expr} {t t' : TT} (h : PW X e t) (i : ∀ σ H Q, t' σ H Q → t σ H Q) : PW X e t' := ⟨fun wh pins s σ H Q I q => h.run wh pins s σ H Q I (i σ H Q q)⟩
theorem dw_or1 {a : Expr} {pos : Pos} {f : BM} (ha : DT X a f) : DW X (.BoolOp .Or [a] pos) f := pw_or1 ha
theorem dw_or {a b : Expr} {rest : List Expr} {pos : Pos} {f g : BM} (ha : DT X a f) (hb : DW X (.BoolOp .Or (b :: rest) pos) g) : DW X (.BoolOp .Or (a :: b :: rest) pos) (bOr f g) := (pw_or ha hb).weak fun σ H Q => by
  rintro ⟨M, h, ρ, r, rs, c⟩
  obtain ⟨w, h1, e1, c1⟩ := Cont.bind (δ := Unit) c
  refine ⟨M, h, ρ, r, rs, w, h1, e1, fun M1 H1 v x1 r1 v1 => ?_⟩
  subst v1
  have c2 := c1 M1 H1 x1
  cases v with
  | true => exact iteT (c2.fin (.refl _ _) r1 rfl)
  | false => exact iteF ⟨M1, h1, ρ, r1, rs.mono x1, c2⟩
theorem dt_not {a : Expr} {pos : Pos} {f : BM} (ha : DT X a f) : DT X (.UnaryOp .Not a pos) (bNot f) := (pt_not ha).weak fun σ H Q => by
  rintro ⟨M, h, ρ, r, rs, c⟩
  obtain ⟨w, h1, e1, c1⟩ := Cont.bind (δ := Unit) c
  refine ⟨M, h, ρ, r, rs, w, h1, e1, fun M1 H1 v x1 r1 v1 => ?_⟩
  subst v1
  exact (c1 M1 H1 x1).fin (.refl _ _) r1 rfl
def fAnd (f g : EM) : EM := fun ρ h => obnd (f ρ h) fun w h1 => match w with
  | .dat (.bool true) => g ρ h1
  | .dat (.bool false) => bok false h1
  | _ => none
def fOr (f g : EM) : EM := fun ρ h => obnd (f ρ h) fun w h1 => match w with
  | .dat (.bool true) => bok true h1
  | .dat (.bool false) => g ρ h1
  | _ => none
def fNot (f : EM) : EM := fun ρ h => obnd (f ρ h) fun w h1 => match w with
  | .dat (.bool b) => bok (!b) h1
  | _ => none
theorem d_one {op} {a : Expr} {pos : Pos} {f : EM} (ha : DE X a f) : DE X (.BoolOp op [a] pos) f := pe_one ha
theorem d_and {a b : Expr} {rest : List Expr} {pos : Pos} {f g : EM} (ha : DE X a f) (hb : DE X (.BoolOp .And (b :: rest) pos) g) : DE X (.BoolOp .And (a :: b :: rest) pos) (fAnd f g) := (pe_and ha hb).weak fun σ H Q => by
  rintro ⟨M, h, ρ, r, rs, c⟩
  obtain ⟨w, h1, e1, c1⟩ := Cont.bind (δ := Unit) c
  refine ⟨M, h, ρ, r, rs, w, h1, e1, fun M1 H1 v x1 r1 v1 => ?_⟩
  have c2 := c1 M1 H1 x1
  split at c2
  · cases v1; exact ⟨true, rfl, iteT ⟨M1, h1, ρ, r1, rs.mono x1, c2⟩⟩
  · cases v1; exact ⟨false, rfl, iteF (c2.here r1 (.bl _))⟩
  · exact c2.no.elim
def fIf (t : BM) (f g : EM) : EM := fun ρ h => obnd (t ρ h) fun b h1 => if b = true then f ρ h1 else g ρ h1
theorem d_if {c a b : Expr} {pos : Pos} {t : BM} {f g : EM} (hc : DT X c t) (ha : DE X a f) (hb : DE X b g) : DE X (.IfExp c a b pos) (fIf t f g) := (pe_ifExp hc ha hb).weak fun σ H Q => by
  rintro ⟨M, h, ρ, r, rs, c⟩
  obtain ⟨w, h1, e1, c1⟩ := Cont.bind (δ := Unit) c
  refine ⟨M, h, ρ, r, rs, w, h1, e1, fun M1 H1 v x1 r1 v1 => ?_⟩
  subst v1
  have c2 := c1 M1 H1 x1
  cases v with
  | true => exact iteT ⟨M1, h1, ρ, r1, rs.mono x1, c2⟩
  | false => exact iteF ⟨M1, h1, ρ, r1, rs.mono x1, c2⟩
def fChain (s1 s2 : W → W → Hh → Option (W × Hh)) (f g k : EM) : EM := fun ρ h => obnd (f ρ h) fun a h1 => obnd (g ρ h1) fun b h2 => obnd (s1 a b h2) fun z h3 => match z with
  | .dat (.bool true) => obnd (k ρ h3) fun d h4 => s2 b d h4
  | .dat (.bool false) => bok false h3
  | _ => none
theorem chain_imp {r1 r2 : R2} {s1 s2 : W → W → Hh → Option (W × Hh)} {f g k : EM} (hs1 : Sem2 r1 s1) (hs2 : Sem2 r2 s2) : ∀ σ H Q, tE (fChain s1 s2 f g k) σ H Q → tChain r1 r2 (tE f) (tE g) (tE k) σ H Q := fun σ H Q => by
  rintro ⟨M, h, ρ, r, rs, c⟩
  obtain ⟨w, h1, e1, c1⟩ := Cont.bind (δ := Unit) c
  refine ⟨M, h, ρ, r, rs, w, h1, e1, fun M1 H1 v x1 r1 v1 => ⟨M1, h1, ρ, r1, rs.mono x1, ?_⟩⟩
  obtain ⟨w2, h2, e2, c2⟩ := Cont.bind (δ := Unit) (c1 M1 H1 x1)
  refine ⟨w2, h2, e2, fun M2 H2 v2 x2 r2 q2 => hs1 M2 H2 h2 _ _ w w2 _ r2 (v1.mono x2) q2 ?_⟩
  obtain ⟨w3, h3, e3, c3⟩ := Cont.bind (δ := Unit) (c2 M2 H2 x2)
  refine ⟨w3, h3, e3, fun M3 H3 v3 x3 r3 q3 => ?_⟩
  have c4 := c3 M3 H3 x3
  split at c4
  · cases q3
    refine ⟨true, rfl, iteT ⟨M3, h3, ρ, r3, ((rs.mono x1).mono x2).mono x3, ?_⟩⟩
    obtain ⟨w5, h5, e5, c5⟩ := Cont.bind (δ := Unit) c4
    exact ⟨w5, h5, e5, fun M5 H5 v5 x5 r5 q5 => hs2 M5 H5 h5 _ _ w2 w5 _ r5 ((q2.mono x3).mono x5) q5 (c5 M5 H5 x5)⟩
  · cases q3
    exact ⟨false, rfl, iteF (c4.here r3 (.bl _))⟩
  · exact c4.no.elim
theorem t_chain {a b c : Expr} {op op' : CmpOp} {pos : Pos} {r1 r2 : R2} {s1 s2 : W → W → Hh → Option (W × Hh)} {f g k : EM} (h1 : OpR X (compareOp op) r1) (hs1 : Sem2 r1 s1) (h2 : OpR X (compareOp op') r2) (hs2 : Sem2 r2 s2) (ha : DE X a f) (hb : DE X b g) (hc : DE X c k)
    (hm : lastMarks [op, op'] [b, c] = false := by with_unfolding_all rfl) : DT X (.Compare a [op, op'] [b, c] pos) (fB (fChain s1 s2 f g k)) := (pt_chain h1 h2 ha hb hc hm).weak fun σ H Q q => by
    obtain ⟨M, h, ρ, r, rs, c⟩ := q
    obtain ⟨w, h1, e1, c1⟩ := Cont.bind (δ := Unit) c
    refine chain_imp hs1 hs2 σ H _ ⟨M, h, ρ, r, rs, w, h1, e1, fun M1 H1 v x1 r1 v1 => ?_⟩
    have c2 := c1 M1 H1 x1
    split at c2
    · cases v1; exact ⟨_, rfl, c2.fin (.refl _ _) r1 rfl⟩
    · exact c2.no.elim
end
end DL
set_option maxRecDepth 100000
set_option maxHeartbeats 4000000
namespace DL
open PySem PySem.Spec PyProof.Rows L2
def dKey : D → Option Key
  | .int i => some (.inl i)
  | .str s => some (.inr s)
  | _ => none
def dKeys : List D → Option (List Key)
  | [] => some []
  | d :: ds => match dKey d, dKeys ds with
    | some k, some ks => some (k :: ks)
    | _, _ => none
def tKey : D → Option (List Key)
  | .tuple ds => dKeys ds
  | _ => none
def getK (es : List (D × D)) (k : Key) : Option D := (es.find? fun e => decide (dKey e.1 = some k)).map (·.2)
def getT (es : List (D × D)) (k : List Key) : Option D := (es.find? fun e => decide (tKey e.1 = some k)).map (·.2)
def isT : List (D × D) → Bool
  | (.none, .none) :: _ => true
  | _ => false
def getD (es : List (D × D)) (k : D) : Option (Option D) := if isT es = true then none else (dKey k).map (getK es)
theorem dKey_kP (k : Key) : dKey (kP k) = some k := by cases k <;> rfl
theorem dKeys_kP : ∀ ks : List Key, dKeys (ks.map kP) = some ks
  | [] => rfl
  | k :: ks => by simp only [List.map_cons, dKeys, dKey_kP, dKeys_kP ks]
theorem kP_dKey {d : D} {k : Key} (e : dKey d = some k) : d = kP k := by
  cases d <;> simp only [dKey, Option.some.injEq, reduceCtorEq] at e <;> subst e <;> rfl
section
variable {M : Mm} {H : Hp}
theorem rd_kP {v : V} {k : Key} (r : RD M H v (kP k)) : v = kV k := by
  cases k <;> (cases r; rfl)
def RDo (M : Mm) (H : Hp) : Option V → Option D → Prop
  | some v, some d => RD M H v d
  | none, none => True
  | _, _ => False
theorem RDk.val (k : Key) : ∀ {kvs : List (Key × V)} {es : List (D × D)}, RDk M H kvs es → RDo M H (valV kvs k) (getK es k)
  | _, _, .nil => trivial
  | _, _, .cons (k := j) r t => by
    by_cases e : j = k
    · subst e
      rw [valV_pos rfl]
      unfold getK
      simp only [List.find?_cons, dKey_kP, decide_true, Option.map_some]
      exact r
    · rw [valV_neg e]
      have ih := RDk.val k t
      unfold getK at ih ⊢
      simp only [List.find?_cons, dKey_kP, Option.some.injEq, e, decide_false]
      exact ih
theorem RDt.val (k : List Key) : ∀ {kvs : List (List Key × V)} {es : List (D × D)}, RDt M H kvs es → RDo M H (valV kvs k) (getT es k)
  | _, _, .nil => trivial
  | _, _, .cons (k := j) r t => by
    by_cases e : j = k
    · subst e
      rw [valV_pos rfl]
      unfold getT
      simp only [List.find?_cons, tKey, dKeys_kP, decide_true, Option.map_some]
      exact r
    · rw [valV_neg e]
      have ih := RDt.val k t
      unfold getT at ih ⊢
      simp only [List.find?_cons, tKey, dKeys_kP, Option.some.injEq, e, decide_false]
      exact ih
theorem isT_rdk : ∀ {kvs : List (Key × V)} {es : List (D × D)}, RDk M H kvs es → isT es = false
  | _, _, .nil => rfl
  | _, _, .cons (k := k) r t => by cases k <;> rfl
theorem get_ok {x y : V} {es : List (D × D)} {k : D} {o : Option D} (rx : RR M H x (.dict es)) (ry : RD M H y k) (e : getD es k = some o) : ∃ a ov, x = .ref a ∧ DGet H a y ov ∧ RDo M H ov o := by
  rcases rx with ⟨a, kvs, rfl, ha, r⟩ | ⟨a, kvs, es', rfl, rfl, ha, r⟩
  · unfold getD at e
    rw [isT_rdk r] at e
    simp only [Bool.false_eq_true, if_false, Option.map_eq_some_iff] at e
    obtain ⟨k', e1, e2⟩ := e
    have := kP_dKey e1
    subst this
    rw [rd_kP ry]
    exact ⟨a, _, rfl, DGet.k ha, e2 ▸ r.val k'⟩
  · unfold getD at e
    simp [isT] at e
end
def idxW (x y : W) (h : Hh) : Option (W × Hh) := match x, y with
  | .scr ns, .dat (.int i) => match atI ns i with
    | some n => ok (.int n) h
    | none => none
  | x, .dat k => match deref h x, k with
    | some (.list ds), .int i => match atI ds i with
      | some d => ok d h
      | none => none
    | some (.tuple ds), .int i => match atI ds i with
      | some d => ok d h
      | none => none
    | some (.str z), .int i => if z.length ≤ sizeLine then match atI z.cps.toList i with
        | some c => ok (.str ⟨#[c]⟩) h
        | none => none
      else none
    | some (.dict es), k => match getD es k with
      | some (some d) => ok d h
      | _ => none
    | _, _ => none
  | _, _ => none
section
variable {X : Cx}
def rIxDict : R2 := fun x y H Q => ∃ a v, x = .ref a ∧ DGet H a y (some v) ∧ Q v H
theorem ix_dict (hu : X.A.units + 1 < cLine) : IxR X rIxDict := by
  intro value slice pins s σ H x y v u Q I rx ry q hs
  obtain ⟨a, z, rfl, g, q⟩ := q
  obtain rfl : v = Value.ref a := rx
  have tis := dict_typeIs I g
  unfold subscriptTail
  refine wpAny_bind ?_
  rw [getitemInPython_of_ne tis.not_modules]
  refine wpAny_bind (wpAny_specialOf tis F.slot_dict_getitem.lookup ?_)
  have gi := d_getItem (A := X.A) (E := X.xe) hu I g ry fun w' s3 I3 rw' => (⟨z, H, I3, rw', q⟩ : EP X pins σ Q w' s3)
  have done : wpAny (model X.prog X.w) X.A (subscripted slice false (.ref a) u) (fun r s₃ => wpAny (model X.prog X.w) X.A (letTemporaryGo value (.ref a) r >>= fun _ => pure r) (EP X pins σ Q) X.xe s₃) X.xe s := by
    rw [hs]; exact wpAny_operating (wpAny_mono gi (fun r s₃ k => wpAny_bind (wpAny_letTemporaryGo (wpAny_pure k))) fun _ _ k => k)
  first | exact wpAny_pure (wpAny_bind done) | exact wpAny_bind (wpAny_pure (wpAny_bind done)) | exact wpAny_bind done
theorem scr_atI {ns : List Int} {i : Int} {n : Int} (e : atI ns i = some n) : atI (ns.map V.int) i = some (.int n) := by
  unfold atI at e ⊢
  rw [List.length_map]
  cases q : ixN ns.length i with
  | none => rw [q] at e; cases e
  | some j => rw [q] at e; simp only [Option.bind_some] at e ⊢; rw [List.getElem?_map, e]; rfl
theorem s_idx : Sem2 (fun x y H Q => rIx X.K x y H Q ∨ rIxDict x y H Q) idxW := by
  intro M H h x y wx wy Q rep rx ry c
  unfold idxW at c
  split at c
  · rename_i ns i
    obtain ⟨a, o, rfl, _, ha⟩ := rx
    cases (show RD M H _ _ from ry)
    split at c
    · rename_i n e
      exact .inl (.inl ⟨a, _, i, _, rfl, rfl, .inl (.inr ⟨o, ha⟩), scr_atI e, c.here rep (.int _)⟩)
    · exact c.no.elim
  · split at c
    · rename_i ds i e1 hn
      obtain ⟨a, xs, rfl, ha, qa⟩ := deref_rr rep rx e1
      cases (show RD M H _ _ from ry)
      split at c
      · rename_i d e
        obtain ⟨v, ev, rv⟩ := qa.atI e
        exact .inl (.inl ⟨a, _, i, v, rfl, rfl, .of ha, ev, c.here rep rv⟩)
      · exact c.no.elim
    · rename_i ds i e1 hn
      obtain ⟨a, xs, rfl, _, ha, qa⟩ := rr_tup (deref_rr rep rx e1)
      cases (show RD M H _ _ from ry)
      split at c
      · rename_i d e
        obtain ⟨v, ev, rv⟩ := qa.atI e
        exact .inl (.inr (.inl ⟨a, _, i, v, rfl, rfl, ha.sq, ev, c.here rep rv⟩))
      · exact c.no.elim
    · rename_i z i e1 hn
      obtain rfl := rr_str (deref_rr rep rx e1)
      cases (show RD M H _ _ from ry)
      split at c
      · rename_i hz
        split at c
        · rename_i d e
          exact .inl (.inr (.inr ⟨z, i, d, rfl, rfl, hz, e, c.here rep (.str _)⟩))
        · exact c.no.elim
      · exact c.no.elim
    · rename_i es e1 hn
      split at c
      · rename_i d e
        obtain ⟨a, ov, rfl, g, ro⟩ := get_ok (deref_rr rep rx e1) ry e
        cases ov with
        | none => exact ro.elim
        | some v => exact .inr ⟨a, v, rfl, g, c.here rep ro⟩
      · exact c.no.elim
    · exact c.no.elim
  · exact c.no.elim
theorem d_idx {k : Nat} (hr : Room k X.A) {a b : Expr} {pos : Pos} {f g : EM} (ha : DE X a f) (hb : DE X b g) (hs : PlainIx b) : DE X (.Subscript a b pos) (f2 idxW f g) :=
  (pe_ix (ix_seq.or (ix_dict (hu_of hr))) ha hb hs).weak (op_imp s_idx)
def cutG {α : Type} (xs : List α) (lo hi : Option Int) : List α := (xs.drop (HT.sIx xs.length 0 lo)).take (HT.sIx xs.length xs.length hi - HT.sIx xs.length 0 lo)
theorem RDs.cut {M : Mm} {H : Hp} {xs : List V} {ds : List D} (r : RDs M H xs ds) (lo hi : Option Int) : RDs M H (cutV xs lo hi) (cutG ds lo hi) := by
  unfold cutV cutG
  rw [r.length]
  exact (r.drop _).take _
def oNone : OM := fun _ h => some (none, h)
def oSome (f : EM) : OM := fun ρ h => obnd (f ρ h) fun w h1 => match w with
  | .dat (.int i) => some (some i, h1)
  | _ => none
abbrev DO (X : Cx) (e : Option Expr) (f : OM) : Prop := PO X e (tO f)
theorem _root_.L2.PO.weak {X : Cx} {e : Option Expr} {t t' : TO} (h : PO X e t) (i : ∀ σ H Q, t' σ H Q → t σ H Q) : PO X e t' := ⟨fun pins s σ H Q I q => h.run pins s σ H Q I (i σ H Q q)⟩
theorem do_none : DO X none oNone := po_none.weak fun σ H Q => by
  rintro ⟨M, h, ρ, r, rs, c⟩
  exact c.fin (.refl _ _) r rfl
theorem do_some {e : Expr} {f : EM} (he : DE X e f) : DO X (some e) (oSome f) := (po_some he).weak fun σ H Q => by
  rintro ⟨M, h, ρ, r, rs, c⟩
  obtain ⟨w, h1, e1, c1⟩ := Cont.bind (δ := Unit) c
  refine ⟨M, h, ρ, r, rs, w, h1, e1, fun M1 H1 v x1 r1 v1 => ?_⟩
  have c2 := c1 M1 H1 x1
  split at c2
  · cases v1; exact ⟨_, rfl, c2.fin (.refl _ _) r1 rfl⟩
  · exact c2.no.elim
def cutW (m : Bool) (x : W) (lo hi : Option Int) (h : Hh) : Option (W × Hh) := match x with
  | .scr ns => mkL m ((cutG ns lo hi).map .int) h
  | x => match deref h x with
    | some (.list ds) => mkL m (cutG ds lo hi) h
    | some (.tuple ds) => ok (.tuple (cutG ds lo hi)) h
    | some (.str z) => if z.length ≤ sizeLine then ok (.str (cutS z lo hi)) h else none
    | _ => none
def fSl (m : Bool) (f : EM) (lo hi : OM) : EM := fun ρ h => obnd (f ρ h) fun w h1 => obnd (lo ρ h1) fun a h2 => obnd (hi ρ h2) fun b h3 => cutW m w a b h3
theorem cut_ints (ns : List Int) (lo hi : Option Int) {M : Mm} {H : Hp} : RDs M H (cutV (ns.map V.int) lo hi) ((cutG ns lo hi).map .int) := by
  have e : cutV (ns.map V.int) lo hi = (cutG ns lo hi).map V.int := by
    unfold cutV cutG
    rw [List.length_map, List.map_take, List.map_drop]
  rw [e]
  generalize cutG ns lo hi = l
  induction l with
  | nil => exact .nil
  | cons a t ih => exact .cons (.int a) ih
theorem cut_whole {α : Type} {xs : List α} {lo hi : Option Int} (e : HT.sIx xs.length 0 lo = 0 ∧ HT.sIx xs.length xs.length hi = xs.length) : cutG xs lo hi = xs := by
  unfold cutG
  rw [e.1, e.2]
  simp
def rSlB (K : PySem.W.Frag) : V → Option Int → Option Int → Hp → VK → Prop := fun x lo hi H Q => ∃ a vs, x = .ref a ∧ SqT K H a vs ∧
  ((HT.sIx vs.length 0 lo = 0 ∧ HT.sIx vs.length vs.length hi = vs.length → Q (.ref a) H) ∧ ∃ bb : Bool, ∀ p o, H p = none → o.dict = none → Q (.ref p) (upd H p (bareO bb o (cutV vs lo hi))))
theorem sl_tupB : SlR X (rSlB X.K) := by
  rintro pins s σ H x v vl vu lo hi sl Q I rx hs pl pu ⟨a, vs, rfl, hx, f1, bb, f2⟩
  by_cases hw : HT.sIx vs.length 0 lo = 0 ∧ HT.sIx vs.length vs.length hi = vs.length
  · exact sl_tupA pins s σ H _ v vl vu lo hi sl Q I rx hs pl pu ⟨a, vs, rfl, hx, f1, fun n => absurd hw n⟩
  · cases rx
    obtain ⟨l, r, ht, hz⟩ := I.tuple hx
    have hn : l.toArray.size = vs.length := by rw [List.size_toArray, r.length]
    refine ⟨"tuple", _, PyProof.Rows.slot_tuple_getitem.lookup, ht.typeIs, HT.getItem_tuple_cut ht hs pl pu (by rwa [hn]) ?_ (by rwa [hn])⟩
    rw [hn]
    exact ⟨.ref s.heap.objs.size, _, I.laid (t' := s.toks) (o := bareO bb _ (cutV vs lo hi)) (fun _ _ q => Heap.get?_push_of_some _ q) (Nat.le_refl _)
      (bare_ok bb (Heap.get?_push_size _ rfl) fun G => ⟨Nat.le_trans (cutV_length vs lo hi) hz, _, (r.drop _).take _, IsTup.new _ _⟩), rfl, f2 _ _ (I.hok.fresh (Nat.le_refl _)) rfl⟩
theorem d_slice (m : Bool) {a : Expr} {lo hi : Option Expr} {p2 pos : Pos} {f : EM} {fl fh : OM} (ha : DE X a f) (hl : DO X lo fl) (hh : DO X hi fh) : DE X (.Subscript a (.Slice lo hi none p2) pos) (fSl m f fl fh) :=
  (pe_slice (sl_list.or (sl_tupB.or sl_str)) ha hl hh).weak fun σ H Q => by
    rintro ⟨M, h, ρ, r, rs, c⟩
    obtain ⟨w, h1, e1, c1⟩ := Cont.bind (δ := Unit) c
    refine ⟨M, h, ρ, r, rs, w, h1, e1, fun M1 H1 v x1 r1 v1 => ⟨M1, h1, ρ, r1, rs.mono x1, ?_⟩⟩
    obtain ⟨w2, h2, e2, c2⟩ := Cont.bind (δ := Unit) (c1 M1 H1 x1)
    refine ⟨w2, h2, e2, fun M2 H2 v2 x2 r2 q2 => ⟨M2, h2, ρ, r2, (rs.mono x1).mono x2, ?_⟩⟩
    subst q2
    obtain ⟨w3, h3, e3, c3⟩ := Cont.bind (δ := Unit) (c2 M2 H2 x2)
    refine ⟨w3, h3, e3, fun M3 H3 v3 x3 r3 q3 => ?_⟩
    subst q3
    have c4 := c3 M3 H3 x3
    have v3' := (v1.mono x2).mono x3
    unfold cutW at c4
    split at c4
    · obtain ⟨b, o, rfl, _, hb⟩ := v3'
      exact .inl ⟨b, _, rfl, .inl (.inr ⟨o, hb⟩), fun p np => mkL_fin r3 np (cut_ints _ _ _) c4⟩
    · split at c4
      · rename_i ds e4
        obtain ⟨b, xs, rfl, hb, qb⟩ := deref_rr r3 v3' e4
        exact .inl ⟨b, xs, rfl, .of hb, fun p np => mkL_fin r3 np (qb.cut _ _) c4⟩
      · rename_i ds e4
        obtain ⟨b, xs, rfl, nb, hb, qb⟩ := rr_tup (deref_rr r3 v3' e4)
        refine .inr (.inl ⟨b, xs, rfl, hb.sq, fun e => ?_, _, fun p o np ho => mkB_fin r3 np (qb.cut _ _) ho c4⟩)
        rw [qb.length] at e
        rw [cut_whole e] at c4
        exact c4.here r3 (.tup nb hb qb)
      · rename_i z e4
        obtain rfl := rr_str (deref_rr r3 v3' e4)
        split at c4
        · rename_i hz
          exact .inr (.inr ⟨z, rfl, hz, c4.here r3 (.str _)⟩)
        · exact c4.no.elim
      · exact c4.no.elim
def dats : List W → Option (List D)
  | [] => some []
  | .dat d :: ws => (dats ws).map (d :: ·)
  | _ :: _ => none
@[simp] theorem dats_nil : dats [] = some [] := rfl
@[simp] theorem dats_cons (d : D) (ws : List W) : dats (.dat d :: ws) = (dats ws).map (d :: ·) := rfl
theorem rvs_dats {M : Mm} {H : Hp} : ∀ {vs : List V} {ws : List W} {ds : List D}, RVs M H vs ws → dats ws = some ds → RDs M H vs ds
  | _, _, _, .nil, e => by cases e; exact .nil
  | _, .dat d :: ws, _, .cons a t, e => by
    simp only [dats_cons, Option.map_eq_some_iff] at e
    obtain ⟨ds', e1, rfl⟩ := e
    exact .cons a (rvs_dats t e1)
  | _, .ref n :: ws, _, .cons a t, e => by cases e
  | _, .scr n :: ws, _, .cons a t, e => by cases e
  | _, .pack n :: ws, _, .cons a t, e => by cases e
  | _, .lock n :: ws, _, .cons a t, e => by cases e
  | _, .ins C fs :: ws, _, .cons a t, e => by cases e
  | _, .exc k C fs :: ws, _, .cons a t, e => by cases e
  | _, .row ds :: ws, _, .cons a t, e => by cases e
def lstW (m : Bool) (ws : List W) (h : Hh) : Option (W × Hh) := match dats ws with
  | some ds => if ds.length ≤ sizeLine then mkL m ds h else none
  | none => none
def tupW (ws : List W) (h : Hh) : Option (W × Hh) := match dats ws with
  | some ds => if ds.length ≤ sizeLine then ok (.tuple ds) h else none
  | none => none
def fA (sem : List W → Hh → Option (W × Hh)) (g : AM) : EM := fun ρ h => obnd (g ρ h) sem
theorem d_lst (m : Bool) {es : List Expr} {pos : Pos} {g : AM} (hg : DA X es g) : DE X (.List es pos) (fA (lstW m) g) := (pe_lst hg).weak fun σ H Q => by
  rintro ⟨M, h, ρ, r, rs, c⟩
  obtain ⟨w, h1, e1, c1⟩ := Cont.bind (δ := Unit) c
  refine ⟨M, h, ρ, r, rs, w, h1, e1, fun M1 H1 v x1 r1 v1 => ?_⟩
  have c2 := c1 M1 H1 x1
  unfold lstW at c2
  split at c2
  · rename_i ds e
    have q := rvs_dats v1 e
    split at c2
    · rename_i hz
      exact ⟨by rw [q.length]; exact hz, fun p np => mkL_fin r1 np q c2⟩
    · exact c2.no.elim
  · exact c2.no.elim
def tTupB (t : TA) : TE := fun σ H Q => t σ H fun xs H1 => xs.length ≤ sizeLine ∧ ∃ b : Bool, ∀ p o, H1 p = none → o.dict = none → Q (.ref p) (upd H1 p (bareO b o xs))
theorem pe_tupB {x1} {es : List Expr} {t : TA} {pos : Pos} (h : PA X es t) : PE X (.Tuple es x1 pos) (tTupB t) := by
  constructor
  intro pins s σ H Q I hq
  apply wpAny_Tuple_spliced
  refine thn (h.run pos pins s σ H _ I hq) fun us s1 ⟨xs, H1, I1, r, z, b, q⟩ => ⟨r.length ▸ z, ?_⟩
  have hn := I1.hok.fresh (Nat.le_refl s1.heap.objs.size)
  exact ⟨.ref s1.heap.objs.size, _, I1.laid (t' := s1.toks) (o := bareO b _ xs) (fun _ _ e => Heap.get?_push_of_some _ e) (Nat.le_refl _) (bare_ok b (Heap.get?_push_size _ rfl) fun G => ⟨z, us, r, IsTup.new _ _⟩), rfl, q _ _ hn rfl⟩
theorem d_tup {x1} {es : List Expr} {pos : Pos} {g : AM} (hg : DA X es g) : DE X (.Tuple es x1 pos) (fA tupW g) := (pe_tupB hg).weak fun σ H Q => by
  rintro ⟨M, h, ρ, r, rs, c⟩
  obtain ⟨w, h1, e1, c1⟩ := Cont.bind (δ := Unit) c
  refine ⟨M, h, ρ, r, rs, w, h1, e1, fun M1 H1 v x1 r1 v1 => ?_⟩
  have c2 := c1 M1 H1 x1
  unfold tupW at c2
  split at c2
  · rename_i ds e
    have q := rvs_dats v1 e
    split at c2
    · rename_i hz
      exact ⟨by rw [q.length]; exact hz, callD ds, fun p o np ho => mkB_fin r1 np q ho c2⟩
    · exact c2.no.elim
  · exact c2.no.elim
end
end DL
set_option maxRecDepth 100000
set_option maxHeartbeats 4000000
namespace DL
open PySem PySem.Spec PyProof.Rows L2
def SemA (r : List V → Hp → VK → Prop) (sem : List W → Hh → Option (W × Hh)) : Prop := ∀ (M : Mm) (H : Hp) (h : Hh) (vs : List V) (ws : List W) (Q : VK), Rep M H h → RVs M H vs ws → Cont RV (sem ws h) M H Q → r vs H Q
theorem call_imp {r : List V → Hp → VK → Prop} {sem : List W → Hh → Option (W × Hh)} {g : AM} (hs : SemA r sem) : ∀ σ H Q, tE (fA sem g) σ H Q → tCB r (tA g) σ H Q := fun σ H Q => by
  rintro ⟨M, h, ρ, r, rs, c⟩
  obtain ⟨w, h1, e1, c1⟩ := Cont.bind (δ := Unit) c
  exact ⟨M, h, ρ, r, rs, w, h1, e1, fun M1 H1 v x1 r1 v1 => hs M1 H1 h1 v w Q r1 v1 (c1 M1 H1 x1)⟩
section
variable {X : Cx}
theorem d_callB {x : Str} {p pos : Pos} {e : Expr} {es : List Expr} {id : String} {r : List V → Hp → VK → Prop} {sem : List W → Hh → Option (W × Hh)} {g : AM} (hc : CallR X (.builtin id) r) (hs : SemA r sem) (hm : X.mg x = none) (hv : bootBuiltins x = some (.builtin id)) (ha : DA X (e :: es) g)
    (hg : Gl X x := by rfl) (hn : x ≠ "__name__" := by decide) (hdb : (x == ("__debug__" : Str)) = false := by decide) (he : starEach (e :: es) X.env = (false, eval e X.env) :: starEach es X.env := by rfl) (hpl : (backTo pos (starEach es X.env)).any (·.1) = false := by rfl) :
    DE X (.Call (.Name x p) (e :: es) [] pos) (fA sem g) := (pe_callB hc hg hm hv ha hn hdb he hpl).weak (call_imp hs)
theorem d_callT {x : Str} {p pos : Pos} {e : Expr} {es : List Expr} {T : String} {r : List V → Hp → VK → Prop} {sem : List W → Hh → Option (W × Hh)} {g : AM} (hc : CallR X (.type T) r) (hs : SemA r sem) (hm : X.mg x = none) (hv : bootBuiltins x = some (.type T)) (ha : DA X (e :: es) g)
    (hg : Gl X x := by rfl) (hn : x ≠ "__name__" := by decide) (hdb : (x == ("__debug__" : Str)) = false := by decide) (he : starEach (e :: es) X.env = (false, eval e X.env) :: starEach es X.env := by rfl) (hpl : (backTo pos (starEach es X.env)).any (·.1) = false := by rfl) :
    DE X (.Call (.Name x p) (e :: es) [] pos) (fA sem g) := (pe_callTy hc hg hm hv ha hn hdb he hpl).weak (call_imp hs)
theorem rvs1 {M : Mm} {H : Hp} {vs : List V} {w : W} (r : RVs M H vs [w]) : ∃ v, vs = [v] ∧ RV M H v w := by
  cases r with
  | cons a t => cases t; exact ⟨_, rfl, a⟩
theorem rvs2 {M : Mm} {H : Hp} {vs : List V} {w u : W} (r : RVs M H vs [w, u]) : ∃ v v', vs = [v, v'] ∧ RV M H v w ∧ RV M H v' u := by
  cases r with
  | cons a t => cases t with
    | cons b t => cases t; exact ⟨_, _, rfl, a, b⟩
def lenW (ws : List W) (h : Hh) : Option (W × Hh) := match ws with
  | [.scr ns] => ok (.int ns.length) h
  | [w] => match deref h w with
    | some (.list ds) => ok (.int ds.length) h
    | some (.tuple ds) => ok (.int ds.length) h
    | some (.str z) => if z.length ≤ sizeLine then ok (.int z.length) h else none
    | some (.dict es) => if isT es = true then none else ok (.int es.length) h
    | _ => none
  | _ => none
theorem RDk.length {M : Mm} {H : Hp} : ∀ {kvs : List (Key × V)} {es : List (D × D)}, RDk M H kvs es → kvs.length = es.length
  | _, _, .nil => rfl
  | _, _, .cons _ r => by rw [List.length_cons, List.length_cons, r.length]
theorem s_len : SemA (fun xs H Q => (∃ x n, xs = [x] ∧ LenV X.K x H n ∧ Q (.int n) H) ∨ ∃ d kvs, xs = [.ref d] ∧ H d = some (.dK kvs) ∧ Q (.int (kvs.length : Nat)) H) lenW := by
  intro M H h vs ws Q rep rv c
  unfold lenW at c
  split at c
  · rename_i ns
    obtain ⟨v, rfl, r⟩ := rvs1 rv
    obtain ⟨a, o, rfl, _, ha⟩ := r
    exact .inl ⟨_, ns.length, rfl, .inl ⟨_, .inl (.inr ⟨o, ha⟩), by simp⟩, c.here rep (.int _)⟩
  · obtain ⟨v, rfl, r⟩ := rvs1 rv
    split at c
    · rename_i ds e
      obtain ⟨a, xs, rfl, ha, q⟩ := deref_rr rep r e
      exact .inl ⟨_, ds.length, rfl, .inl ⟨_, .of ha, q.length.symm⟩, c.here rep (.int _)⟩
    · rename_i ds e
      obtain ⟨a, xs, rfl, _, ha, q⟩ := rr_tup (deref_rr rep r e)
      exact .inl ⟨_, ds.length, rfl, .inr ⟨_, ha.sq, q.length.symm⟩, c.here rep (.int _)⟩
    · rename_i z e
      obtain rfl := rr_str (deref_rr rep r e)
      split at c
      · rename_i hz
        exact .inl ⟨_, z.length, rfl, ⟨hz, rfl⟩, c.here rep (.int _)⟩
      · exact c.no.elim
    · rename_i es e
      split at c
      · exact c.no.elim
      · rename_i ht
        rcases deref_rr rep r e with ⟨a, kvs, rfl, ha, q⟩ | ⟨a, kvs, es', rfl, rfl, ha, q⟩
        · rw [← q.length] at c
          exact .inr ⟨a, kvs, rfl, ha, c.here rep (.int _)⟩
        · exact absurd rfl ht
    · exact c.no.elim
  · exact c.no.elim
theorem d_len (hm : X.mg "len" = none) {p pos : Pos} {e : Expr} {g : AM} (ha : DA X [e] g) (hg : Gl X "len" := by rfl) (he : starEach [e] X.env = (false, eval e X.env) :: starEach [] X.env := by rfl) (hpl : (backTo pos (starEach [] X.env)).any (·.1) = false := by rfl) : DE X (.Call (.Name "len" p) [e] [] pos) (fA lenW g) :=
  d_callB (call_len.or call_lenD) s_len hm boot_len ha hg (by decide) (by decide) he hpl
def absW (ws : List W) (h : Hh) : Option (W × Hh) := match ws with
  | [.dat (.int i)] => ok (.int (if i < 0 then -i else i)) h
  | _ => none
theorem s_abs : SemA (fun xs H Q => ∃ i, xs = [.int i] ∧ Q (.int (if i < 0 then -i else i)) H) absW := by
  intro M H h vs ws Q rep rv c
  unfold absW at c
  split at c
  · obtain ⟨v, rfl, r⟩ := rvs1 rv
    cases (show RD M H _ _ from r)
    exact ⟨_, rfl, c.here rep (.int _)⟩
  · exact c.no.elim
def intC (ws : List W) (h : Hh) : Option (W × Hh) := match ws with
  | [.dat (.int i)] => ok (.int i) h
  | [.dat (.bool b)] => ok (.int (if b = true then 1 else 0)) h
  | _ => none
theorem s_intC : SemA (fun xs H Q => (∃ i, xs = [.int i] ∧ Q (.int i) H) ∨ ∃ k, xs = [.bl k] ∧ Q (.int (if k then 1 else 0)) H) intC := by
  intro M H h vs ws Q rep rv c
  unfold intC at c
  split at c
  · obtain ⟨v, rfl, r⟩ := rvs1 rv
    cases (show RD M H _ _ from r)
    exact .inl ⟨_, rfl, c.here rep (.int _)⟩
  · obtain ⟨v, rfl, r⟩ := rvs1 rv
    cases (show RD M H _ _ from r)
    exact .inr ⟨_, rfl, c.here rep (.int _)⟩
  · exact c.no.elim
def maxW (ws : List W) (h : Hh) : Option (W × Hh) := match ws with
  | [.dat (.int i), .dat (.int j)] => ok (.int (if j > i then j else i)) h
  | _ => none
def minW (ws : List W) (h : Hh) : Option (W × Hh) := match ws with
  | [.dat (.int i), .dat (.int j)] => ok (.int (if j < i then j else i)) h
  | _ => none
theorem s_max : SemA (fun xs H Q => ∃ i j, xs = [.int i, .int j] ∧ Q (.int (if j > i then j else i)) H) maxW := by
  intro M H h vs ws Q rep rv c
  unfold maxW at c
  split at c
  · obtain ⟨v, v', rfl, r, r'⟩ := rvs2 rv
    cases (show RD M H _ _ from r)
    cases (show RD M H _ _ from r')
    exact ⟨_, _, rfl, c.here rep (.int _)⟩
  · exact c.no.elim
def bools : List D → Option (List Bool)
  | [] => some []
  | .bool b :: ds => (bools ds).map (b :: ·)
  | _ :: _ => none
def intsD : List D → Option (List Int)
  | [] => some []
  | .int b :: ds => (intsD ds).map (b :: ·)
  | _ :: _ => none
theorem rds_bools {M : Mm} {H : Hp} : ∀ {vs : List V} {ds : List D} {bs : List Bool}, RDs M H vs ds → bools ds = some bs → vs = bs.map V.bl
  | _, _, _, .nil, e => by cases e; rfl
  | _, .bool b :: ds, _, .cons a t, e => by
    simp only [bools, Option.map_eq_some_iff] at e
    obtain ⟨bs', e1, rfl⟩ := e
    cases a
    rw [List.map_cons, ← rds_bools t e1]
  | _, .none :: ds, _, .cons a t, e => by cases e
  | _, .int _ :: ds, _, .cons a t, e => by cases e
  | _, .str _ :: ds, _, .cons a t, e => by cases e
  | _, .list _ :: ds, _, .cons a t, e => by cases e
  | _, .tuple _ :: ds, _, .cons a t, e => by cases e
  | _, .dict _ :: ds, _, .cons a t, e => by cases e
theorem rds_ints {M : Mm} {H : Hp} : ∀ {vs : List V} {ds : List D} {bs : List Int}, RDs M H vs ds → intsD ds = some bs → vs = bs.map V.int
  | _, _, _, .nil, e => by cases e; rfl
  | _, .int b :: ds, _, .cons a t, e => by
    simp only [intsD, Option.map_eq_some_iff] at e
    obtain ⟨bs', e1, rfl⟩ := e
    cases a
    rw [List.map_cons, ← rds_ints t e1]
  | _, .none :: ds, _, .cons a t, e => by cases e
  | _, .bool _ :: ds, _, .cons a t, e => by cases e
  | _, .str _ :: ds, _, .cons a t, e => by cases e
  | _, .list _ :: ds, _, .cons a t, e => by cases e
  | _, .tuple _ :: ds, _, .cons a t, e => by cases e
  | _, .dict _ :: ds, _, .cons a t, e => by cases e
def lW {α : Type} (cv : List D → Option (List α)) (k : List α → D) (ws : List W) (h : Hh) : Option (W × Hh) := match ws with
  | [w] => match deref h w with
    | some (.list ds) => match cv ds with
      | some bs => ok (k bs) h
      | none => none
    | _ => none
  | _ => none
def allW := lW bools fun bs => .bool (bs.all id)
def anyW := lW bools fun bs => .bool (bs.any id)
def sumW := lW intsD fun bs => .int bs.sum
theorem s_lW {α : Type} {cv : List D → Option (List α)} {k : List α → D} {kv : List α → V} {em : α → V} (h1 : ∀ {M : Mm} {H : Hp} {vs : List V} {ds : List D} {bs : List α}, RDs M H vs ds → cv ds = some bs → vs = bs.map em) (h2 : ∀ M H bs, RD M H (kv bs) (k bs)) :
    SemA (fun vs H Q => ∃ (a : Addr) (bs : List α), vs = [V.ref a] ∧ SqL X.K H a (bs.map em) ∧ Q (kv bs) H) (lW cv k) := by
  intro M H h vs ws Q rep rv c
  unfold lW at c
  split at c
  · obtain ⟨v, rfl, r⟩ := rvs1 rv
    split at c
    · rename_i ds e
      obtain ⟨a, xs, rfl, ha, q⟩ := deref_rr rep r e
      split at c
      · rename_i bs e2
        have e3 := h1 q e2
        subst e3
        exact ⟨a, bs, rfl, .of ha, c.here rep (h2 _ _ _)⟩
      · exact c.no.elim
    · exact c.no.elim
  · exact c.no.elim
theorem s_all : SemA (rAll X.K) allW := s_lW rds_bools fun _ _ _ => .bl _
theorem s_sum : SemA (rSum X.K) sumW := s_lW rds_ints fun _ _ _ => .int _
def tupleW (ws : List W) (h : Hh) : Option (W × Hh) := match ws with
  | [w] => match deref h w with
    | some (.list ds) => ok (.tuple ds) h
    | some (.tuple ds) => ok (.tuple ds) h
    | _ => none
  | _ => none
def rTupB (K : PySem.W.Frag) : List V → Hp → VK → Prop := fun xs H Q => ∃ p ys, xs = [.ref p] ∧ ((SqL K H p ys ∧ ∃ b : Bool, ∀ l o, H l = none → o.dict = none → Q (.ref l) (upd H l (bareO b o ys))) ∨ (SqT K H p ys ∧ Q (.ref p) H))
theorem call_tupB : CallR X (.type "tuple") (rTupB X.K) := by
  intro pins s σ H xs us Q I r h
  obtain ⟨p, ys, rfl, h⟩ := h
  obtain ⟨u, rfl, rx⟩ := vals1 r
  cases rx
  rcases h with ⟨hq, b, q⟩ | ⟨hq, q⟩
  · obtain ⟨its, r', pl, hz⟩ := I.list hq
    have hlen := r'.length
    apply call_tuple_list pl.isList _ (by simp only [List.size_toArray] <;> omega)
    intro h' kp
    have I1 : Inv X pins σ H { s with heap := h' } := I.kept (t' := s.toks) kp
    exact ⟨.ref h'.objs.size, _, I1.laid (t' := s.toks) (o := bareO b _ ys) (fun _ _ e => Heap.get?_push_of_some _ e) (Nat.le_refl _) (bare_ok b (Heap.get?_push_size _ rfl) fun G => ⟨hz, its, r', IsTup.new _ _⟩), rfl, q _ _ (I1.hok.fresh (Nat.le_refl _)) rfl⟩
  · obtain ⟨its, r', pl, hz⟩ := I.tuple hq
    exact call_tuple_same pl ⟨.ref p, H, I, rfl, q⟩
theorem s_tuple : SemA (rTupB X.K) tupleW := by
  intro M H h vs ws Q rep rv c
  unfold tupleW at c
  split at c
  · obtain ⟨v, rfl, r⟩ := rvs1 rv
    split at c
    · rename_i ds e
      obtain ⟨a, xs, rfl, ha, q⟩ := deref_rr rep r e
      exact ⟨a, xs, rfl, .inl ⟨.of ha, callD ds, fun l o nl ho => mkB_fin rep nl q ho c⟩⟩
    · rename_i ds e
      obtain ⟨a, xs, rfl, na, ha, q⟩ := rr_tup (deref_rr rep r e)
      exact ⟨a, xs, rfl, .inr ⟨ha.sq, c.here rep (.tup na ha q)⟩⟩
    · exact c.no.elim
  · exact c.no.elim
def listW (m : Bool) (ws : List W) (h : Hh) : Option (W × Hh) := match ws with
  | [w] => match deref h w with
    | some (.list ds) => mkL m ds h
    | some (.tuple ds) => mkL m ds h
    | _ => none
  | _ => none
theorem s_list (m : Bool) : SemA (fun xs H Q => ∃ p ys, xs = [.ref p] ∧ (SqL X.K H p ys ∨ SqT X.K H p ys) ∧ ∀ l, H l = none → Q (.ref l) (upd H l (.lst ys))) (listW m) := by
  intro M H h vs ws Q rep rv c
  unfold listW at c
  split at c
  · obtain ⟨v, rfl, r⟩ := rvs1 rv
    split at c
    · rename_i ds e
      obtain ⟨a, xs, rfl, ha, q⟩ := deref_rr rep r e
      exact ⟨a, xs, rfl, .inl (.of ha), fun l nl => mkL_fin rep nl q c⟩
    · rename_i ds e
      obtain ⟨a, xs, rfl, na, ha, q⟩ := rr_tup (deref_rr rep r e)
      exact ⟨a, xs, rfl, .inr ha.sq, fun l nl => mkL_fin rep nl q c⟩
    · exact c.no.elim
  · exact c.no.elim
def putK' (es : List (D × D)) (k : Key) (v : D) : List (D × D) := if (getK es k).isSome = true then es.map (fun e => if dKey e.1 = some k then (e.1, v) else e) else es ++ [(kP k, v)]
def pairsK : List D → Option (List (Key × D))
  | [] => some []
  | .tuple [k, v] :: ds => match dKey k, pairsK ds with
    | some k, some r => some ((k, v) :: r)
    | _, _ => none
  | _ :: _ => none
def mergeD (es : List (D × D)) (ps : List (Key × D)) : List (D × D) := ps.foldl (fun acc p => putK' acc p.1 p.2) es
section
variable {M : Mm} {H : Hp}
theorem RDo.some_iff {o : Option V} {p : Option D} (r : RDo M H o p) : o.isSome = p.isSome := by
  cases o <;> cases p <;> first | rfl | exact r.elim
theorem RDk.snoc {k : Key} {v : V} {d : D} (q : RD M H v d) : ∀ {kvs : List (Key × V)} {es : List (D × D)}, RDk M H kvs es → RDk M H (kvs ++ [(k, v)]) (es ++ [(kP k, d)])
  | _, _, .nil => .cons q .nil
  | _, _, .cons a t => .cons a (RDk.snoc q t)
theorem RDk.repl {k : Key} {v : V} {d : D} (q : RD M H v d) : ∀ {kvs : List (Key × V)} {es : List (D × D)}, RDk M H kvs es → RDk M H (kvs.map fun kv => if kv.1 = k then (kv.1, v) else kv) (es.map fun e => if dKey e.1 = some k then (e.1, d) else e)
  | _, _, .nil => .nil
  | _, _, .cons (k := j) a t => by
    simp only [List.map_cons, dKey_kP, Option.some.injEq]
    by_cases e : j = k
    · rw [if_pos e, if_pos e]; exact .cons q (RDk.repl q t)
    · rw [if_neg e, if_neg e]; exact .cons a (RDk.repl q t)
theorem RDk.put {kvs : List (Key × V)} {es : List (D × D)} (r : RDk M H kvs es) (k : Key) {v : V} {d : D} (q : RD M H v d) : RDk M H (putK kvs k v) (putK' es k d) := by
  unfold putK putK'
  rw [valV_any, (r.val k).some_iff]
  split
  · exact r.repl q
  · exact r.snoc q
theorem RDk.merge : ∀ {ps : List (Key × V)} {qs : List (Key × D)} {kvs : List (Key × V)} {es : List (D × D)}, Paired (fun p q => p.1 = q.1 ∧ RD M H p.2 q.2) ps qs → RDk M H kvs es → RDk M H (mergeK kvs ps) (mergeD es qs)
  | _, _, _, _, .nil, r => r
  | (k, v) :: ps, (k', d) :: qs, kvs, es, .cons ⟨e, q⟩ t, r => by
    have e' : k = k' := e
    subst e'
    show RDk M H (mergeK (putK kvs k v) ps) (mergeD (putK' es k d) qs)
    exact RDk.merge t (r.put k q)
theorem pairs_ok : ∀ {xs : List V} {ds : List D} {qs : List (Key × D)}, RDs M H xs ds → pairsK ds = some qs → ∃ (ps : List Addr) (kvs : List (Key × V)), xs = ps.map V.ref ∧ Paired (fun p kv => Rd H p (.tup [kV kv.1, kv.2])) ps kvs ∧ Paired (fun (p : Key × V) (q : Key × D) => p.1 = q.1 ∧ RD M H p.2 q.2) kvs qs
  | _, [], _, r, e => by
    cases e; cases r
    exact ⟨[], [], rfl, .nil, .nil⟩
  | _, d :: ds, qs, r, e => by
    unfold pairsK at e
    split at e
    · cases e
      rename_i h1
      cases h1
    · rename_i k v ds' h0
      cases h0
      split at e
      · rename_i k' r' e1 e2
        cases e
        cases r with
        | cons a t =>
          obtain ⟨ps, kvs, hx, h1, h2⟩ := pairs_ok t e2
          have := kP_dKey e1
          subst this
          cases a with
          | tup n ha ra =>
            cases ra with
            | cons rk rr =>
              cases rr with
              | cons rv rr =>
                cases rr
                have ha := ha.rd
                rw [rd_kP rk] at ha
                exact ⟨_ :: ps, (k', _) :: kvs, by rw [hx]; rfl, .cons ha h1, .cons ⟨rfl, rv⟩ h2⟩
      · cases e
    · cases e
end
def mkK (m : Bool) (es : List (D × D)) (h : Hh) : Option (W × Hh) := if m = true then some (.ref h.length, h ++ [some (.dic es)]) else some (.dat (.dict es), h)
theorem mkK_fin {m : Bool} {es : List (D × D)} {h : Hh} {M : Mm} {H : Hp} {Q : VK} {p : Addr} {kvs : List (Key × V)} (rep : Rep M H h) (n : H p = none) (r : RDk M H kvs es) (c : Cont RV (mkK m es h) M H Q) : Q (.ref p) (upd H p (.dK kvs)) := by
  cases m with
  | false => exact c.fin (ext_new n) (rep.upd_new n) (RD.dic (rep.new n) upd_same (r.mono (ext_new n).ext))
  | true => exact c.fin (ext_add n) (rep.add n ⟨kvs, upd_same, r.mono (ext_add n).ext⟩) ⟨p, by simp [Mm.more, ← rep.len], rfl⟩
def dictW (m : Bool) (ws : List W) (h : Hh) : Option (W × Hh) := match ws with
  | [w] => match deref h w with
    | some (.list ds) => match pairsK ds with
      | some qs => mkK m (mergeD [] qs) h
      | none => none
    | some (.dict es) => if isT es = true then none else mkK m es h
    | _ => none
  | _ => none
section
variable {X : Cx}
theorem s_dict (m : Bool) : SemA (fun xs H Q => (∃ (a : Addr) (ps : List Addr) (kvs : List (Key × V)), xs = [.ref a] ∧ SqL X.K H a (ps.map V.ref) ∧ Paired (fun p kv => SqT X.K H p [kV kv.1, kv.2]) ps kvs ∧
    ∀ p, H p = none → Q (.ref p) (upd H p (.dK (mergeK [] kvs)))) ∨ ∃ (a : Addr) (kvs : List (Key × V)), xs = [.ref a] ∧ Rd H a (.dK kvs) ∧ ∀ p, H p = none → Q (.ref p) (upd H p (.dK kvs))) (dictW m) := by
  intro M H h vs ws Q rep rv c
  unfold dictW at c
  split at c
  · obtain ⟨v, rfl, r⟩ := rvs1 rv
    split at c
    · rename_i ds e
      obtain ⟨a, xs, rfl, ha, q⟩ := deref_rr rep r e
      split at c
      · rename_i qs e2
        obtain ⟨ps, kvs, rfl, h1, h2⟩ := pairs_ok q e2
        exact .inl ⟨a, ps, kvs, rfl, .of ha, Paired.mapP h1 fun _ _ z => .inl z, fun p np => mkK_fin rep np (RDk.merge h2 .nil) c⟩
      · exact c.no.elim
    · rename_i es e
      split at c
      · exact c.no.elim
      · rename_i ht
        rcases deref_rr rep r e with ⟨a, kvs, rfl, ha, q⟩ | ⟨a, kvs, es', rfl, rfl, ha, q⟩
        · exact .inr ⟨a, kvs, rfl, .of ha, fun p np => mkK_fin rep np q c⟩
        · exact absurd rfl ht
    · exact c.no.elim
  · exact c.no.elim
def tyN : D → String
  | .none => "NoneType"
  | .bool _ => "bool"
  | .int _ => "int"
  | .str _ => "str"
  | .list _ => "list"
  | .tuple _ => "tuple"
  | .dict _ => "dict"
def isN (n t : String) : Bool := decide (n = t) || (decide (n = "bool") && decide (t = "int"))
def isT1 (t : String) (d : D) : Bool := isN (tyN d) t
theorem kitN : ∀ n ∈ ["NoneType", "bool", "int", "str", "list", "tuple", "dict"], ∀ t ∈ ["bool", "int", "str", "list", "tuple", "dict"], kitB n t = some (isN n t) := by decide +kernel
theorem rr_ty {K : PySem.W.Frag} {M : Mm} {H : Hp} {v : V} : ∀ {d : D}, (∀ es, d = .dict ((.none, .none) :: es) → False) → RR M H v d → TyX K H v (.type (tyN d))
  | .none, _, r => by rw [rr_non r]; exact .base .non
  | .bool b, _, r => by rw [rr_bl r]; exact .base (.bl b)
  | .int b, _, r => by rw [rr_int r]; exact .base (.int b)
  | .str b, _, r => by rw [rr_str r]; exact .base (.str b)
  | .list b, _, ⟨a, xs, e, h, _⟩ => by rw [e]; exact .base (.lst h)
  | .tuple b, _, r => by
    obtain ⟨a, xs, e, _, h, _⟩ := rr_tup r
    rw [e]
    rcases h with ⟨_, h⟩ | ⟨_, o, _, h⟩
    · exact .base (.tup h)
    · exact .fTuple h
  | .dict b, _, .inl ⟨a, xs, e, h, _⟩ => by rw [e]; exact .base (.dK h)
  | .dict b, n0, .inr ⟨a, xs, es, e0, e, h, _⟩ => by subst e0; exact (n0 _ rfl).elim
theorem kit1 (t : String) (ht : t = "int" ∨ t = "bool" ∨ t = "str" ∨ t = "list" ∨ t = "tuple" ∨ t = "dict") (d : D) : kitB (tyN d) t = some (isT1 t d) := by
  refine kitN (tyN d) ?_ t ?_
  · cases d <;> simp [tyN]
  · rcases ht with rfl | rfl | rfl | rfl | rfl | rfl <;> simp
def isiW (ts : List String) (w : W) (h : Hh) : Option (W × Hh) := match deref h w with
  | some (.dict ((.none, .none) :: _)) => none
  | some d => bok (ts.any fun t => isT1 t d) h
  | none => none
def f1 (sem : W → Hh → Option (W × Hh)) (f : EM) : EM := fun ρ h => obnd (f ρ h) sem
theorem d_isi (hm : X.mg "isinstance" = none) {t : Str} {T : String} (hmt : X.mg t = none) (hv : bootBuiltins t = some (.type T)) (ht : T = "int" ∨ T = "bool" ∨ T = "str" ∨ T = "list" ∨ T = "tuple" ∨ T = "dict") {p pt pos : Pos} {e : Expr} {f : EM} (he : DE X e f)
    (hg : Gl X "isinstance" := by rfl) (hgt : Gl X t := by rfl) (hnt : t ≠ "__name__" := by decide) (hdt : (t == ("__debug__" : Str)) = false := by decide)
    (h1 : starEach [e, .Name t pt] X.env = (false, eval e X.env) :: starEach [.Name t pt] X.env := by rfl) (h2 : starEach [.Name t pt] X.env = (false, eval (.Name t pt) X.env) :: starEach [] X.env := by rfl)
    (hpl : (backTo pos (starEach [.Name t pt] X.env)).any (·.1) = false := by rfl) : DE X (.Call (.Name "isinstance" p) [e, .Name t pt] [] pos) (f1 (isiW [T]) f) :=
  (pe_callB call_isi hg hm boot_isinstance (pa_cons he (pa_cons (pe_bltn (v := .ty T) hgt hmt hv rfl hnt hdt) pa_nil h2) h1) (by decide) (by decide) h1 hpl).weak fun σ H Q => by
    rintro ⟨M, h, ρ, r, rs, c⟩
    obtain ⟨w, h1, e1, c1⟩ := Cont.bind (δ := Unit) c
    refine ⟨M, h, ρ, r, rs, w, h1, e1, fun M1 H1 v x1 r1 v1 => ?_⟩
    have c2 := c1 M1 H1 x1
    unfold isiW at c2
    split at c2
    · exact c2.no.elim
    · rename_i d n0 e
      have q := c2.here r1 (.bl _)
      refine ⟨v, .ty T, _, _, _, rfl, .ty T, (rr_ty n0 (deref_rr r1 v1 e)), kit_ty (kit1 T ht d), ?_⟩
      simpa using q
    · exact c2.no.elim
theorem d_isi2 (hm : X.mg "isinstance" = none) {t t' : Str} {T T' : String} (hmt : X.mg t = none) (hv : bootBuiltins t = some (.type T)) (ht : T = "int" ∨ T = "bool" ∨ T = "str" ∨ T = "list" ∨ T = "tuple" ∨ T = "dict") (hmt' : X.mg t' = none) (hv' : bootBuiltins t' = some (.type T')) (ht' : T' = "int" ∨ T' = "bool" ∨ T' = "str" ∨ T' = "list" ∨ T' = "tuple" ∨ T' = "dict") {p pt pt' ptt pos : Pos} {kt} {e : Expr} {f : EM} (he : DE X e f)
    (hg : Gl X "isinstance" := by rfl) (hgt : Gl X t := by rfl) (hnt : t ≠ "__name__" := by decide) (hdt : (t == ("__debug__" : Str)) = false := by decide) (hgt' : Gl X t' := by rfl) (hnt' : t' ≠ "__name__" := by decide) (hdt' : (t' == ("__debug__" : Str)) = false := by decide)
    (h1 : starEach [e, .Tuple [.Name t pt, .Name t' pt'] kt ptt] X.env = (false, eval e X.env) :: starEach [.Tuple [.Name t pt, .Name t' pt'] kt ptt] X.env := by rfl)
    (h2 : starEach [.Tuple [.Name t pt, .Name t' pt'] kt ptt] X.env = (false, eval (.Tuple [.Name t pt, .Name t' pt'] kt ptt) X.env) :: starEach [] X.env := by rfl)
    (h3 : starEach [.Name t pt, .Name t' pt'] X.env = (false, eval (.Name t pt) X.env) :: starEach [.Name t' pt'] X.env := by rfl) (h4 : starEach [.Name t' pt'] X.env = (false, eval (.Name t' pt') X.env) :: starEach [] X.env := by rfl)
    (hpl : (backTo pos (starEach [.Tuple [.Name t pt, .Name t' pt'] kt ptt] X.env)).any (·.1) = false := by rfl) : DE X (.Call (.Name "isinstance" p) [e, .Tuple [.Name t pt, .Name t' pt'] kt ptt] [] pos) (f1 (isiW [T, T']) f) :=
  (pe_callB call_isiT hg hm boot_isinstance (pa_cons he (pa_cons (pe_tup (pa_cons (pe_bltn (v := .ty T) hgt hmt hv rfl hnt hdt) (pa_cons (pe_bltn (v := .ty T') hgt' hmt' hv' rfl hnt' hdt') pa_nil h4) h3)) pa_nil h2) h1) (by decide) (by decide) h1 hpl).weak fun σ H Q => by
    rintro ⟨M, h, ρ, r, rs, c⟩
    obtain ⟨w, h1, e1, c1⟩ := Cont.bind (δ := Unit) c
    refine ⟨M, h, ρ, r, rs, w, h1, e1, fun M1 H1 v x1 r1 v1 => ⟨by show 2 ≤ sizeLine; decide, fun tp ntp => ?_⟩⟩
    have c2 := c1 M1 H1 x1
    unfold isiW at c2
    split at c2
    · exact c2.no.elim
    · rename_i d n0 e
      have r2 := r1.upd_new (o := .tup [.ty T, .ty T']) ntp
      have q := c2.fin (v := .bl _) (ext_new ntp) r2 (.bl _)
      refine ⟨v, tp, [.ty T, .ty T'], _, [.type T, .type T'], _, rfl, upd_same, .cons (.ty T) (.cons (.ty T') .nil), (rr_ty n0 (deref_rr r2 (v1.mono (ext_new ntp)) e)), ?_, q⟩
      refine kitAny_cons (kit_ty (kit1 T ht d)) (fun hb => kitAny_cons (r := isT1 T' d) (kit_ty (kit1 T' ht' d)) (fun hb' => by rw [hb']; rfl) (fun hb' => hb') |>.trans ?_) (fun hb => ?_)
      · simp [hb]
      · simp [hb]
    · exact c2.no.elim
end
end
end DL
set_option maxRecDepth 100000
set_option maxHeartbeats 4000000
namespace DL
open PySem PySem.Spec PyProof.Rows L2
def flatD : D → Bool
  | .none => true
  | .bool _ => true
  | .int _ => true
  | .str _ => true
  | _ => false
theorem rd_flat {M : Mm} {H : Hp} {v : V} {d : D} (r : RD M H v d) (f : flatD d = true) : flatV v = true := by
  cases d <;> first | (cases r; rfl) | cases f
theorem rds_flat {M : Mm} {H : Hp} : ∀ {vs : List V} {ds : List D}, RDs M H vs ds → ds.all flatD = true → vs.all flatV = true
  | _, _, .nil, _ => rfl
  | _, _, .cons a t, f => by
    rw [List.all_cons, Bool.and_eq_true] at f
    rw [List.all_cons, rd_flat a f.1, rds_flat t f.2]; rfl
theorem eqV_eqv {M : Mm} {H : Hp} {x y : V} {a b : D} (ra : RD M H x a) (rb : RD M H y b) (fa : flatD a = true) (fb : flatD b = true) : eqV x y = PyData.eqv a b := by
  cases a <;> cases b <;> first | (exfalso; simp [flatD] at fa; done) | (exfalso; simp [flatD] at fb; done) | (cases ra; cases rb; simp [eqV, PyData.eqv])
theorem inV_eq {M : Mm} {H : Hp} {x : V} {d : D} (r : RD M H x d) (f : flatD d = true) : ∀ {vs : List V} {ds : List D}, RDs M H vs ds → ds.all flatD = true → inV x vs = ds.any fun y => PyData.eqv y d
  | _, _, .nil, _ => rfl
  | _, _, .cons a t, q => by
    rw [List.all_cons, Bool.and_eq_true] at q
    have ih := inV_eq r f t q.2
    unfold inV at ih ⊢
    rw [List.any_cons, List.any_cons, ih, eqV_eqv a r q.1 f]
def inW (neg : Bool) (x y : W) (h : Hh) : Option (W × Hh) := match x with
  | .dat d => match deref h y with
    | some (.dict es) => match getD es d with
      | some o => bok (if neg = true then !o.isSome else o.isSome) h
      | none => none
    | some (.list ds) => if (flatD d && ds.all flatD) = true then bok (if neg = true then !ds.any (fun z => PyData.eqv z d) else ds.any fun z => PyData.eqv z d) h
      else if (shp d && shp (.list ds)) = true then bok (if neg = true then !ds.any (fun z => PyData.eqv z d) else ds.any fun z => PyData.eqv z d) h else none
    | some (.tuple ds) => if (flatD d && ds.all flatD) = true then bok (if neg = true then !ds.any (fun z => PyData.eqv z d) else ds.any fun z => PyData.eqv z d) h else none
    | some (.str z) => match d with
      | .str ⟨⟨[c]⟩⟩ => bok (if neg = true then !decide (c ∈ z.cps.toList) else decide (c ∈ z.cps.toList)) h
      | _ => none
    | _ => none
  | _ => none
section
variable {X : Cx}
def rInDict (neg : Bool) : R2 := fun y x H Q => ∃ a o, x = .ref a ∧ DGet H a y o ∧ Q (.bl (if neg = true then !o.isSome else o.isSome)) H
theorem op_notInDict (hu : X.A.units + 1 < cLine) : OpR X (compareOp .NotIn) (rInDict true) := by
  intro pins s σ H x y v u Q I rx ry q
  obtain ⟨a, o, rfl, g, q⟩ := q
  obtain rfl : u = Value.ref a := ry
  exact d_notIn hu I g rx fun s' I' => ⟨.bl _, H, I', rfl, q⟩
def rInA (K : PySem.W.Frag) (neg : Bool) : R2 := fun x y H Q => rIn K neg x y H Q ∨ rInDict neg x y H Q ∨
  (∃ d ds, Dp K H x d ∧ Dp K H y (.list ds) ∧ SeqAt.shaped d = true ∧ SeqAt.shaped (.list ds) = true ∧ Q (.bl (if neg = true then !ds.any (fun z => PyData.eqv z d) else ds.any fun z => PyData.eqv z d)) H) ∨
  ∃ c z, x = .str ⟨#[c]⟩ ∧ y = .str z ∧ Q (.bl (if neg = true then !decide (c ∈ z.cps.toList) else decide (c ∈ z.cps.toList))) H
theorem o_notin {k : Nat} (hr : Room k X.A) : OpR X (compareOp .NotIn) (rInA X.K true) :=
  op_notIn_seq.or ((op_notInDict (hu_of hr)).or ((op_notInD (Nat.lt_of_le_of_lt (Nat.add_le_add_left (by decide) _) (show X.A.units + 200 < cLine by have := hr.un; omega))).or op_notIn_sign))
theorem s_in (neg : Bool) : Sem2 (rInA X.K neg) (inW neg) := by
  intro M H h x y wx wy Q rep rx ry c
  unfold inW at c
  split at c
  · rename_i d
    split at c
    · rename_i es e
      split at c
      · rename_i o eo
        obtain ⟨a, ov, rfl, g, ro⟩ := get_ok (deref_rr rep ry e) rx eo
        refine .inr (.inl ⟨a, ov, rfl, g, ?_⟩)
        rw [ro.some_iff]
        exact c.here rep (.bl _)
      · exact c.no.elim
    · rename_i ds e
      obtain ⟨a, xs, rfl, ha, q⟩ := deref_rr rep ry e
      split at c
      · rename_i hz
        rw [Bool.and_eq_true] at hz
        refine .inl ⟨a, xs, rfl, .inl (.of ha), rd_flat rx hz.1, rds_flat q hz.2, ?_⟩
        rw [inV_eq rx hz.1 q hz.2]
        cases neg <;> exact c.here rep (.bl _)
      · split at c
        · rename_i hz
          rw [Bool.and_eq_true] at hz
          exact .inr (.inr (.inl ⟨d, ds, RD.dp rx (SeqAt.canLay_of_shaped hz.1), rr_dp (deref_rr rep ry e) (SeqAt.canLay_of_shaped hz.2), hz.1, hz.2, c.here rep (.bl _)⟩))
        · exact c.no.elim
    · rename_i ds e
      obtain ⟨a, xs, rfl, _, ha, q⟩ := rr_tup (deref_rr rep ry e)
      split at c
      · rename_i hz
        rw [Bool.and_eq_true] at hz
        refine .inl ⟨a, xs, rfl, .inr ha.sq, rd_flat rx hz.1, rds_flat q hz.2, ?_⟩
        rw [inV_eq rx hz.1 q hz.2]
        cases neg <;> exact c.here rep (.bl _)
      · exact c.no.elim
    · rename_i z e
      obtain rfl := rr_str (deref_rr rep ry e)
      split at c
      · rename_i ch
        cases (show RD M H _ _ from rx)
        exact .inr (.inr (.inr ⟨ch, z, rfl, rfl, c.here rep (.bl _)⟩))
      · exact c.no.elim
    · exact c.no.elim
  · exact c.no.elim
theorem t_notin {k : Nat} (hr : Room k X.A) {a b : Expr} {pos : Pos} {f g : EM} (ha : DE X a f) (hb : DE X b g) (hm : behindInMarks .NotIn b = false := by rfl) : DT X (.Compare a [.NotIn] [b] pos) (fB (f2 (inW true) f g)) := dt_of_cmp (o_notin hr) (s_in true) ha hb hm
theorem collect_grown {prog : Program} {w : World} {A : Around} {E : Value → Shared → Prop} {s : Shared} {Q : List Value → Shared → Prop} (it : Addr) {T : String} {o : Obj} {its : Array Value} {n : Nat} (hT : T = "list" ∨ T = "tuple") (ho : s.heap.get? it = some o) (hc : o.cls = .type T) (hd : o.data = .seq its n) (hsz : its.size ≤ sizeLine)
    (hQ : ∀ h', s.heap.objs.size ≤ h'.objs.size → (∀ b o', s.heap.get? b = some o' → h'.get? b = some o') → Q its.toList { s with heap := h' }) : wpAny (model prog w) A (collect (.ref it)) Q E s := by
  let g0 : Heap := s.heap.push { cls := .type "list", data := .seq ([] : List Value).toArray }
  let g1 : Heap := g0.update s.heap.objs.size (Obj.mapSeq (· ++ its))
  have a0 : g0.get? s.heap.objs.size = some { cls := .type "list", data := .seq #[] 0 } := Heap.get?_push_size _ rfl
  have a1 : g1.get? s.heap.objs.size = _ := Heap.get?_update_self (Obj.mapSeq (· ++ its)) a0 rfl
  have last : wpAny (model prog w) A (match Value.ref s.heap.objs.size with
      | Value.ref a => do
        match (← load a).data with
          | Data.seq xs _ => pure xs.toList
          | _ => unsupported "internal:collect"
      | _ => unsupported "internal:collect") Q E { s with heap := g1 } := by
    show wpAny _ A (load s.heap.objs.size >>= _) _ _ _
    refine wpAny_bind (wpAny_load a1 (wpAny_pure ?_))
    have e : ((#[] : Array Value) ++ its).toList = its.toList := by simp
    show Q ((#[] : Array Value) ++ its).toList _
    rw [e]
    refine hQ g1 ?_ fun b o' hb => (Heap.get?_update_other _ _ (Nat.ne_of_gt (Heap.lt_size hb))).trans (Heap.get?_push_of_some _ hb)
    show _ ≤ (g0.update s.heap.objs.size (Obj.mapSeq (· ++ its))).objs.size
    rw [Heap.size_update, size_push']
    exact Nat.le_succ _
  unfold collect
  refine wpAny_bind (wpAny_runValue (codeAny_builtin F.entry_proto_collect ?_))
  rw [Around.under_plainId F.plain_proto_collect _]
  show wpAny _ A.in1 (newList [] >>= fun l => again (.builtin "list.__iadd__" ⟨[l, .ref it], []⟩)) _ _ s
  refine wpAny_bind (wpAny_newObj_type (wpAny_pure ⟨plainId_quiet F.plain_list_iadd _, codeAny_builtin F.entry_list_iadd ?_⟩))
  rw [Around.under_plainId F.plain_list_iadd _]
  show wpAny _ A.in1 (Builtin.List.listExtendWith (.ref s.heap.objs.size) (.ref it) (.ref s.heap.objs.size)) _ _ _
  refine wpAny_mono (wpAny_extend_seq (hsz := hsz) (A := A) (R := fun r s' => r = .ok (.ret (.ref s.heap.objs.size)) ∧ s' = { s with heap := g1 }) (s := { s with heap := g0 }) _ it _ 0 hT a0 (Heap.get?_push_of_some _ ho) hc hd ⟨rfl, rfl⟩) (fun fin s' q => ?_) fun e s' q => absurd q.1 (by simp)
  cases fin with
  | done f => obtain ⟨e, rfl⟩ := q; cases e; exact last
  | again c' => exact ⟨q.1, codeAny_mono q.2 fun r s2 hr => by obtain ⟨rfl, rfl⟩ := hr; exact last⟩
theorem sorted_any {prog : Program} {w : World} {A : Around} {E : Value → Shared → Prop} {s : Shared} {x : Value} {β : Type} {R : Value → β → Prop} {vs : List Value} {bs : List β} {enc : β → PyData} {Q : Value → Shared → Prop}
    (hcol : ∀ (Q' : List Value → Shared → Prop), (∀ h', s.heap.objs.size ≤ h'.objs.size → (∀ b o, s.heap.get? b = some o → h'.get? b = some o) → Q' vs { s with heap := h' }) → wpAny (model prog w) A.in1 (collect x) Q' E s)
    (e : PySem.W.EachIs R vs bs) (er : PySem.W.EachIs (fun v b => ∃ as, Reads s.heap v (enc b) as) vs bs) (hal : PySem.W.AllAlike (bs.map enc)) (hk : PySem.W.Sortable (bs.map enc)) (hL : bs.length ≤ sizeLine) (hu : ∀ b, b ∈ bs → A.units + 2 + (enc b).depth < cLine)
    (h : ∀ out p c h', (∀ b o, s.heap.get? b = some o → h'.get? b = some o) → s.heap.objs.size ≤ p → h'.get? p = some (seqObj "list" (List.toArray out) c) → PySem.W.EachIs R out (bs.mergeSort (PySem.W.dataLe false enc)) → Q (.ref p) { s with heap := h' }) :
    wpAny (model prog w) A (call (.builtin "sorted") [x]) Q E s := by
  refine call_function_entry_kw kind_sorted plain_sorted entry_sorted (args_sorted1 _) ?_
  have hv : vs.length ≤ sizeLine := by rw [e.length]; exact hL
  unfold Builtin.«sorted»
  refine wpAny_bind (m := checkCount "sorted" 1 1 _) (wpAny_pure (wpAny_bind (hcol _ fun g hg kg => wpAny_bind (wpAny_newList ?_ hv))))
  have at_ : (g.push (seqObj "list" vs.toArray 0)).get? g.objs.size = some (seqObj "list" vs.toArray 0) := Heap.get?_push_size _ rfl
  have up : ∀ b o, s.heap.get? b = some o → b ≠ g.objs.size ∧ (g.push (seqObj "list" vs.toArray 0)).get? b = some o := fun b o q => ⟨Nat.ne_of_lt (Heap.lt_size (kg b o q)), Heap.get?_push_of_some _ (kg b o q)⟩
  have er' : PySem.W.EachIs (fun v b => ∃ as, Reads (PySem.W.sortingHeap (g.push (seqObj "list" vs.toArray 0)) g.objs.size vs) v (enc b) as) vs bs := er.mono fun _ _ ⟨as, r⟩ => ⟨as, PyProof.Rows.Reads.keeps (fun b o q => PySem.W.sortingHeap_old (up b o q).1 (up b o q).2) r⟩
  refine wpAny_bind (wpAny_holding (wpAny_call_entry_kw slot_list_sort ⟨_, at_, rfl⟩ entry_list_sort ?_ (args_list_sort _)))
  refine PySem.W.list_sort_vals (s := { s with heap := g.push (seqObj "list" vs.toArray 0) }) at_ (PySem.W.SortsAt.data (s := { s with heap := PySem.W.sortingHeap (g.push (seqObj "list" vs.toArray 0)) g.objs.size vs }) (PySem.W.each_map (R := fun v d => ∃ as, Reads (PySem.W.sortingHeap (g.push (seqObj "list" vs.toArray 0)) g.objs.size vs) v d as) enc er') hal hk (PySem.W.bound_map (A := A.in1.in1) hu)) hv ?_
  refine ⟨_, rfl, wpAny_pure ⟨_, rfl, ?_⟩⟩
  obtain ⟨c, hc⟩ := sortedHeap_at (vs := vs) (out := (PySem.W.sortVals (PySem.W.dataKind (PySem.W.sortingHeap (g.push (seqObj "list" vs.toArray 0)) g.objs.size vs) (bs.map enc)) false vs vs).toArray) at_
  exact h _ _ c _ (fun b o q => by rw [sortedHeap_old (up b o q).1 (Heap.lt_size (up b o q).2)]; exact (up b o q).2) hg hc (PySem.W.sortVals_data false e er' hal)
def rSortedA (K : PySem.W.Frag) : List V → Hp → VK → Prop := fun vs H Q => ∃ (a : Addr) (bs : List (V × D)), vs = [.ref a] ∧ (SqL K H a (bs.map (·.1)) ∨ SqT K H a (bs.map (·.1))) ∧ (∀ b ∈ bs, Dp K H b.1 b.2) ∧ PySem.W.AllAlike (bs.map (·.2)) ∧ PySem.W.Sortable (bs.map (·.2)) ∧
  (∀ b ∈ bs, b.2.depth ≤ 64) ∧ ∀ p, H p = none → Q (.ref p) (upd H p (.lst ((bs.mergeSort (PySem.W.dataLe false (·.2))).map (·.1))))
theorem each_zip {I : Prop} {s : Shared} {K : PySem.W.Frag} {H : Hp} (rd : ∀ (d : D) (v : V) (u : Value), Dp K H v d → RelV v u → ∃ as, Reads s.heap u d as) : ∀ {bs : List (V × D)} {its : List Value}, Vals (bs.map (·.1)) its → (∀ b ∈ bs, Dp K H b.1 b.2) →
    PySem.W.EachIs (fun (u : Value) (b : V × D) => RelV b.1 u) its bs ∧ PySem.W.EachIs (fun (u : Value) (b : V × D) => ∃ as, Reads s.heap u b.2 as) its bs
  | [], _, r, _ => by cases r; exact ⟨.nil, .nil⟩
  | b :: bs, _, r, q => by
    cases r with
    | cons r1 r2 =>
      obtain ⟨h1, h2⟩ := each_zip (I := I) rd r2 fun b hb => q b (List.mem_cons_of_mem _ hb)
      exact ⟨.cons r1 h1, .cons (rd _ _ _ (q b List.mem_cons_self) r1) h2⟩
theorem each_vals : ∀ {out : List Value} {bs : List (V × D)}, PySem.W.EachIs (fun (u : Value) (b : V × D) => RelV b.1 u) out bs → Vals (bs.map (·.1)) out
  | _, _, .nil => .nil
  | _, _, .cons a t => .cons a (each_vals t)
theorem cr_sortedA {k : Nat} (hr : Room k X.A) : CallR X (.builtin "sorted") (rSortedA X.K) := by
  intro pins s σ H vs us Q I rv q
  obtain ⟨a, bs, rfl, hs, hd, hal, hk, hdep, q⟩ := q
  obtain rfl := Vals.ref1 rv
  obtain ⟨its, T, o, n, vl, ho, hc, hdat, hT, hz⟩ : ∃ (its : List Value) (T : String) (o : Obj) (n : Nat), Vals (bs.map (·.1)) its ∧ s.heap.get? a = some o ∧ o.cls = .type T ∧ o.data = .seq its.toArray n ∧ (T = "list" ∨ T = "tuple") ∧ (bs.map (·.1)).length ≤ sizeLine := by
    rcases hs with hs | hs
    · obtain ⟨its, vl, ⟨o, n, h1, h2, _, h3⟩, hz⟩ := I.list hs
      exact ⟨its, "list", o, n, vl, h1, h2, h3, .inl rfl, hz⟩
    · obtain ⟨its, vl, ⟨o, h1, h2, n, h3⟩, hz⟩ := I.tuple hs
      exact ⟨its, "tuple", o, n, vl, h1, h2, h3, .inr rfl, hz⟩
  have hl : bs.length ≤ sizeLine := by rw [List.length_map] at hz; exact hz
  obtain ⟨e1, e2⟩ := each_zip (I := True) (fun d v u => Dp.reads I d v u) vl hd
  refine sorted_any (x := .ref a) (vs := its) (bs := bs) (enc := (·.2)) (fun Q' k => collect_grown a hT ho hc hdat (by have := vl.length; simp only [List.size_toArray]; omega) fun h' hz kh => k h' hz kh) e1 e2 hal hk hl (fun b hb => by have := hr.un; have := hdep b hb; show X.A.units + 2 + b.2.depth < cLine; omega) fun out p c h' kp hp hD eo => ?_
  have vo := each_vals eo
  have hlen : ((bs.mergeSort (PySem.W.dataLe false (·.2))).map (·.1)).length ≤ sizeLine := by rw [List.length_map, List.length_mergeSort]; exact hl
  exact ⟨.ref p, upd H p (.lst ((bs.mergeSort (PySem.W.dataLe false (·.2))).map (·.1))), I.laid (t' := s.toks) kp hp ⟨hlen, out, c, vo, hD⟩, rfl, q p (I.hok.fresh hp)⟩
noncomputable def sortD (ds : List D) : List D := ds.mergeSort (PySem.W.dataLe false fun d => d)
def sortable (ds : List D) : Bool := (ds.all fun d => ds.all fun e => PySem.W.alike d e) && ((ds.all fun d => match d with | .tuple (_ :: _) => true | _ => false) || (ds.all fun d => match d with | .none => false | .tuple _ => false | _ => true)) && ds.all shp
noncomputable def sortW (m : Bool) (ws : List W) (h : Hh) : Option (W × Hh) := match ws with
  | [w] => match deref h w with
    | some (.list ds) => if sortable ds = true then mkL m (sortD ds) h else none
    | some (.tuple ds) => if sortable ds = true then mkL m (sortD ds) h else none
    | _ => none
  | _ => none
theorem rds_zip {M : Mm} {H : Hp} : ∀ {xs : List V} {ds : List D}, RDs M H xs ds → ∃ bs : List (V × D), xs = bs.map (·.1) ∧ ds = bs.map (·.2) ∧ ∀ b ∈ bs, RD M H b.1 b.2
  | _, _, .nil => ⟨[], rfl, rfl, fun b hb => by cases hb⟩
  | x :: xs, d :: ds, .cons a t => by
    obtain ⟨bs, e1, e2, q⟩ := rds_zip t
    refine ⟨(x, d) :: bs, by rw [e1]; rfl, by rw [e2]; rfl, fun b hb => ?_⟩
    rcases List.mem_cons.mp hb with rfl | hb
    · exact a
    · exact q b hb
theorem zip_rds {M : Mm} {H : Hp} : ∀ {bs : List (V × D)}, (∀ b ∈ bs, RD M H b.1 b.2) → RDs M H (bs.map (·.1)) (bs.map (·.2))
  | [], _ => .nil
  | b :: bs, q => .cons (q b List.mem_cons_self) (zip_rds fun c hc => q c (List.mem_cons_of_mem _ hc))
theorem sortable_ok {ds : List D} (h : sortable ds = true) : PySem.W.AllAlike ds ∧ PySem.W.Sortable ds ∧ ∀ d ∈ ds, shp d = true := by
  unfold sortable at h
  simp only [Bool.and_eq_true, Bool.or_eq_true, List.all_eq_true] at h
  obtain ⟨⟨h1, h2⟩, h3⟩ := h
  refine ⟨fun d hd d' hd' => h1 d hd d' hd', ?_, h3⟩
  rcases h2 with h2 | h2
  · refine .inl fun d hd => ?_
    have q := h2 d hd
    split at q
    · exact ⟨_, _, rfl⟩
    · cases q
  · refine .inr fun d hd => ⟨fun e => ?_, fun xs e => ?_⟩
    · subst e; exact absurd (h2 _ hd) (by simp)
    · subst e; exact absurd (h2 _ hd) (by simp)
theorem sort_imp {M : Mm} {H : Hp} {xs : List V} {ds : List D} {a : Addr} {m : Bool} {h : Hh} {Q : VK} (rep : Rep M H h) (q : RDs M H xs ds) (hs : SqL X.K H a xs ∨ SqT X.K H a xs) (hz : sortable ds = true) (c : Cont RV (mkL m (sortD ds) h) M H Q) : rSortedA X.K [.ref a] H Q := by
  obtain ⟨bs, rfl, rfl, qb⟩ := rds_zip q
  obtain ⟨h1, h2, h3⟩ := sortable_ok hz
  have h3' : ∀ b ∈ bs, shp b.2 = true := fun b hb => h3 _ (List.mem_map.mpr ⟨b, hb, rfl⟩)
  refine ⟨a, bs, rfl, hs, fun b hb => RD.dp (qb b hb) (SeqAt.canLay_of_shaped (h3' b hb)), h1, h2, fun b hb => SeqAt.depth_of_shaped (h3' b hb), fun p np => ?_⟩
  have e : sortD (bs.map (·.2)) = (bs.mergeSort (PySem.W.dataLe false (·.2))).map (·.2) := (PySem.W.sort_maps (r := PySem.W.dataLe false fun b : V × D => b.2) (s := PySem.W.dataLe false fun d : D => d) (fun b : V × D => b.2) (l := bs) fun _ _ _ _ => rfl).symm
  rw [e] at c
  exact mkL_fin rep np (zip_rds fun b hb => qb b ((List.mergeSort_perm bs _).mem_iff.mp hb)) c
theorem s_sorted (m : Bool) : SemA (rSortedA X.K) (sortW m) := by
  intro M H h vs ws Q rep rv c
  unfold sortW at c
  split at c
  · obtain ⟨v, rfl, r⟩ := rvs1 rv
    split at c
    · rename_i ds e
      obtain ⟨a, xs, rfl, ha, q⟩ := deref_rr rep r e
      split at c
      · rename_i hz
        exact sort_imp rep q (.inl (.of ha)) hz c
      · exact c.no.elim
    · rename_i ds e
      obtain ⟨a, xs, rfl, _, ha, q⟩ := rr_tup (deref_rr rep r e)
      split at c
      · rename_i hz
        exact sort_imp rep q (.inr ha.sq) hz c
      · exact c.no.elim
    · exact c.no.elim
  · exact c.no.elim
def isL (w : W) (h : Hh) : Bool := match deref h w with
  | some (.list _) => true
  | _ => false
def fM (chk : W → Hh → Bool) (sem : W → List W → Hh → Option (W × Hh)) (f : EM) (g : AM) : EM := fun ρ h => obnd (f ρ h) fun w h1 => if chk w h1 = true then obnd (g ρ h1) fun ws h2 => sem w ws h2 else none
def SemM (r : V → List V → Hp → VK → Prop) (sem : W → List W → Hh → Option (W × Hh)) : Prop := ∀ (M : Mm) (H : Hp) (h : Hh) (x : V) (w : W) (vs : List V) (ws : List W) (Q : VK), Rep M H h → RV M H x w → RVs M H vs ws → Cont RV (sem w ws h) M H Q → r x vs H Q
theorem isL_ty {K : PySem.W.Frag} {M : Mm} {H : Hp} {h : Hh} {v : V} {w : W} (rep : Rep M H h) (r : RV M H v w) (e : isL w h = true) : tyV K "list" v H := by
  unfold isL at e
  split at e
  · rename_i ds q
    obtain ⟨a, xs, rfl, ha, _⟩ := deref_rr rep r q
    exact .inl ⟨rfl, _, .of ha⟩
  · cases e
theorem meth_imp {K : PySem.W.Frag} {r : V → List V → Hp → VK → Prop} {sem : W → List W → Hh → Option (W × Hh)} {f : EM} {g : AM} (hs : SemM r sem) : ∀ σ H Q, tE (fM isL sem f g) σ H Q → tBM K "list" r (tE f) (tA g) σ H Q := fun σ H Q => by
  rintro ⟨M, h, ρ, r, rs, c⟩
  obtain ⟨w, h1, e1, c1⟩ := Cont.bind (δ := Unit) c
  refine ⟨M, h, ρ, r, rs, w, h1, e1, fun M1 H1 v x1 r1 v1 => ?_⟩
  have c2 := c1 M1 H1 x1
  split at c2
  · rename_i hl
    refine ⟨isL_ty r1 v1 hl, M1, h1, ρ, r1, rs.mono x1, ?_⟩
    obtain ⟨w2, h2, e2, c3⟩ := Cont.bind (δ := Unit) c2
    exact ⟨w2, h2, e2, fun M2 H2 v2 x2 r2 q2 => hs M2 H2 h2 _ w _ w2 Q r2 (v1.mono x2) q2 (c3 M2 H2 x2)⟩
  · exact c2.no.elim
def lstAt (h : Hh) (n : Nat) : Option (List D) := match h[n]? with
  | some (some (.lst ds)) => some ds
  | _ => none
theorem lstAt_ok {M : Mm} {H : Hp} {h : Hh} {n : Nat} {ds : List D} {a : Addr} (rep : Rep M H h) (e : lstAt h n = some ds) (ea : M.m[n]? = some (some a)) : ∃ xs, H a = some (.lst xs) ∧ RDs M H xs ds := by
  obtain ⟨o, ho, ro⟩ := rep.at_ n a ea
  unfold lstAt at e
  rw [ho] at e
  cases o with
  | lst ds' => cases e; exact ro
  | dic _ => cases e
  | dit _ => cases e
  | tab _ _ => cases e
  | ins _ _ => cases e
def setL (h : Hh) (n : Nat) (ds : List D) (r : D) : Option (W × Hh) := some (.dat r, h.set n (some (.lst ds)))
theorem setL_fin {M : Mm} {H : Hp} {h : Hh} {n : Nat} {a : Addr} {ds : List D} {d : D} {ys : List V} {v : V} {Q : VK} (rep : Rep M H h) (ea : M.m[n]? = some (some a)) (q : RDs M H ys ds) (rv : RD M H v d) (c : Cont RV (setL h n ds d) M H Q) : Q v (upd H a (.lst ys)) :=
  c.fin (ext_set ea) (rep.set ea ⟨ys, upd_same, q.mono (ext_set ea).ext⟩) (rv.mono (ext_set ea).ext)
def appendW (w : W) (ws : List W) (h : Hh) : Option (W × Hh) := match w, ws with
  | .ref n, [.dat d] => match lstAt h n with
    | some ds => if ds.length < sizeLine then setL h n (ds ++ [d]) .none else none
    | none => none
  | _, _ => none
theorem s_append : SemM rAppend appendW := by
  intro M H h x w vs ws Q rep rx rv c
  unfold appendW at c
  split at c
  · rename_i n d
    obtain ⟨a, ea, rfl⟩ := rx
    obtain ⟨v, rfl, r⟩ := rvs1 rv
    split at c
    · rename_i ds e
      obtain ⟨xs, ha, q⟩ := lstAt_ok rep e ea
      split at c
      · rename_i hz
        exact ⟨a, xs, v, rfl, rfl, ha, by rw [q.length]; exact hz, setL_fin rep ea (q.app (.cons r .nil)) .non c⟩
      · exact c.no.elim
    · exact c.no.elim
  · exact c.no.elim
def insertW (w : W) (ws : List W) (h : Hh) : Option (W × Hh) := match w, ws with
  | .ref n, [.dat (.int i), .dat d] => match lstAt h n with
    | some ds => if ds.length < sizeLine ∧ 0 ≤ i ∧ i < 1000000 then setL h n (ds.take i.toNat ++ [d] ++ ds.drop i.toNat) .none else none
    | none => none
  | _, _ => none
def popAtW (w : W) (ws : List W) (h : Hh) : Option (W × Hh) := match w, ws with
  | .ref n, [.dat (.int i)] => match lstAt h n with
    | some ds => if 0 ≤ i ∧ i < 1000000 then match ds[i.toNat]? with
        | some d => setL h n (ds.eraseIdx i.toNat) d
        | none => none
      else none
    | none => none
  | _, _ => none
theorem s_popAt : SemM rPopAt popAtW := by
  intro M H h x w vs ws Q rep rx rv c
  unfold popAtW at c
  split at c
  · rename_i n i
    obtain ⟨a, ea, rfl⟩ := rx
    obtain ⟨v, rfl, r⟩ := rvs1 rv
    cases (show RD M H _ _ from r)
    split at c
    · rename_i ds e
      obtain ⟨xs, ha, q⟩ := lstAt_ok rep e ea
      split at c
      · rename_i hz
        split at c
        · rename_i d ed
          obtain ⟨y, ey, ry⟩ := q.get ed
          have hlt : i < xs.length := by have := lt_of_get ey; omega
          exact ⟨a, xs, i, i.toNat, y, rfl, rfl, ha, by omega, by omega, seqIndex_of hz.1 hlt, ey, setL_fin rep ea (q.erase _) ry c⟩
        · exact c.no.elim
      · exact c.no.elim
    · exact c.no.elim
  · exact c.no.elim
end
end DL
set_option maxRecDepth 100000
set_option maxHeartbeats 4000000
namespace DL
open PySem PySem.Spec PyProof.Rows L2
abbrev TM := W → Env → Hh → Option Env
abbrev TMs := List D → Env → Hh → Option Env
def tGd (ts : List Nat) (g : TM) : TG := fun v σ H Q => ∃ M h ρ w ρ', Rep M H h ∧ RS M H ρ σ ∧ RV M H v w ∧ g w ρ h = some ρ' ∧ ∀ σ' : L2.St, RS M H ρ' σ' → σ'.length = σ.length → (∀ j, j ∉ ts → σ'[j]? = σ[j]?) → Q σ' H
def tGds (ts : List Nat) (g : TMs) : TGs := fun vs σ H Q => ∃ M h ρ ds ρ', Rep M H h ∧ RS M H ρ σ ∧ RDs M H vs ds ∧ g ds ρ h = some ρ' ∧ ∀ σ' : L2.St, RS M H ρ' σ' → σ'.length = σ.length → (∀ j, j ∉ ts → σ'[j]? = σ[j]?) → Q σ' H
abbrev DG (X : Cx) (tg : Expr) (ts : List Nat) (g : TM) : Prop := PG X tg (tGd ts g)
abbrev DGs (X : Cx) (tgs : List Expr) (ts : List Nat) (g : TMs) : Prop := PGs X tgs (tGds ts g)
theorem _root_.L2.PGs.weak {X : Cx} {e : List Expr} {t t' : TGs} (h : PGs X e t) (i : ∀ v σ H Q, t' v σ H Q → t v σ H Q) : PGs X e t' := ⟨fun pins s σ H v u Q I r q => h.run pins s σ H v u Q I r (i v σ H Q q)⟩
def gN (i : Nat) : TM := fun w ρ _ => some (ρ.set i (some w))
def gE : TMs := fun ds ρ _ => match ds with
  | [] => some ρ
  | _ => none
def gC (g : TM) (k : TMs) : TMs := fun ds ρ h => match ds with
  | d :: ds => match g (.dat d) ρ h with
    | some ρ' => k ds ρ' h
    | none => none
  | [] => none
def gT (n : Nat) (k : TMs) : TM := fun w ρ h => match deref h w with
  | some (.tuple ds) => if ds.length = n then k ds ρ h else none
  | some (.list ds) => if ds.length = n then k ds ρ h else none
  | _ => none
section
variable {X : Cx}
theorem dg_name (i : Nat) {x : Str} {pos : Pos} (h : PG X (.Name x pos) (gName i)) : DG X (.Name x pos) [i] (gN i) := h.weak fun v σ H Q => by
  rintro ⟨M, h, ρ, w, ρ', r, rs, rv, e, q⟩
  cases e
  exact q _ (rs.set rv) (by simp) fun j hj => List.getElem?_set_ne (fun z => hj (by simp [z]))
theorem dgs_nil : DGs X [] [] gE := pgs_nil.weak fun v σ H Q => by
  rintro ⟨M, h, ρ, ds, ρ', r, rs, rv, e, q⟩
  unfold gE at e
  split at e
  · cases e; cases rv; exact ⟨rfl, q σ rs rfl fun _ _ => rfl⟩
  · cases e
theorem dgs_cons {tg : Expr} {tgs : List Expr} {ts ts' : List Nat} {g : TM} {k : TMs} (h1 : DG X tg ts g) (h2 : DGs X tgs ts' k) (hs : (assignEach (tg :: tgs) X.env).map (·.2) = assign tg X.env :: (assignEach tgs X.env).map (·.2) := by rfl) : DGs X (tg :: tgs) (ts ++ ts') (gC g k) :=
  (pgs_cons h1 h2 hs).weak fun v σ H Q => by
    rintro ⟨M, h, ρ, ds, ρ', r, rs, rv, e, q⟩
    unfold gC at e
    split at e
    · rename_i d ds'
      split at e
      · rename_i ρ1 e1
        cases rv with
        | cons a t =>
          refine ⟨_, _, rfl, M, h, ρ, .dat d, ρ1, r, rs, a, e1, fun σ1 rs1 l1 o1 => ⟨M, h, ρ1, ds', ρ', r, rs1, t, e, fun σ2 rs2 l2 o2 => q σ2 rs2 (l2.trans l1) fun j hj => ?_⟩⟩
          rw [o2 j (fun z => hj (List.mem_append_right _ z)), o1 j (fun z => hj (List.mem_append_left _ z))]
      · cases e
    · cases e
theorem _root_.L2.PG.or {tg : Expr} {t t' : TG} (h : PG X tg t) (h' : PG X tg t') : PG X tg (fun v σ H Q => t v σ H Q ∨ t' v σ H Q) := ⟨fun pins s σ H v u Q I r q => q.elim (h.run pins s σ H v u Q I r) (h'.run pins s σ H v u Q I r)⟩
theorem dg_tup {tgs : List Expr} {k : Nat} {pos : Pos} {ts : List Nat} {g : TMs} {n : Nat} (hc : X.calm = true) (h : DGs X tgs ts g) (hn : (assignEach tgs X.env).length = n := by rfl) (hst : (assignEach tgs X.env).findIdx? (·.1) = none := by rfl) : DG X (.Tuple tgs k pos) ts (gT n g) :=
  ((pg_tup hc h hn hst).or (pg_unl hc h hn hst)).weak fun v σ H Q => by
    rintro ⟨M, h, ρ, w, ρ', r, rs, rv, e, q⟩
    unfold gT at e
    split at e
    · rename_i ds ed
      obtain ⟨a, xs, rfl, _, ha, qa⟩ := rr_tup (deref_rr r rv ed)
      split at e
      · rename_i hz
        exact .inl ⟨a, xs, rfl, ha.sq, by rw [qa.length]; exact hz, M, h, ρ, ds, ρ', r, rs, qa, e, q⟩
      · cases e
    · rename_i ds ed
      obtain ⟨a, xs, rfl, ha, qa⟩ := deref_rr r rv ed
      split at e
      · rename_i hz
        exact .inr ⟨a, xs, rfl, .of ha, by rw [qa.length]; exact hz, M, h, ρ, ds, ρ', r, rs, qa, e, q⟩
      · cases e
    · cases e
end
theorem Rep.grow {M : Mm} {H H' : Hp} {h : Hh} (r : Rep M H h) (s : Same H H') : Rep M H' h ∧ ExtE M M H H' := by
  have x : ExtE M M H H' := ⟨rfl, fun a o e => ⟨o, s a o e⟩, fun a o e _ => s a o e, fun _ m => .inl m, Nat.le_refl _, fun _ _ => rfl⟩
  refine ⟨⟨fun a m => ?_, r.len, r.inj, fun i a e => ?_, r.dead⟩, x⟩
  · obtain ⟨h1, o, e, ht⟩ := r.us a m
    exact ⟨h1, o, s a o e, ht⟩
  · obtain ⟨u, hu, ro⟩ := r.at_ i a e
    obtain ⟨z, hz⟩ := ro.some_
    exact ⟨u, hu, ro.move x.ext (by rw [hz]; exact s a z hz)⟩
theorem new_out {M : Mm} {H : Hp} (tr : ∀ a, M.Has a → ∃ o, H a = some o ∧ tpO o = false) {T : Addr} (n : H T = none) : ¬ M.Has T := fun z => by
  obtain ⟨o, e, _⟩ := tr T z
  rw [n] at e; cases e
theorem grow_ext {M : Mm} {H H' : Hp} (s : Same H H') : Ext M M H H' := ⟨fun _ m => .inl m, fun a o e => ⟨o, s a o e⟩, fun a o e _ => s a o e, fun _ m => .inl m, Nat.le_refl _, fun _ _ => .inl rfl⟩
def ItD (M : Mm) (H : Hp) (J : It) (ds : List D) : Prop := ∀ M1 H1, Ext M M1 H H1 → (∀ a, M1.Has a → ∃ o, H1 a = some o ∧ tpO o = false) → (∀ (i : Nat) (d : D), ds[i]? = some d → J.go i H1 ∧ ∀ x H2, J.yld i H1 x H2 → Same H1 H2 ∧ RD M1 H2 x d) ∧ J.stop ds.length H1
abbrev IM := Env → Hh → Option (List D × Hh)
def tI (g : IM) : TI := fun σ H R => ∃ M h ρ ds h', Rep M H h ∧ RS M H ρ σ ∧ g ρ h = some (ds, h') ∧ ∀ M' H' J, ExtE M M' H H' → Rep M' H' h' → ItD M' H' J ds → R J H'
abbrev DI (X : Cx) (tg it : Expr) (g : IM) : Prop := PI X tg it (tI g)
theorem _root_.L2.PI.or {X : Cx} {tg e : Expr} {t t' : TI} (h : PI X tg e t) (h' : PI X tg e t') : PI X tg e (fun σ H R => t σ H R ∨ t' σ H R) := ⟨fun pins s σ H R I q => q.elim (h.run pins s σ H R I) (h'.run pins s σ H R I)⟩
theorem same_refl' {H : Hp} : Same H H := fun _ _ e => e
theorem same_new {H : Hp} {p : Addr} {o : HO} (n : H p = none) : Same H (upd H p o) := fun b x e => by rw [upd_ne (ne_of_none e n)]; exact e
theorem itd_list {K : PySem.W.Frag} {M : Mm} {H : Hp} {a : Addr} {xs : List V} {ds : List D} (n : ¬ M.Has a) (ha : H a = some (.lst xs)) (q : RDs M H xs ds) : ItD M H (Itl K a) ds := fun M1 H1 x tr => by
  have ha1 := x.st n ha
  have q1 := q.mono x
  refine ⟨fun i d e => ?_, ⟨xs, .of ha1, by rw [q.length]; exact Nat.le_refl _⟩⟩
  obtain ⟨v, ev, rv⟩ := q1.get e
  refine ⟨⟨xs, v, .of ha1, ev⟩, fun y H2 hy => ?_⟩
  obtain ⟨e2, hy⟩ := hy
  subst e2
  have := hy xs (.of ha1)
  rw [ev] at this; cases this
  exact ⟨same_refl', rv⟩
theorem itd_tup {K : PySem.W.Frag} {M : Mm} {H : Hp} {a : Addr} {xs : List V} {ds : List D} (n : ¬ M.Has a) (ha : TupAt H a xs ds) (q : RDs M H xs ds) : ItD M H (Itt K a) ds := fun M1 H1 x tr => by
  have ha1 := (ha.to fun _ z => x.st n z).sq (K := K)
  have q1 := q.mono x
  refine ⟨fun i d e => ?_, ⟨xs, ha1, by rw [q.length]; exact Nat.le_refl _⟩⟩
  obtain ⟨v, ev, rv⟩ := q1.get e
  refine ⟨⟨xs, v, ha1, ev⟩, fun y H2 hy => ?_⟩
  obtain ⟨e2, hy⟩ := hy
  subst e2
  have := hy xs ha1
  rw [ev] at this; cases this
  exact ⟨same_refl', rv⟩
def seqI (f : EM) : IM := fun ρ h => obnd (f ρ h) fun w h1 => match w with
  | .dat (.list ds) => some (ds, h1)
  | .dat (.tuple ds) => some (ds, h1)
  | _ => none
section
variable {X : Cx} {tg : Expr}
theorem di_seq {e : Expr} {f : EM} (he : DE X e f) : DI X tg e (seqI f) := ((pi_list he).or (pi_tup he)).weak fun σ H R => by
  rintro ⟨M, h, ρ, ds, h', r, rs, e, q⟩
  unfold seqI at e
  cases ef : f ρ h with
  | none => rw [ef] at e; cases e
  | some p =>
    obtain ⟨w, h1⟩ := p
    rw [ef] at e
    simp only [obnd_some] at e
    split at e
    · cases e
      refine .inl ⟨M, h, ρ, r, rs, _, _, ef, fun M1 H1 v x1 r1 v1 => ?_⟩
      cases (show RD M1 H1 v _ from v1) with
      | lst n ha qa => exact ⟨_, rfl, ⟨_, .of ha⟩, q M1 H1 _ x1 r1 (itd_list n ha qa)⟩
    · cases e
      refine .inr ⟨M, h, ρ, r, rs, _, _, ef, fun M1 H1 v x1 r1 v1 => ?_⟩
      cases (show RD M1 H1 v _ from v1) with
      | tup n ha qa => exact ⟨_, rfl, ⟨_, ha.sq⟩, q M1 H1 _ x1 r1 (itd_tup n ha qa)⟩
    · cases e
def rngD (lo : Int) (n : Nat) : List D := (List.range n).map fun (i : Nat) => .int (lo + (i : Int))
theorem rngD_get {lo : Int} {n i : Nat} {d : D} (e : (rngD lo n)[i]? = some d) : i < n ∧ d = .int (lo + i) := by
  unfold rngD at e
  rw [List.getElem?_map] at e
  cases q : (List.range n)[i]? with
  | none => rw [q] at e; cases e
  | some j =>
    rw [q] at e
    obtain ⟨h1, h2⟩ := List.getElem?_eq_some_iff.mp q
    rw [List.length_range] at h1
    rw [List.getElem_range] at h2
    subst h2
    exact ⟨h1, by simpa using e.symm⟩
theorem itd_rng {M : Mm} {H : Hp} {lo : Int} {n : Nat} : ItD M H (Itr lo n) (rngD lo n) := fun M1 H1 x tr => by
  refine ⟨fun i d e => ?_, ?_⟩
  · obtain ⟨h1, rfl⟩ := rngD_get e
    exact ⟨h1, fun y H2 hy => by obtain ⟨e1, e2⟩ := hy; subst e1 e2; exact ⟨same_refl', .int _⟩⟩
  · show n ≤ _
    simp [rngD]
def rng1I (g : AM) : IM := fun ρ h => obnd (g ρ h) fun ws h1 => match ws with
  | [.dat (.int j)] => if -1000000000 ≤ j ∧ j ≤ 1000000000 then some (rngD 0 j.toNat, h1) else none
  | _ => none
def rng2I (g : AM) : IM := fun ρ h => obnd (g ρ h) fun ws h1 => match ws with
  | [.dat (.int i), .dat (.int j)] => if -1000000000 ≤ i ∧ i ≤ 1000000000 ∧ -1000000000 ≤ j ∧ j ≤ 1000000000 then some (rngD i (j - i).toNat, h1) else none
  | _ => none
theorem di_rng1 (hm : X.mg "range" = none) {a : Expr} {p pos : Pos} {g : AM} (ha : DA X [a] g) (hg : Gl X "range" := by rfl) (hs : starEach [a] X.env = [(false, eval a X.env)] := by rfl) : DI X tg (.Call (.Name "range" p) [a] [] pos) (rng1I g) := (pi_range1 hg hm ha hs).weak fun σ H R => by
  rintro ⟨M, h, ρ, ds, h', r, rs, e, q⟩
  unfold rng1I at e
  cases ef : g ρ h with
  | none => rw [ef] at e; cases e
  | some p =>
    obtain ⟨ws, h1⟩ := p
    rw [ef] at e
    simp only [obnd_some] at e
    split at e
    · split at e
      · rename_i hz
        cases e
        refine ⟨M, h, ρ, r, rs, _, _, ef, fun M1 H1 v x1 r1 v1 => ?_⟩
        obtain ⟨v, rfl, rv⟩ := rvs1 v1
        cases (show RD M1 H1 v _ from rv)
        exact ⟨_, rfl, by omega, by omega, q M1 H1 _ x1 r1 itd_rng⟩
      · cases e
    · cases e
def enumD : Nat → List D → List D
  | _, [] => []
  | i, d :: ds => .tuple [.int (i : Int), d] :: enumD (i + 1) ds
theorem enumD_get : ∀ {ds : List D} {k i : Nat} {d : D}, (enumD k ds)[i]? = some d → ∃ e, ds[i]? = some e ∧ d = .tuple [.int ((k + i : Nat) : Int), e]
  | [], _, _, _, e => by simp [enumD] at e
  | e :: ds, k, 0, d, h => by simp [enumD] at h; exact ⟨e, rfl, by rw [← h]; rfl⟩
  | e :: ds, k, i + 1, d, h => by
    obtain ⟨e', h1, h2⟩ := enumD_get (ds := ds) (k := k + 1) (i := i) (d := d) (by simpa [enumD] using h)
    exact ⟨e', by simpa using h1, by rw [h2, show k + 1 + i = k + (i + 1) by omega]⟩
theorem enumD_len : ∀ (k : Nat) (ds : List D), (enumD k ds).length = ds.length
  | _, [] => rfl
  | k, d :: ds => by simp [enumD, enumD_len (k + 1) ds]
theorem itd_enum {K : PySem.W.Frag} {M : Mm} {H : Hp} {a : Addr} {xs : List V} {ds : List D} (n : ¬ M.Has a) (ha : H a = some (.lst xs)) (q : RDs M H xs ds) : ItD M H (Ite K a) (enumD 0 ds) := fun M1 H1 x tr => by
  have ha1 := x.st n ha
  have q1 := q.mono x
  refine ⟨fun i d e => ?_, ⟨xs, .of ha1, by rw [q.length, enumD_len]; exact Nat.le_refl _⟩⟩
  obtain ⟨d', e', rfl⟩ := enumD_get e
  obtain ⟨v, ev, rv⟩ := q1.get e'
  refine ⟨⟨xs, v, .of ha1, ev⟩, fun y H2 hy => ?_⟩
  obtain ⟨T, z, rfl, nT, rfl, hz⟩ := hy
  have := hz xs (.of ha1)
  rw [ev] at this; cases this
  refine ⟨same_new nT, .tup (fun z => new_out tr nT z) (.inl ⟨rfl, upd_same⟩) (.cons ?_ (.cons (rv.mono (grow_ext (same_new nT))) .nil))⟩
  rw [Nat.zero_add]; exact .int _
def zipD : List D → List D → List D
  | x :: xs, y :: ys => .tuple [x, y] :: zipD xs ys
  | _, _ => []
theorem zipD_get : ∀ {xs ys : List D} {i : Nat} {d : D}, (zipD xs ys)[i]? = some d → ∃ x y, xs[i]? = some x ∧ ys[i]? = some y ∧ d = .tuple [x, y]
  | [], _, _, _, e => by simp [zipD] at e
  | _ :: _, [], _, _, e => by simp [zipD] at e
  | x :: xs, y :: ys, 0, d, e => by simp [zipD] at e; exact ⟨x, y, rfl, rfl, e.symm⟩
  | x :: xs, y :: ys, i + 1, d, e => by
    obtain ⟨a, b, h1, h2, h3⟩ := zipD_get (xs := xs) (ys := ys) (i := i) (d := d) (by simpa [zipD] using e)
    exact ⟨a, b, by simpa using h1, by simpa using h2, h3⟩
def notCall : D → Bool
  | .tuple l => !callD l
  | _ => true
def zipOk (xs ys : List D) : Bool := (zipD xs ys).all notCall
theorem zipOk_get {xs ys : List D} {i : Nat} {l : List D} (ok : zipOk xs ys = true) (e : (zipD xs ys)[i]? = some (.tuple l)) : callD l = false := by
  have := List.all_eq_true.mp ok _ (List.mem_of_getElem? e)
  simpa [notCall] using this
theorem zipD_len : ∀ (xs ys : List D), (zipD xs ys).length = min xs.length ys.length
  | [], _ => by simp [zipD]
  | _ :: _, [] => by simp [zipD]
  | x :: xs, y :: ys => by simp only [zipD, List.length_cons, zipD_len xs ys]; omega
theorem itd_zip {K : PySem.W.Frag} {M : Mm} {H : Hp} {a b : Addr} {xs ys : List V} {ds es : List D} (n : ¬ M.Has a) (ha : H a = some (.lst xs)) (q : RDs M H xs ds) (n' : ¬ M.Has b) (hb : H b = some (.lst ys)) (q' : RDs M H ys es) (ok : zipOk ds es = true) : ItD M H (Itz K a b) (zipD ds es) := fun M1 H1 x tr => by
  have ha1 := x.st n ha
  have hb1 := x.st n' hb
  refine ⟨fun i d e => ?_, ⟨xs, ys, .of ha1, .of hb1, by rw [q.length, q'.length, zipD_len]; omega⟩⟩
  obtain ⟨d1, d2, e1, e2, rfl⟩ := zipD_get e
  obtain ⟨v, ev, rv⟩ := (q.mono x).get e1
  obtain ⟨v', ev', rv'⟩ := (q'.mono x).get e2
  refine ⟨⟨xs, ys, v, v', .of ha1, .of hb1, ev, ev'⟩, fun y H2 hy => ?_⟩
  obtain ⟨T, z, z', rfl, nT, rfl, hz, hz'⟩ := hy
  have t1 := hz xs (.of ha1)
  rw [ev] at t1; cases t1
  have t2 := hz' ys (.of hb1)
  rw [ev'] at t2; cases t2
  exact ⟨same_new nT, .tup (fun z => new_out tr nT z) (.inl ⟨zipOk_get ok e, upd_same⟩) (.cons (rv.mono (grow_ext (same_new nT))) (.cons (rv'.mono (grow_ext (same_new nT))) .nil))⟩
theorem itd_zipT {K : PySem.W.Frag} {M : Mm} {H : Hp} {a b : Addr} {xs ys : List V} {ds es : List D} (n : ¬ M.Has a) (ha : TupAt H a xs ds) (q : RDs M H xs ds) (n' : ¬ M.Has b) (hb : TupAt H b ys es) (q' : RDs M H ys es) (ok : zipOk ds es = true) : ItD M H (RZ.ItzT K a b) (zipD ds es) := fun M1 H1 x tr => by
  have ha1 := (ha.to fun _ z => x.st n z).sq (K := K)
  have hb1 := (hb.to fun _ z => x.st n' z).sq (K := K)
  refine ⟨fun i d e => ?_, ⟨xs, ys, ha1, hb1, by rw [q.length, q'.length, zipD_len]; omega⟩⟩
  obtain ⟨d1, d2, e1, e2, rfl⟩ := zipD_get e
  obtain ⟨v, ev, rv⟩ := (q.mono x).get e1
  obtain ⟨v', ev', rv'⟩ := (q'.mono x).get e2
  refine ⟨⟨xs, ys, v, v', ha1, hb1, ev, ev'⟩, fun y H2 hy => ?_⟩
  obtain ⟨T, z, z', rfl, nT, rfl, hz, hz'⟩ := hy
  have t1 := hz xs ha1
  rw [ev] at t1; cases t1
  have t2 := hz' ys hb1
  rw [ev'] at t2; cases t2
  exact ⟨same_new nT, .tup (fun z => new_out tr nT z) (.inl ⟨zipOk_get ok e, upd_same⟩) (.cons (rv.mono (grow_ext (same_new nT))) (.cons (rv'.mono (grow_ext (same_new nT))) .nil))⟩
def zipI (g : AM) : IM := fun ρ h => obnd (g ρ h) fun ws h1 => match ws with
  | [.dat (.list ds), .dat (.list es)] => if zipOk ds es = true then some (zipD ds es, h1) else none
  | [.dat (.tuple ds), .dat (.tuple es)] => if zipOk ds es = true then some (zipD ds es, h1) else none
  | _ => none
theorem di_zip (hm : X.mg "zip" = none) {e e2 : Expr} {elts : List Expr} {kk : Nat} {p pos tpos : Pos} {g : AM} (ha : DA X [e, e2] g) (hg : Gl X "zip" := by rfl) (hs : starEach [e, e2] X.env = (false, eval e X.env) :: starEach [e2] X.env := by rfl) (hpl : (backTo pos (starEach [e2] X.env)).any (·.1) = false := by rfl) :
    DI X (.Tuple elts kk tpos) (.Call (.Name "zip" p) [e, e2] [] pos) (zipI g) := (RZ.pi_zipA hg hm ha hs hpl).weak fun σ H R => by
  rintro ⟨M, h, ρ, ds, h', r, rs, e, q⟩
  unfold zipI at e
  cases ef : g ρ h with
  | none => rw [ef] at e; cases e
  | some p =>
    obtain ⟨ws, h1⟩ := p
    rw [ef] at e
    simp only [obnd_some] at e
    split at e
    · split at e
      rotate_left
      · cases e
      rename_i ok
      cases e
      refine ⟨M, h, ρ, r, rs, _, _, ef, fun M1 H1 v x1 r1 v1 => ?_⟩
      obtain ⟨v, v', rfl, rv, rv'⟩ := rvs2 v1
      cases (show RD M1 H1 v _ from rv) with
      | lst n ha qa =>
        cases (show RD M1 H1 v' _ from rv') with
        | lst n' hb qb => exact ⟨_, _, _, _, rfl, .inl ⟨.of ha, .of hb, q M1 H1 _ x1 r1 (itd_zip n ha qa n' hb qb ok)⟩⟩
    · split at e
      rotate_left
      · cases e
      rename_i ok
      cases e
      refine ⟨M, h, ρ, r, rs, _, _, ef, fun M1 H1 v x1 r1 v1 => ?_⟩
      obtain ⟨v, v', rfl, rv, rv'⟩ := rvs2 v1
      cases (show RD M1 H1 v _ from rv) with
      | tup n ha qa =>
        cases (show RD M1 H1 v' _ from rv') with
        | tup n' hb qb => exact ⟨_, _, _, _, rfl, .inr ⟨ha.sq, hb.sq, q M1 H1 _ x1 r1 (itd_zipT n ha qa n' hb qb ok)⟩⟩
    · cases e
def revI (f : EM) : IM := fun ρ h => obnd (f ρ h) fun w h1 => match w with
  | .dat (.list ds) => some (ds.reverse, h1)
  | .dat (.tuple ds) => some (ds.reverse, h1)
  | _ => none
def signs (z : Str) : List D := z.cps.toList.map fun c => .str ⟨#[c]⟩
def strI (f : EM) : IM := fun ρ h => obnd (f ρ h) fun w h1 => match w with
  | .dat (.str z) => some (signs z, h1)
  | _ => none
end
end DL
set_option maxRecDepth 100000
set_option maxHeartbeats 4000000
namespace DL
open PySem PySem.Spec PyProof.Rows L2
def wipeE (ρ : Env) : List Nat → Env
  | [] => ρ
  | v :: vs => (wipeE ρ vs).set v none
theorem RS.none_at {M : Mm} {H : Hp} {ρ : Env} {σ : L2.St} (r : RS M H ρ σ) (i : Nat) : RS M H (ρ.set i none) (σ.set i none) := by
  refine ⟨by simp [r.1], fun j u e => ?_⟩
  by_cases hj : i = j
  · subst hj
    by_cases hi : i < ρ.length
    · rw [List.getElem?_set_self hi] at e; cases e
    · rw [List.getElem?_eq_none (by simpa using hi)] at e; cases e
  · rw [List.getElem?_set_ne hj] at e ⊢
    exact r.2 j u e
theorem RS.wipe {M : Mm} {H : Hp} {ρ : Env} {σ : L2.St} (r : RS M H ρ σ) : ∀ vs : List Nat, RS M H (wipeE ρ vs) (L2.wipe σ vs)
  | [] => r
  | v :: vs => (RS.wipe r vs).none_at v
theorem wipe_get (σ : L2.St) : ∀ (vs : List Nat) (j : Nat), (L2.wipe σ vs)[j]? = if j ∈ vs ∧ j < σ.length then some none else σ[j]?
  | [], j => by simp [L2.wipe]
  | v :: vs, j => by
    unfold L2.wipe
    by_cases hj : v = j
    · subst hj
      by_cases hl : v < σ.length
      · rw [List.getElem?_set_self (by rw [L2.wipe_length]; exact hl), if_pos ⟨List.mem_cons_self, hl⟩]
      · rw [List.getElem?_eq_none (by rw [List.length_set, L2.wipe_length]; omega), if_neg (fun z => hl z.2), List.getElem?_eq_none (by omega)]
    · rw [List.getElem?_set_ne hj, wipe_get σ vs j]
      have : j ∈ v :: vs ↔ j ∈ vs := by simp [Ne.symm hj]
      simp only [this]
theorem wipe_of {σ σ2 : L2.St} {ts vs : List Nat} (hl : σ2.length = σ.length) (ho : ∀ j, j ∉ ts → σ2[j]? = (L2.wipe σ vs)[j]?) (hs : ∀ j ∈ ts, j ∈ vs) : L2.wipe σ2 vs = L2.wipe σ vs := by
  refine List.ext_getElem? fun j => ?_
  rw [wipe_get, wipe_get, hl]
  by_cases h : j ∈ vs ∧ j < σ.length
  · rw [if_pos h, if_pos h]
  · rw [if_neg h, if_neg h]
    by_cases hj : j ∈ vs
    · have : σ.length ≤ j := Nat.le_of_not_lt fun z => h ⟨hj, z⟩
      rw [List.getElem?_eq_none (by omega), List.getElem?_eq_none this]
    · rw [ho j fun z => hj (hs j z), wipe_get, if_neg h]
def lcL (k : TM) (t : BM) (f : EM) (ρ : Env) : List D → Hh → Option (List D × Hh)
  | [], h => some ([], h)
  | d :: ds, h => match k (.dat d) ρ h with
    | some ρ1 => obnd (t ρ1 h) fun b h2 => if b = true then obnd (f ρ1 h2) fun w h3 => match w with
        | .dat d' => obnd (lcL k t f ρ ds h3) fun r h4 => some (d' :: r, h4)
        | _ => none
      else lcL k t f ρ ds h2
    | none => none
def fLc (m : Bool) (gi : IM) (k : TM) (t : BM) (f : EM) (vs : List Nat) : EM := fun ρ h => obnd (gi ρ h) fun ds h1 => obnd (lcL k t f (wipeE ρ vs) ds h1) fun r h2 => if r.length ≤ sizeLine then mkL m r h2 else none
def bYes : BM := fun _ h => some (true, h)
abbrev DTs (X : Cx) (ifs : List Expr) (t : BM) : Prop := PTs X ifs (tT t)
section
variable {X : Cx}
theorem _root_.L2.PTs.weak {X : Cx} {e : List Expr} {t t' : TT} (h : PTs X e t) (i : ∀ σ H Q, t' σ H Q → t σ H Q) : PTs X e t' := ⟨fun pins s σ H Q I q => h.run pins s σ H Q I (i σ H Q q)⟩
theorem dts_nil : DTs X [] bYes := pts_nil.weak fun σ H Q => by
  rintro ⟨M, h, ρ, r, rs, c⟩
  exact c.fin (.refl _ _) r rfl
theorem dts_one {c : Expr} {t : BM} (h : DT X c t) : DTs X [c] t := pts_one h
end
def Mm.made (M : Mm) (p : Addr) : Mm := ⟨p :: M.u, M.m⟩
theorem ext_made {M : Mm} {H : Hp} {p : Addr} {o : HO} (n : H p = none) : Ext M (M.made p) H (upd H p o) :=
  ⟨fun a m => by
    rcases List.mem_cons.mp m with rfl | m
    · exact .inr n
    · exact .inl m, trk_upd, fun a u e _ => by rw [upd_ne (ne_of_none e n)]; exact e, fun _ m => .inl m, Nat.le_refl _, fun _ _ => .inl rfl⟩
theorem Rep.make {M : Mm} {H : Hp} {h : Hh} (r : Rep M H h) {p : Addr} {o : HO} (n : H p = none) (ho : tpO o = false := by rfl) : Rep (M.made p) (upd H p o) h := by
  refine ⟨fun a m => ?_, r.len, r.inj, fun i a e => ?_, r.dead⟩
  · rcases List.mem_cons.mp m with rfl | m
    · exact ⟨fun z => r.new n (.inr z), o, upd_same, ho⟩
    · obtain ⟨h1, u, e, ht⟩ := r.us a m
      exact ⟨h1, u, by rw [upd_ne (ne_of_none e n)]; exact e, ht⟩
  · obtain ⟨u, hu, ro⟩ := r.at_ i a e
    obtain ⟨z, hz⟩ := ro.some_
    exact ⟨u, hu, ro.move (ext_made n) (upd_ne (ne_of_none hz n))⟩
mutual
theorem RD.off {M : Mm} {H : Hp} {p : Addr} {o : HO} (hp : p ∈ M.u) : ∀ {v : V} {d : D}, RD M H v d → RD M (upd H p o) v d
  | _, _, .non => .non
  | _, _, .bl b => .bl b
  | _, _, .int i => .int i
  | _, _, .str s => .str s
  | _, _, .tup n e r => .tup n (e.to fun _ q => by rw [upd_ne (fun z => n (.inl (by rw [z]; exact hp)))]; exact q) (RDs.off hp r)
  | _, _, .lst n e r => .lst n (by rw [upd_ne (fun z => n (.inl (by rw [z]; exact hp)))]; exact e) (RDs.off hp r)
  | _, _, .dic n e r => .dic n (by rw [upd_ne (fun z => n (.inl (by rw [z]; exact hp)))]; exact e) (RDk.off hp r)
  | _, _, .dit n e r => .dit n (by rw [upd_ne (fun z => n (.inl (by rw [z]; exact hp)))]; exact e) (RDt.off hp r)
theorem RDs.off {M : Mm} {H : Hp} {p : Addr} {o : HO} (hp : p ∈ M.u) : ∀ {v : List V} {d : List D}, RDs M H v d → RDs M (upd H p o) v d
  | _, _, .nil => .nil
  | _, _, .cons a r => .cons (RD.off hp a) (RDs.off hp r)
theorem RDk.off {M : Mm} {H : Hp} {p : Addr} {o : HO} (hp : p ∈ M.u) : ∀ {v : List (Key × V)} {d : List (D × D)}, RDk M H v d → RDk M (upd H p o) v d
  | _, _, .nil => .nil
  | _, _, .cons a r => .cons (RD.off hp a) (RDk.off hp r)
theorem RDt.off {M : Mm} {H : Hp} {p : Addr} {o : HO} (hp : p ∈ M.u) : ∀ {v : List (List Key × V)} {d : List (D × D)}, RDt M H v d → RDt M (upd H p o) v d
  | _, _, .nil => .nil
  | _, _, .cons a r => .cons (RD.off hp a) (RDt.off hp r)
end
theorem RO.off {M : Mm} {H : Hp} {p a : Addr} {o : HO} {m : MO} (hp : p ∈ M.u) (hn : a ≠ p) (r : RO M H a m) : RO M (upd H p o) a m := by
  cases m with
  | lst ds => obtain ⟨xs, h, r⟩ := r; exact ⟨xs, by rw [upd_ne hn]; exact h, r.off hp⟩
  | dic ds => obtain ⟨xs, h, r⟩ := r; exact ⟨xs, by rw [upd_ne hn]; exact h, r.off hp⟩
  | dit ds => obtain ⟨xs, h, r⟩ := r; exact ⟨xs, by rw [upd_ne hn]; exact h, r.off hp⟩
  | ins C fs => obtain ⟨dx, gs, h, r⟩ := r; exact ⟨dx, gs, by rw [upd_ne hn]; exact h, r.to fun _ _ => RD.off hp⟩
  | tab q P =>
    obtain ⟨z, ps, h, t, r⟩ := r
    refine ⟨z, ps, by rw [upd_ne hn]; exact h, t, fun pos cv hc => ?_⟩
    obtain ⟨c, e1, n, e2⟩ := r pos cv hc
    exact ⟨c, e1, n, by rw [upd_ne (fun z => n (.inl (by rw [z]; exact hp)))]; exact e2⟩
theorem Rep.off {M : Mm} {H : Hp} {h : Hh} (r : Rep M H h) {p : Addr} {o : HO} (hp : p ∈ M.u) (ho : tpO o = false := by rfl) : Rep M (upd H p o) h := by
  refine ⟨fun a m => ?_, r.len, r.inj, fun i a e => ?_, r.dead⟩
  · obtain ⟨h1, u, e, ht⟩ := r.us a m
    refine ⟨h1, ?_⟩
    by_cases z : a = p
    · subst z; exact ⟨o, upd_same, ho⟩
    · exact ⟨u, by rw [upd_ne z]; exact e, ht⟩
  · obtain ⟨u, hu, ro⟩ := r.at_ i a e
    exact ⟨u, hu, ro.off hp fun z => (r.us p hp).1 (by rw [← z]; exact List.mem_of_getElem? e)⟩
theorem RV.off {M : Mm} {H : Hp} {p : Addr} {o : HO} {v : V} (hp : p ∈ M.u) : ∀ {w : W}, RV M H v w → RV M (upd H p o) v w
  | .dat _, r => RD.off hp r
  | .ref _, r => r
  | .scr _, ⟨a, u, e, n, q⟩ => ⟨a, u, e, n, by rw [upd_ne (fun z => n (.inl (by rw [z]; exact hp)))]; exact q⟩
  | .pack _, ⟨a, u, e, n, q, r⟩ => ⟨a, u, e, n, by rw [upd_ne (fun z => n (.inl (by rw [z]; exact hp)))]; exact q, r.move (fun _ _ z => z) fun _ _ => RD.off hp⟩
  | .lock _, ⟨a, u, kvs, e, n, q, r⟩ => ⟨a, u, kvs, e, n, by rw [upd_ne (fun z => n (.inl (by rw [z]; exact hp)))]; exact q, r.off hp⟩
  | .ins _ _, ⟨a, u, gs, e, n, q, r⟩ => ⟨a, u, gs, e, n, by rw [upd_ne (fun z => n (.inl (by rw [z]; exact hp)))]; exact q, r.to fun _ _ => RD.off hp⟩
  | .row _, ⟨a, o, xs, e, n, d, q, r⟩ => ⟨a, o, xs, e, n, d, by rw [upd_ne (fun z => n (.inl (by rw [z]; exact hp)))]; exact q, RDs.off hp r⟩
  | .exc _ _ _, ⟨a, d, gs, e, r⟩ => ⟨a, d, gs, e, r.to (fun _ _ _ n => n) (fun b _ q _ n => by rw [upd_ne (fun z => n (.inl (by rw [z]; exact hp)))]; exact q) fun _ _ => RD.off hp⟩
theorem RS.off {M : Mm} {H : Hp} {ρ : Env} {σ : L2.St} {p : Addr} {o : HO} (hp : p ∈ M.u) (r : RS M H ρ σ) : RS M (upd H p o) ρ σ := ⟨r.1, fun i w e => by
  obtain ⟨v, e1, q⟩ := r.2 i w e
  exact ⟨v, e1, q.off hp⟩⟩
theorem RV.moveu {M M' : Mm} {H H' : Hp} (x : Ext M M' H H') (hm : M'.m = M.m) {v : V} : ∀ {w : W}, RV M H v w → RV M' H' v w
  | .dat _, r => RD.mono x r
  | .ref n, ⟨a, e, r⟩ => ⟨a, by rw [hm]; exact e, r⟩
  | .scr ns, ⟨a, o, e, n, q⟩ => ⟨a, o, e, x.out n q, x.st n q⟩
  | .pack its, ⟨a, xs, e, n, q, r⟩ => ⟨a, xs, e, x.out n q, x.st n q, r.move (fun i b z => by rw [hm]; exact z) fun _ _ => RD.mono x⟩
  | .lock es, ⟨a, o, kvs, e, n, q, r⟩ => ⟨a, o, kvs, e, x.out n q, x.st n q, r.mono x⟩
  | .ins _ _, ⟨a, o, gs, e, n, q, r⟩ => ⟨a, o, gs, e, x.out n q, x.st n q, r.to fun _ _ => RD.mono x⟩
  | .row _, ⟨a, o, xs, e, n, d, q, r⟩ => ⟨a, o, xs, e, x.out n q, d, x.st n q, RDs.mono x r⟩
  | .exc _ _ _, ⟨a, d, gs, e, r⟩ => ⟨a, d, gs, e, r.to (fun _ _ q n => x.out n q) (fun _ _ q _ n => x.st n q) fun _ _ => RD.mono x⟩
theorem RS.moveu {M M' : Mm} {H H' : Hp} (x : Ext M M' H H') (hm : M'.m = M.m) {ρ : Env} {σ : L2.St} (r : RS M H ρ σ) : RS M' H' ρ σ := ⟨r.1, fun i w e => by
  obtain ⟨v, e1, q⟩ := r.2 i w e
  exact ⟨v, e1, q.moveu x hm⟩⟩
mutual
theorem RD.sub {M M' : Mm} {H : Hp} (x : ∀ a, M'.Has a → M.Has a) : ∀ {v : V} {d : D}, RD M H v d → RD M' H v d
  | _, _, .non => .non
  | _, _, .bl b => .bl b
  | _, _, .int i => .int i
  | _, _, .str s => .str s
  | _, _, .tup n e r => .tup (fun z => n (x _ z)) e (RDs.sub x r)
  | _, _, .lst n e r => .lst (fun z => n (x _ z)) e (RDs.sub x r)
  | _, _, .dic n e r => .dic (fun z => n (x _ z)) e (RDk.sub x r)
  | _, _, .dit n e r => .dit (fun z => n (x _ z)) e (RDt.sub x r)
theorem RDs.sub {M M' : Mm} {H : Hp} (x : ∀ a, M'.Has a → M.Has a) : ∀ {v : List V} {d : List D}, RDs M H v d → RDs M' H v d
  | _, _, .nil => .nil
  | _, _, .cons a r => .cons (RD.sub x a) (RDs.sub x r)
theorem RDk.sub {M M' : Mm} {H : Hp} (x : ∀ a, M'.Has a → M.Has a) : ∀ {v : List (Key × V)} {d : List (D × D)}, RDk M H v d → RDk M' H v d
  | _, _, .nil => .nil
  | _, _, .cons a r => .cons (RD.sub x a) (RDk.sub x r)
theorem RDt.sub {M M' : Mm} {H : Hp} (x : ∀ a, M'.Has a → M.Has a) : ∀ {v : List (List Key × V)} {d : List (D × D)}, RDt M H v d → RDt M' H v d
  | _, _, .nil => .nil
  | _, _, .cons a r => .cons (RD.sub x a) (RDt.sub x r)
end
theorem RO.sub {M M' : Mm} {H : Hp} {a : Addr} {m : MO} (x : ∀ a, M'.Has a → M.Has a) (r : RO M H a m) : RO M' H a m := by
  cases m with
  | lst ds => obtain ⟨xs, h, r⟩ := r; exact ⟨xs, h, r.sub x⟩
  | dic ds => obtain ⟨xs, h, r⟩ := r; exact ⟨xs, h, r.sub x⟩
  | dit ds => obtain ⟨xs, h, r⟩ := r; exact ⟨xs, h, r.sub x⟩
  | ins C fs => obtain ⟨dx, gs, h, r⟩ := r; exact ⟨dx, gs, h, r.to fun _ _ => RD.sub x⟩
  | tab q P =>
    obtain ⟨z, ps, h, t, r⟩ := r
    refine ⟨z, ps, h, t, fun pos cv hc => ?_⟩
    obtain ⟨c, e1, n, e2⟩ := r pos cv hc
    exact ⟨c, e1, fun z => n (x _ z), e2⟩
theorem less_has {u : List Addr} {m : List (Option Addr)} {p : Addr} : ∀ b, Mm.Has ⟨u, m⟩ b → Mm.Has ⟨p :: u, m⟩ b := fun b z => by
  rcases z with z | z
  · exact .inl (List.mem_cons_of_mem _ z)
  · exact .inr z
theorem Rep.told {u : List Addr} {m : List (Option Addr)} {p : Addr} {H : Hp} {h : Hh} (r : Rep ⟨p :: u, m⟩ H h) : Rep ⟨u, m⟩ H h :=
  ⟨fun a z => r.us a (List.mem_cons_of_mem _ z), r.len, r.inj, fun i a e => by
    obtain ⟨o, h1, h2⟩ := r.at_ i a e
    exact ⟨o, h1, h2.sub less_has⟩, r.dead⟩
theorem Rep.owned {u : List Addr} {m : List (Option Addr)} {p : Addr} {H : Hp} {h : Hh} {o : MO} (r : Rep ⟨p :: u, m⟩ H h) (hp : p ∉ u) (ro : RO ⟨p :: u, m⟩ H p o) : Rep ⟨u, m ++ [some p]⟩ H (h ++ [some o]) := by
  have hpm : some p ∉ m := (r.us p List.mem_cons_self).1
  have hsub : ∀ b, Mm.Has ⟨u, m ++ [some p]⟩ b → Mm.Has ⟨p :: u, m⟩ b := fun b z => by
    rcases z with z | z
    · exact .inl (List.mem_cons_of_mem _ z)
    · rcases List.mem_append.mp z with z | z
      · exact .inr z
      · have : b = p := by simpa using z
        rw [this]; exact .inl List.mem_cons_self
  have rl : m.length = h.length := r.len
  have cases_ : ∀ (i : Nat) (z : Option Addr), (m ++ [some p])[i]? = some z → (i < m.length ∧ m[i]? = some z) ∨ (i = m.length ∧ z = some p) := fun i z e => by
    by_cases hi : i < m.length
    · rw [List.getElem?_append_left hi] at e
      exact .inl ⟨hi, e⟩
    · rw [List.getElem?_append_right (by omega)] at e
      by_cases h0 : i - m.length = 0
      · rw [h0] at e
        exact .inr ⟨by omega, by simpa using e.symm⟩
      · rw [List.getElem?_eq_none (by simp; omega)] at e
        cases e
  refine ⟨fun a z => ?_, by simp [rl], fun i j a e1 e2 => ?_, fun i a e => ?_, fun i e => ?_⟩
  · obtain ⟨h1, q⟩ := r.us a (List.mem_cons_of_mem _ z)
    refine ⟨fun y => ?_, q⟩
    rcases List.mem_append.mp y with y | y
    · exact h1 y
    · have : a = p := by simpa using y
      rw [this] at z; exact hp z
  · rcases cases_ i _ e1 with ⟨h1, e1⟩ | ⟨h1, e1⟩ <;> rcases cases_ j _ e2 with ⟨h2, e2⟩ | ⟨h2, e2⟩
    · exact r.inj i j a e1 e2
    · cases e2; exact absurd (List.mem_of_getElem? e1) hpm
    · cases e1; exact absurd (List.mem_of_getElem? e2) hpm
    · omega
  · rcases cases_ i _ e with ⟨h1, e1⟩ | ⟨h1, e1⟩
    · obtain ⟨z, hz, q⟩ := r.at_ i a e1
      exact ⟨z, by rw [List.getElem?_append_left (by rw [← rl]; exact h1)]; exact hz, q.sub hsub⟩
    · cases e1
      subst h1
      exact ⟨o, by rw [rl]; simp, ro.sub hsub⟩
  · rcases cases_ i _ e with ⟨h1, e1⟩ | ⟨h1, e1⟩
    · rw [List.getElem?_append_left (by rw [← rl]; exact h1)]
      exact r.dead i e1
    · cases e1
theorem ExtE.reu {M M' : Mm} {H H' : Hp} (x : ExtE M M' H H') (u : List Addr) : ExtE ⟨u, M.m⟩ ⟨u, M'.m⟩ H H' := ⟨rfl, x.trk, x.stab, x.fresh, x.len, x.pre⟩
theorem ExtE.beside {M M' : Mm} {H H' : Hp} {p : Addr} {o : HO} (x : ExtE M M' H H') (n : H p = none) : ExtE M M' H (upd H' p o) :=
  ⟨x.same, fun a u e => by obtain ⟨u', e'⟩ := x.trk a u e; exact trk_upd a u' e', fun a u e na => by rw [upd_ne (ne_of_none e n)]; exact x.stab a u e na, x.fresh, x.len, x.pre⟩
theorem ExtE.into {M : Mm} {m : List (Option Addr)} {H H' : Hp} {p : Addr} (x : ExtE M ⟨M.u, m⟩ H H') (n : H p = none) : Ext M ⟨p :: M.u, m⟩ H H' :=
  ⟨fun a z => by
    rcases List.mem_cons.mp z with rfl | z
    · exact .inr n
    · exact .inl z, x.trk, x.stab, x.fresh, x.len, fun i hi => .inl (x.pre i hi)⟩
theorem lc_imp {gi : IM} {k : TM} {t : BM} {f : EM} {ts vs : List Nat} {m : Bool} (hs : ∀ j ∈ ts, j ∈ vs) : ∀ σ H Q, tE (fLc m gi k t f vs) σ H Q → tLc (tI gi) (tGd ts k) (tT t) (tE f) vs σ H Q := fun σ H Q => by
  rintro ⟨M, h, ρ, r, rs, c⟩
  obtain ⟨ds, h1, e1, c1⟩ := Cont.bind (δ := Unit) c
  refine ⟨M, h, ρ, ds, h1, r, rs, e1, fun M1 H1 J x1 r1 it D nD => ?_⟩
  obtain ⟨out, h2, e2, c2⟩ := Cont.bind (δ := Unit) (c1 M1 H1 x1)
  have x0 := ext_made (M := M1) (o := .lst []) nD
  have r0 := r1.make (o := .lst []) nD
  have rs0 : RS (M1.made D) (upd H1 D (.lst [])) (wipeE ρ vs) (L2.wipe σ vs) := ((rs.mono x1).moveu x0 rfl).wipe vs
  let P : Nat → Hp → Prop := fun i Hi => ∃ mi hi acc dacc rest, ExtE M1 ⟨M1.u, mi⟩ H1 Hi ∧ Rep ⟨D :: M1.u, mi⟩ Hi hi ∧ RS ⟨D :: M1.u, mi⟩ Hi (wipeE ρ vs) (L2.wipe σ vs) ∧ Hi D = some (.lst acc) ∧ RDs ⟨D :: M1.u, mi⟩ Hi acc dacc ∧ lcL k t f (wipeE ρ vs) (ds.drop i) hi = some (rest, h2) ∧ dacc ++ rest = out
  have outlen : out.length ≤ sizeLine := by
    have c3 := c2 M1 H1 (.refl _ _)
    by_cases hz : out.length ≤ sizeLine
    · exact hz
    · rw [if_neg hz] at c3; exact c3.no.elim
  refine ⟨fun i n Hi => n + i = ds.length ∧ P i Hi, ⟨ds.length, by omega, M1.m, h1, [], [], out, (ExtE.refl M1 H1).beside nD, r0, rs0, upd_same, .nil, by rw [List.drop_zero]; exact e2, rfl⟩, fun i n Hi w => ?_⟩
  obtain ⟨hn, mi, hi, acc, dacc, rest, xi, ri, rsi, hD, qa, el, eo⟩ := w
  have inD : D ∈ (⟨D :: M1.u, mi⟩ : Mm).u := List.mem_cons_self
  have itx := xi.into nD
  obtain ⟨ity, its⟩ := it _ Hi itx fun a ha => ri.tracked ha
  by_cases hlt : i < ds.length
  · refine .inr ?_
    have ed : ds[i]? = some ds[i] := List.getElem?_eq_getElem hlt
    obtain ⟨go, yl⟩ := ity i _ ed
    rw [List.drop_eq_getElem_cons hlt] at el
    refine ⟨go, P (i + 1), fun H' p => ⟨n - 1, by omega, by omega, p⟩, fun x H2 hy => ?_⟩
    obtain ⟨sm, rx⟩ := yl x H2 hy
    obtain ⟨ri2, xi2⟩ := ri.grow sm
    unfold lcL at el
    split at el
    · rename_i ρ1 ek
      refine ⟨_, hi, wipeE ρ vs, .dat ds[i], ρ1, ri2, rsi.mono xi2, rx, ek, fun σ2 rs2 l2 o2 => ⟨wipe_of (by rw [l2, L2.wipe_length]) o2 hs, ?_⟩⟩
      cases et : t ρ1 hi with
      | none => rw [et] at el; cases el
      | some pr =>
        obtain ⟨b, h3⟩ := pr
        rw [et] at el
        simp only [obnd_some] at el
        refine ⟨_, hi, ρ1, ri2, rs2, b, h3, et, fun M3 H3 b' x3 r3 eb => ?_⟩
        subst eb
        obtain ⟨u3, m3⟩ := M3
        obtain rfl : u3 = D :: M1.u := x3.same
        have xi3 : ExtE M1 ⟨M1.u, m3⟩ H1 H3 := xi.trans ((xi2.trans x3).reu M1.u)
        have hD3 : H3 D = some (.lst acc) := x3.stab _ _ (sm _ _ hD) fun z => (ri.us D inD).1 z
        cases b' with
        | false =>
          simp only [Bool.false_eq_true, if_false] at el
          exact iteF ⟨m3, h3, acc, dacc, rest, xi3, r3, (rsi.mono xi2).mono x3, hD3, (qa.mono xi2.ext).mono x3.ext, el, eo⟩
        | true =>
          simp only [if_true] at el
          refine iteT ?_
          cases ef : f ρ1 h3 with
          | none => rw [ef] at el; cases el
          | some pr =>
            obtain ⟨w, h4⟩ := pr
            rw [ef] at el
            simp only [obnd_some] at el
            refine ⟨_, h3, ρ1, r3, rs2.mono x3, w, h4, ef, fun M4 H4 y x4 r4 ry => ?_⟩
            obtain ⟨u4, m4⟩ := M4
            obtain rfl : u4 = D :: M1.u := x4.same
            have hD4 : H4 D = some (.lst acc) := x4.stab _ _ hD3 fun z => (r3.us D List.mem_cons_self).1 z
            split at el
            · rename_i d'
              cases er : lcL k t f (wipeE ρ vs) (ds.drop (i + 1)) h4 with
              | none => rw [er] at el; cases el
              | some pr =>
                obtain ⟨rest', h5⟩ := pr
                rw [er] at el
                simp only [obnd_some, Option.some.injEq, Prod.mk.injEq] at el
                obtain ⟨e5, e6⟩ := el
                subst e5 e6
                have q4 := ((qa.mono xi2.ext).mono x3.ext).mono x4.ext
                have hlen : acc.length < sizeLine := by
                  have h7 := congrArg List.length eo
                  rw [List.length_append, List.length_cons] at h7
                  rw [qa.length]; omega
                have in4 : D ∈ (⟨D :: M1.u, m4⟩ : Mm).u := List.mem_cons_self
                exact ⟨acc, hD4, hlen, m4, h4, acc ++ [y], dacc ++ [d'], rest', (xi3.trans (x4.reu M1.u)).beside nD, r4.off in4, (((rsi.mono xi2).mono x3).mono x4).off in4, upd_same, (q4.off in4).app (.cons (RD.off in4 ry) .nil), er, by rw [List.append_assoc]; exact eo⟩
            · cases el
    · cases el
  · refine .inl ?_
    have hi' : i = ds.length := by omega
    subst hi'
    rw [List.drop_length] at el
    cases el
    rw [List.append_nil] at eo
    subst eo
    refine ⟨its, ?_⟩
    have c3 := c2 M1 H1 (.refl _ _)
    rw [if_pos outlen] at c3
    have nu : D ∉ M1.u := fun z => r1.new nD (.inl z)
    have nm : some D ∉ mi := (ri.us D inD).1
    cases m with
    | false =>
      exact c3.fin xi ri.told (RD.lst (fun z => z.elim nu nm) hD (qa.sub less_has))
    | true =>
      refine c3.fin (M' := ⟨M1.u, mi ++ [some D]⟩) ⟨rfl, xi.trk, xi.stab, fun a z => ?_, Nat.le_trans xi.len (by simp), fun j hj => ?_⟩ (ri.owned nu ⟨acc, hD, qa⟩) ⟨D, ?_, rfl⟩
      · rcases List.mem_append.mp z with z | z
        · exact xi.fresh a z
        · have : a = D := by simpa using z
          rw [this]; exact .inr nD
      · have hl : j < mi.length := Nat.lt_of_lt_of_le hj xi.len
        show (mi ++ [some D])[j]? = _
        rw [List.getElem?_append_left hl]; exact xi.pre j hj
      · show (mi ++ [some D])[h2.length]? = _
        rw [← show mi.length = h2.length from ri.len]; simp
section
variable {X : Cx}
theorem d_lc (m : Bool) {elt tg iter : Expr} {ifs : List Expr} {scope : Scope} {own : List (Str × Nat)} {pos : Pos} {gi : IM} {ts : List Nat} {k : TM} {t : BM} {f : EM} (hc : X.calm = true) (hN : X.N.Nodup) (hi : DI X tg iter gi) (ok : BlkOk X.N X.env.scope scope own)
    (hg : ∀ (s : Shared) (H : Hp) (C : Addr) (cl : List (Str × Addr)) (fp : List Addr), DG (X.blk s H scope (compEnvC scope cl C X.env) fp) tg ts k) (ht : ∀ (s : Shared) (H : Hp) (C : Addr) (cl : List (Str × Addr)) (fp : List Addr), DTs (X.blk s H scope (compEnvC scope cl C X.env) fp) ifs t)
    (he : ∀ (s : Shared) (H : Hp) (C : Addr) (cl : List (Str × Addr)) (fp : List Addr), DE (X.blk s H scope (compEnvC scope cl C X.env) fp) elt f) (hsub : ∀ j ∈ ts, j ∈ own.map (·.2)) (hs : ∀ x, foldedSetIterable iter X.env x = pure x := by intro _; rfl) :
    DE X (.ListComp elt [⟨tg, iter, ifs, 0⟩] scope pos) (fLc m gi k t f (own.map (·.2))) := (pe_lc hc hN hi ok hg ht he hs).weak (lc_imp hsub)
end
end DL
set_option maxRecDepth 100000
set_option maxHeartbeats 4000000
namespace DL
open PySem PySem.Spec PyProof.Rows L2
inductive Out where
  | nx (ρ : Env) | rt (w : W) | bk (ρ : Env) | ct (ρ : Env)
abbrev SM := Env → Hh → Option (Out × Hh)
def SPost (D : Ends) (M0 : Mm) (H0 : Hp) (r : Option (Out × Hh)) : Prop := match r with
  | some (.nx ρ, h) => ∀ M H σ, M.u = M0.u → Ext M0 M H0 H → Rep M H h → RS M H ρ σ → D.nx σ H
  | some (.rt w, h) => ∀ M H v, M.u = M0.u → Ext M0 M H0 H → Rep M H h → RV M H v w → D.rt v H
  | some (.bk ρ, h) => ∀ M H σ, M.u = M0.u → Ext M0 M H0 H → Rep M H h → RS M H ρ σ → D.bk σ H
  | some (.ct ρ, h) => ∀ M H σ, M.u = M0.u → Ext M0 M H0 H → Rep M H h → RS M H ρ σ → D.ct σ H
  | none => False
theorem SPost.mono {D : Ends} {M0 M1 : Mm} {H0 H1 : Hp} {r : Option (Out × Hh)} (p : SPost D M0 H0 r) (u : M1.u = M0.u) (x : Ext M0 M1 H0 H1) : SPost D M1 H1 r := by
  match r, p with
  | some (.nx ρ, h), p => exact fun M H σ e y => p M H σ (e.trans u) (x.trans y)
  | some (.rt w, h), p => exact fun M H σ e y => p M H σ (e.trans u) (x.trans y)
  | some (.bk ρ, h), p => exact fun M H σ e y => p M H σ (e.trans u) (x.trans y)
  | some (.ct ρ, h), p => exact fun M H σ e y => p M H σ (e.trans u) (x.trans y)
def tS (f : SM) : TS := fun D σ H => ∃ M h ρ, Rep M H h ∧ RS M H ρ σ ∧ SPost D M H (f ρ h)
abbrev DS (X : Cx) (st : Stmt) (f : SM) : Prop := PS X st (tS f)
abbrev DSs (X : Cx) (sts : List Stmt) (f : SM) : Prop := PSs X sts (tS f)
def sSeq (f g : SM) : SM := fun ρ h => match f ρ h with
  | some (.nx ρ1, h1) => g ρ1 h1
  | r => r
def sSkip : SM := fun ρ h => some (.nx ρ, h)
def sNever : SM := fun _ _ => none
section
variable {X : Cx}
theorem seq_imp {f g : SM} : ∀ D σ H, tS (sSeq f g) D σ H → tSeq (tS f) (tS g) D σ H := fun D σ H => by
  rintro ⟨M, h, ρ, r, rs, p⟩
  refine ⟨M, h, ρ, r, rs, ?_⟩
  unfold sSeq at p
  cases e : f ρ h with
  | none => rw [e] at p; exact p
  | some q =>
    obtain ⟨o, h1⟩ := q
    rw [e] at p
    cases o with
    | nx ρ1 => exact fun M1 H1 σ1 u x r1 rs1 => ⟨M1, h1, ρ1, r1, rs1, p.mono u x⟩
    | rt w => exact p
    | bk ρ1 => exact p
    | ct ρ1 => exact p
theorem ds_cons {st : Stmt} {sts : List Stmt} {f g : SM} (h1 : DS X st f) (h2 : DSs X sts g) : DSs X (st :: sts) (sSeq f g) := (pss_cons h1 h2).weak seq_imp
theorem ds_one {st : Stmt} {f : SM} (h1 : DS X st f) : DSs X [st] f := pss_one h1
theorem ds_nil : DSs X [] sSkip := pss_nil.weak fun D σ H => by
  rintro ⟨M, h, ρ, r, rs, p⟩
  exact p M H σ rfl (.refl _ _) r rs
theorem ds_never {st : Stmt} : DS X st sNever := ps_never.weak fun D σ H => by
  rintro ⟨M, h, ρ, r, rs, p⟩
  exact p
def sbnd {α : Type} (r : Option (α × Hh)) (k : α → Hh → Option (Out × Hh)) : Option (Out × Hh) := match r with
  | some (a, h) => k a h
  | none => none
@[simp] theorem sbnd_some {α : Type} (a : α) (h : Hh) (k : α → Hh → Option (Out × Hh)) : sbnd (some (a, h)) k = k a h := rfl
@[simp] theorem sbnd_none {α : Type} (k : α → Hh → Option (Out × Hh)) : sbnd none k = none := rfl
theorem SPost.bind {α : Type} {D : Ends} {M : Mm} {H : Hp} {r : Option (α × Hh)} {k : α → Hh → Option (Out × Hh)} (p : SPost D M H (sbnd r k)) : ∃ a h1, r = some (a, h1) ∧ SPost D M H (k a h1) := by
  cases r with
  | none => exact p.elim
  | some q => obtain ⟨a, h1⟩ := q; exact ⟨a, h1, rfl, p⟩
def sExpr (f : EM) : SM := fun ρ h => sbnd (f ρ h) fun _ h1 => some (.nx ρ, h1)
theorem ds_expr {e : Expr} {pos : Pos} {f : EM} (he : DE X e f) (hs : swapsWith e none pos.line X.env = pure false := by rfl) : DS X (.Expr e pos) (sExpr f) := (ps_expr he hs).weak fun D σ H => by
  rintro ⟨M, h, ρ, r, rs, p⟩
  obtain ⟨w, h1, e1, p1⟩ := p.bind
  exact ⟨M, h, ρ, r, rs, w, h1, e1, fun M1 H1 v x1 r1 v1 => p1 M1 H1 σ x1.same x1.ext r1 (rs.mono x1)⟩
def sRet (f : EM) : SM := fun ρ h => sbnd (f ρ h) fun w h1 => some (.rt w, h1)
theorem ds_ret {e : Expr} {pos : Pos} {f : EM} (he : DE X e f) : DS X (.Return (some e) pos) (sRet f) := (ps_ret he).weak fun D σ H => by
  rintro ⟨M, h, ρ, r, rs, p⟩
  obtain ⟨w, h1, e1, p1⟩ := p.bind
  exact ⟨M, h, ρ, r, rs, w, h1, e1, fun M1 H1 v x1 r1 v1 => p1 M1 H1 v x1.same x1.ext r1 v1⟩
def sRetN : SM := fun _ h => some (.rt (.dat .none), h)
def sIf (t : BM) (f g : SM) : SM := fun ρ h => sbnd (t ρ h) fun b h1 => if b = true then f ρ h1 else g ρ h1
theorem ds_if {c : Expr} {a b : List Stmt} {pos : Pos} {t : BM} {f g : SM} (hc : DT X c t) (ha : DSs X a f) (hb : DSs X b g) : DS X (.If c a b pos) (sIf t f g) := (ps_if hc ha hb).weak fun D σ H => by
  rintro ⟨M, h, ρ, r, rs, p⟩
  obtain ⟨w, h1, e1, p1⟩ := p.bind
  refine ⟨M, h, ρ, r, rs, w, h1, e1, fun M1 H1 v x1 r1 v1 => ?_⟩
  subst v1
  have p2 := p1.mono x1.same x1.ext
  cases v with
  | true => exact iteT ⟨M1, h1, ρ, r1, rs.mono x1, p2⟩
  | false => exact iteF ⟨M1, h1, ρ, r1, rs.mono x1, p2⟩
def sAsg (f : EM) (g : TM) : SM := fun ρ h => sbnd (f ρ h) fun w h1 => match g w ρ h1 with
  | some ρ1 => some (.nx ρ1, h1)
  | none => none
theorem asg_imp {f : EM} {g : TM} {ts : List Nat} : ∀ D σ H, tS (sAsg f g) D σ H → tAsg (tE f) (tGd ts g) D σ H := fun D σ H => by
  rintro ⟨M, h, ρ, r, rs, p⟩
  obtain ⟨w, h1, e1, p1⟩ := p.bind
  refine ⟨M, h, ρ, r, rs, w, h1, e1, fun M1 H1 v x1 r1 v1 => ?_⟩
  split at p1
  · rename_i ρ1 e2
    exact ⟨M1, h1, ρ, w, ρ1, r1, rs.mono x1, v1, e2, fun σ' rs' _ _ => p1 M1 H1 σ' x1.same x1.ext r1 rs'⟩
  · exact p1.elim
theorem ds_asg {tg e : Expr} {pos : Pos} {f : EM} {g : TM} {ts : List Nat} (he : DE X e f) (hg : DG X tg ts g) (hs : swapsWithSole [tg] e pos.line X.env = pure false := by rfl) (hw : swappedStores [tg] e X.env = pure none := by rfl) (h1 : (assignEach [tg] X.env).map (·.2) = [assign tg X.env] := by rfl) : DS X (.Assign [tg] e pos) (sAsg f g) := (ps_asg he hg hs hw h1).weak asg_imp
theorem ds_set {i : Nat} {x : Str} {e : Expr} {pos pos' : Pos} {f : EM} (h : PS X (.Assign [.Name x pos'] e pos) (tAsg (tE f) (gName i))) : DS X (.Assign [.Name x pos'] e pos) (sAsg f (gN i)) := h.weak fun D σ H => by
  rintro ⟨M, h, ρ, r, rs, p⟩
  obtain ⟨w, h1, e1, p1⟩ := p.bind
  exact ⟨M, h, ρ, r, rs, w, h1, e1, fun M1 H1 v x1 r1 v1 => p1 M1 H1 _ x1.same x1.ext r1 ((rs.mono x1).set v1)⟩
theorem ds_setLc (m : Bool) {i : Nat} {y : Str} {py : Pos} {elt tg iter : Expr} {ifs : List Expr} {scope : Scope} {own : List (Str × Nat)} {pos spos : Pos} {gi : IM} {ts : List Nat} {k : TM} {t : BM} {f : EM} (hc : X.calm = true) (hN : X.N.Nodup) (hy : X.N[i]? = some y) (hyl : X.env.scope.names.lookup y = some .local)
    (hsw : swapsWith (.ListComp elt [⟨tg, iter, ifs, 0⟩] scope pos) (some (.Name y py)) spos.line X.env = pure true) (hi : DI X tg iter gi) (ok : BlkOk X.N X.env.scope scope own)
    (hg : ∀ (s : Shared) (H : Hp) (C : Addr) (cl : List (Str × Addr)) (fp : List Addr), DG (X.blk s H scope (compEnvC scope cl C X.env) fp) tg ts k) (ht : ∀ (s : Shared) (H : Hp) (C : Addr) (cl : List (Str × Addr)) (fp : List Addr), DTs (X.blk s H scope (compEnvC scope cl C X.env) fp) ifs t)
    (he : ∀ (s : Shared) (H : Hp) (C : Addr) (cl : List (Str × Addr)) (fp : List Addr), DE (X.blk s H scope (compEnvC scope cl C X.env) fp) elt f) (hsub : ∀ j ∈ ts, j ∈ own.map (·.2)) (hs : ∀ x, foldedSetIterable iter X.env x = pure x := by intro _; rfl) :
    DS X (.Assign [.Name y py] (.ListComp elt [⟨tg, iter, ifs, 0⟩] scope pos) spos) (sAsg (fLc m gi k t f (own.map (·.2))) (gN i)) := (ps_setLc hc hN hy hyl hsw hi ok hg ht he hs).weak fun D σ H => by
  rintro ⟨M, h, ρ, r, rs, p⟩
  obtain ⟨w, h1, e1, p1⟩ := p.bind
  exact lc_imp hsub σ H _ ⟨M, h, ρ, r, rs, w, h1, e1, fun M1 H1 v x1 r1 v1 => p1 M1 H1 _ x1.same x1.ext r1 ((rs.mono x1).set v1)⟩
def sPar (g : AM) (is : List Nat) : SM := fun ρ h => sbnd (g ρ h) fun ws h1 => if ws.length = is.length then some (.nx ((is.zip ws).foldl (fun ρ p => ρ.set p.1 (some p.2)) ρ), h1) else none
theorem ds_par2 {i j : Nat} {st : Stmt} {g : AM} (h : PS X st (tPar i j (tA g))) : DS X st (sPar g [i, j]) := h.weak fun D σ H => by
  rintro ⟨M, h, ρ, r, rs, p⟩
  obtain ⟨ws, h1, e1, p1⟩ := p.bind
  refine ⟨M, h, ρ, r, rs, ws, h1, e1, fun M1 H1 vs x1 r1 v1 => ?_⟩
  split at p1
  · rename_i hz
    match ws, hz, v1, p1 with
    | [w1, w2], _, v1, p1 =>
      obtain ⟨a, b, rfl, ra, rb⟩ := rvs2 v1
      exact ⟨a, b, rfl, p1 M1 H1 _ x1.same x1.ext r1 (((rs.mono x1).set ra).set rb)⟩
  · exact p1.elim
def setW (o i : W) (w : W) (h : Hh) : Option Hh := match o, i, w with
  | .ref n, .dat (.int k), .dat d => match lstAt h n with
    | some ds => match ixN ds.length k with
      | some j => some (h.set n (some (.lst (ds.set j d))))
      | none => none
    | none => none
  | _, _, _ => none
def sSub (f o i : EM) : SM := fun ρ h => sbnd (f ρ h) fun w h1 => sbnd (o ρ h1) fun a h2 => sbnd (i ρ h2) fun b h3 => match setW a b w h3 with
  | some h4 => some (.nx ρ, h4)
  | none => none
theorem sub_imp {f o i : EM} : ∀ D σ H, tS (sSub f o i) D σ H → tAsg (tE f) (gSub (tE o) (tE i) rSetL) D σ H := fun D σ H => by
  rintro ⟨M, h, ρ, r, rs, p⟩
  obtain ⟨w, h1, e1, p1⟩ := p.bind
  refine ⟨M, h, ρ, r, rs, w, h1, e1, fun M1 H1 v x1 r1 v1 => ?_⟩
  obtain ⟨a, h2, e2, p2⟩ := p1.bind
  refine ⟨M1, h1, ρ, r1, rs.mono x1, a, h2, e2, fun M2 H2 v' x2 r2 v2 => ?_⟩
  obtain ⟨b, h3, e3, p3⟩ := p2.bind
  refine ⟨M2, h2, ρ, r2, (rs.mono x1).mono x2, b, h3, e3, fun M3 H3 v'' x3 r3 v3 => ?_⟩
  have ra := v2.mono x3
  have rw' := (v1.mono x2).mono x3
  unfold setW at p3
  split at p3
  · rename_i h4 e4
    split at e4
    · rename_i n k d
      obtain ⟨ad, ea, rfl⟩ := ra
      cases (show RD M3 H3 _ _ from v3)
      split at e4
      · rename_i ds el
        obtain ⟨xs, hx, q⟩ := lstAt_ok r3 el ea
        split at e4
        · rename_i j ej
          cases e4
          refine ⟨ad, xs, k, j, rfl, rfl, hx, by rw [q.length]; exact ej, ?_⟩
          have x4 := ext_set (H := H3) (o := .lst (xs.set j v)) ea
          have xx := ((x1.trans x2).trans x3).trans x4
          exact p3 M3 _ σ xx.same xx.ext (r3.set ea ⟨_, upd_same, (q.set j rw').mono x4.ext⟩) (rs.mono xx)
        · cases e4
      · cases e4
    · cases e4
  · exact p3.elim
theorem ds_sub {o i e : Expr} {pos tpos : Pos} {f fo fi : EM} (he : DE X e f) (ho : DE X o fo) (hi : DE X i fi) (h : PS X (.Assign [.Subscript o i tpos] e pos) (tAsg (tE f) (gSub (tE fo) (tE fi) rSetL))) : DS X (.Assign [.Subscript o i tpos] e pos) (sSub f fo fi) := h.weak sub_imp
def forL (k : TM) (body : SM) : List D → Env → Hh → Option (Out × Hh)
  | [], ρ, h => some (.nx ρ, h)
  | d :: ds, ρ, h => match k (.dat d) ρ h with
    | some ρ1 => match body ρ1 h with
      | some (.nx ρ2, h2) => forL k body ds ρ2 h2
      | some (.ct ρ2, h2) => forL k body ds ρ2 h2
      | some (.bk ρ2, h2) => some (.nx ρ2, h2)
      | some (.rt w, h2) => some (.rt w, h2)
      | none => none
    | none => none
def sFor (gi : IM) (k : TM) (body : SM) : SM := fun ρ h => sbnd (gi ρ h) fun ds h1 => forL k body ds ρ h1
theorem for_imp {gi : IM} {k : TM} {body : SM} {ts : List Nat} : ∀ D σ H, tS (sFor gi k body) D σ H → tFor (tI gi) (tGd ts k) (tS body) D σ H := fun D σ H => by
  rintro ⟨M, h, ρ, r, rs, p⟩
  obtain ⟨ds, h1, e1, p1⟩ := p.bind
  refine ⟨M, h, ρ, ds, h1, r, rs, e1, fun M1 H1 J x1 r1 it => ?_⟩
  have p2 := p1.mono x1.same x1.ext
  let P : Nat → L2.St → Hp → Prop := fun i σi Hi => ∃ Mi hi ρi, Mi.u = M1.u ∧ Ext M1 Mi H1 Hi ∧ Rep Mi Hi hi ∧ RS Mi Hi ρi σi ∧ SPost D Mi Hi (forL k body (ds.drop i) ρi hi)
  refine ⟨fun i n σi Hi => n + i = ds.length ∧ P i σi Hi, ⟨ds.length, by omega, M1, h1, ρ, rfl, .refl _ _, r1, rs.mono x1, by rw [List.drop_zero]; exact p2⟩, fun i n σi Hi w => ?_⟩
  obtain ⟨hn, Mi, hi, ρi, ui, xi, ri, rsi, pi⟩ := w
  obtain ⟨ity, its⟩ := it Mi Hi xi fun a ha => ri.tracked ha
  by_cases hlt : i < ds.length
  · refine .inr ?_
    have ed : ds[i]? = some ds[i] := List.getElem?_eq_getElem hlt
    obtain ⟨go, yl⟩ := ity i _ ed
    rw [List.drop_eq_getElem_cons hlt] at pi
    refine ⟨go, P (i + 1), fun σ' H' q => ⟨n - 1, by omega, by omega, q⟩, fun x H2 hy => ?_⟩
    obtain ⟨sm, rx⟩ := yl x H2 hy
    obtain ⟨ri2, xi2⟩ := ri.grow sm
    unfold forL at pi
    split at pi
    · rename_i ρ1 ek
      refine ⟨Mi, hi, ρi, .dat ds[i], ρ1, ri2, rsi.mono xi2, rx, ek, fun σ2 rs2 _ _ => ⟨Mi, hi, ρ1, ri2, rs2, ?_⟩⟩
      have pi' := pi.mono rfl xi2.ext
      cases eb : body ρ1 hi with
      | none => rw [eb] at pi'; exact pi'.elim
      | some q =>
        obtain ⟨o, h3⟩ := q
        rw [eb] at pi'
        cases o with
        | nx ρ2 => exact fun M3 H3 σ3 u3 x3 r3 rs3 => ⟨M3, h3, ρ2, u3.trans ui, (xi.trans xi2.ext).trans x3, r3, rs3, SPost.mono pi' u3 x3⟩
        | ct ρ2 => exact fun M3 H3 σ3 u3 x3 r3 rs3 => ⟨M3, h3, ρ2, u3.trans ui, (xi.trans xi2.ext).trans x3, r3, rs3, SPost.mono pi' u3 x3⟩
        | bk ρ2 => exact pi'
        | rt w => exact pi'
    · exact pi.elim
  · refine .inl ?_
    have hi' : i = ds.length := by omega
    subst hi'
    rw [List.drop_length] at pi
    exact ⟨its, pi Mi Hi σi rfl (.refl _ _) ri rsi⟩
theorem ds_for {tg iter : Expr} {body : List Stmt} {pos : Pos} {gi : IM} {k : TM} {ts : List Nat} {f : SM} (hc : X.calm = true) (hp : PassesOwn (model X.prog X.w) X.A X.env X.xe) (hi : DI X tg iter gi) (hg : DG X tg ts k) (hb : DSs X body f) (hs : ∀ x, foldedSetIterable iter X.env x = pure x := by intro _; rfl) : DS X (.For tg iter body [] pos) (sFor gi k f) :=
  (ps_for hp hc hi hg hb hs).weak for_imp
def whileL (t : BM) (body : SM) : Nat → Env → Hh → Option (Out × Hh)
  | 0, _, _ => none
  | n + 1, ρ, h => sbnd (t ρ h) fun b h1 => if b = true then match body ρ h1 with
      | some (.nx ρ2, h2) => whileL t body n ρ2 h2
      | some (.ct ρ2, h2) => whileL t body n ρ2 h2
      | some (.bk ρ2, h2) => some (.nx ρ2, h2)
      | some (.rt w, h2) => some (.rt w, h2)
      | none => none
    else some (.nx ρ, h1)
def sWhile (n : Nat) (t : BM) (body : SM) : SM := whileL t body n
theorem while_imp {n : Nat} {t : BM} {body : SM} : ∀ D σ H, tS (sWhile n t body) D σ H → tWhile (tT t) (tS body) D σ H := fun D σ H => by
  rintro ⟨M, h, ρ, r, rs, p⟩
  refine ⟨fun m σi Hi => ∃ Mi hi ρi, Mi.u = M.u ∧ Ext M Mi H Hi ∧ Rep Mi Hi hi ∧ RS Mi Hi ρi σi ∧ SPost D Mi Hi (whileL t body m ρi hi), ⟨n, M, h, ρ, rfl, .refl _ _, r, rs, p⟩, fun m σi Hi w => ?_⟩
  obtain ⟨Mi, hi, ρi, ui, xi, ri, rsi, pi⟩ := w
  cases m with
  | zero => exact pi.elim
  | succ m =>
    unfold whileL at pi
    obtain ⟨b, h1, e1, p1⟩ := pi.bind
    refine ⟨Mi, hi, ρi, ri, rsi, b, h1, e1, fun M1 H1 v x1 r1 v1 => ?_⟩
    subst v1
    have p2 := p1.mono x1.same x1.ext
    cases v with
    | true =>
      simp only [if_true] at p2
      refine iteT ⟨fun σ' H' => ∃ Mi hi ρi, Mi.u = M.u ∧ Ext M Mi H H' ∧ Rep Mi H' hi ∧ RS Mi H' ρi σ' ∧ SPost D Mi H' (whileL t body m ρi hi), fun σ' H' q => ⟨m, Nat.lt_succ_self m, q⟩, M1, h1, ρi, r1, rsi.mono x1, ?_⟩
      cases eb : body ρi h1 with
      | none => rw [eb] at p2; exact p2.elim
      | some q =>
        obtain ⟨o, h3⟩ := q
        rw [eb] at p2
        cases o with
        | nx ρ2 => exact fun M3 H3 σ3 u3 x3 r3 rs3 => ⟨M3, h3, ρ2, (u3.trans x1.same).trans ui, (xi.trans x1.ext).trans x3, r3, rs3, SPost.mono p2 u3 x3⟩
        | ct ρ2 => exact fun M3 H3 σ3 u3 x3 r3 rs3 => ⟨M3, h3, ρ2, (u3.trans x1.same).trans ui, (xi.trans x1.ext).trans x3, r3, rs3, SPost.mono p2 u3 x3⟩
        | bk ρ2 => exact p2
        | rt w => exact p2
    | false => exact iteF (p2 M1 H1 σi rfl (.refl _ _) r1 (rsi.mono x1))
theorem ds_while (n : Nat) {c : Expr} {body : List Stmt} {pos : Pos} {t : BM} {f : SM} (hp : PassesOwn (model X.prog X.w) X.A X.env X.xe) (hc : DT X c t) (hb : DSs X body f) : DS X (.While c body [] pos) (sWhile n t f) := (ps_while hp hc hb).weak while_imp
end
abbrev FM := List W → Hh → Option (W × Hh)
def live (h : Hh) : List Bool := h.map Option.isSome
def leave (rm : Bool) (h : Hh) (w : W) (h' : Hh) : Option (W × Hh) := if live (h'.take h.length) = live h then match w with
    | .ref n => if n < h.length then some (.ref n, h'.take h.length) else match h'[n]? with
      | some (some (.lst ds)) => if rm = true then some (.ref h.length, h'.take h.length ++ [some (.lst ds)]) else some (.dat (.list ds), h'.take h.length)
      | some (some (.dic es)) => if rm = true then some (.ref h.length, h'.take h.length ++ [some (.dic es)]) else some (.dat (.dict es), h'.take h.length)
      | some (some (.dit es)) => if rm = true then some (.ref h.length, h'.take h.length ++ [some (.dit es)]) else none
      | _ => none
    | .pack _ => none
    | .lock _ => none
    | w => some (w, h'.take h.length)
  else none
def fnM (rm : Bool) (np nl : Nat) (body : SM) : FM := fun ws h => if ws.length = np then match body (ws.map some ++ List.replicate (nl - np) none) h with
    | some (.rt w, h') => leave rm h w h'
    | some (.nx _, h') => leave rm h (.dat .none) h'
    | _ => none
  else none
def spD (m : FM) : Sp := fun vs H Q _ => ∃ M h ws, Rep M H h ∧ RVs M H vs ws ∧ Cont RV (m ws h) M H Q
end DL
set_option maxRecDepth 100000
set_option maxHeartbeats 400000
namespace DL
open PySem PySem.Spec PyProof.Rows L2
theorem live_get {h h' : Hh} (e : live (h'.take h.length) = live h) {i : Nat} (hi : i < h.length) : (h'[i]?).map Option.isSome = (h[i]?).map Option.isSome := by
  have := congrArg (fun l => l[i]?) e
  simp only [live, List.getElem?_map] at this
  rw [List.getElem?_take_of_lt hi] at this
  exact this
section
variable {M M' : Mm} {H H' : Hp} {h h' : Hh}
theorem leave_same (x : Ext M M' H H') (r : Rep M H h) (r' : Rep M' H' h') (e : live (h'.take h.length) = live h) {i : Nat} {a : Addr} (q : M.m[i]? = some (some a)) : M'.m[i]? = some (some a) := by
  have hi := lt_of_get q
  rcases x.kill i hi with k | k
  · rw [k]; exact q
  · have d := r'.dead i k
    obtain ⟨o, ho, _⟩ := r.at_ i a q
    have l := live_get e (i := i) (by rw [← r.len]; exact hi)
    rw [d, ho] at l
    cases l
theorem leave_has (x : Ext M M' H H') (u : M'.u = M.u) (r : Rep M H h) (r' : Rep M' H' h') (e : live (h'.take h.length) = live h) : ∀ b, M.Has b → M'.Has b := fun b z => by
  rcases z with z | z
  · exact .inl (by rw [u]; exact z)
  · obtain ⟨i, hi, q⟩ := List.getElem_of_mem z
    exact .inr (List.mem_of_getElem? (leave_same x r r' e (i := i) (by rw [List.getElem?_eq_getElem hi, q])))
theorem leave_rep (x : Ext M M' H H') (u : M'.u = M.u) (r : Rep M H h) (r' : Rep M' H' h') (e : live (h'.take h.length) = live h) : Rep M H' (h'.take h.length) := by
  have hl : (h'.take h.length).length = h.length := by
    have := congrArg List.length e
    simpa [live] using this
  refine ⟨fun a z => ?_, by rw [hl]; exact r.len, r.inj, fun i a q => ?_, fun i q => ?_⟩
  · obtain ⟨h1, o, h2, ht⟩ := r.us a z
    exact ⟨h1, o, x.stab a o h2 h1, ht⟩
  · obtain ⟨o, ho, ro⟩ := r'.at_ i a (leave_same x r r' e q)
    exact ⟨o, by rw [List.getElem?_take_of_lt (by rw [← r.len]; exact lt_of_get q)]; exact ho, ro.sub (leave_has x u r r' e)⟩
  · have hi : i < h.length := by rw [← r.len]; exact lt_of_get q
    have l := live_get e hi
    rw [r.dead i q] at l
    rw [List.getElem?_take_of_lt hi]
    cases z : h'[i]? with
    | none => rw [z] at l; cases l
    | some o =>
      rw [z] at l
      cases o with
      | none => rfl
      | some _ => cases l
theorem leave_ext (x : Ext M M' H H') : ExtE M M H H' := ⟨rfl, x.trk, x.stab, fun _ m => .inl m, Nat.le_refl _, fun _ _ => rfl⟩
theorem leave_out (x : Ext M M' H H') (u : M'.u = M.u) (r : Rep M H h) (r' : Rep M' H' h') (e : live (h'.take h.length) = live h) {n : Nat} {a : Addr} (hn : ¬ n < h.length) (q : M'.m[n]? = some (some a)) : ¬ M.Has a := fun z => by
  rcases z with z | z
  · exact (r'.us a (by rw [u]; exact z)).1 (List.mem_of_getElem? q)
  · obtain ⟨i, hi, qi⟩ := List.getElem_of_mem z
    have q' := leave_same x r r' e (i := i) (by rw [List.getElem?_eq_getElem hi, qi])
    have := r'.inj i n a q' q
    rw [r.len] at hi
    omega
theorem leave_mut (x : Ext M M' H H') (u : M'.u = M.u) (r : Rep M H h) (r' : Rep M' H' h') (e : live (h'.take h.length) = live h) {n : Nat} {a : Addr} {o : MO} (hn : ¬ n < h.length) (q : M'.m[n]? = some (some a)) (ho : h'[n]? = some (some o)) :
    Rep ⟨M.u, M.m ++ [some a]⟩ H' (h'.take h.length ++ [some o]) ∧ ExtE M ⟨M.u, M.m ++ [some a]⟩ H H' := by
  have out := leave_out x u r r' e hn q
  obtain ⟨o', ho', ro⟩ := r'.at_ n a q
  rw [ho] at ho'; cases ho'
  have R := leave_rep x u r r' e
  have hsub : ∀ b, Mm.Has ⟨a :: M.u, M.m⟩ b → M'.Has b := fun b z => by
    rcases z with z | z
    · rcases List.mem_cons.mp z with rfl | z
      · exact .inr (List.mem_of_getElem? q)
      · exact .inl (by rw [u]; exact z)
    · exact leave_has x u r r' e b (.inr z)
  have R2 : Rep ⟨a :: M.u, M.m⟩ H' (h'.take h.length) := by
    refine ⟨fun b z => ?_, R.len, R.inj, fun i b z => ?_, R.dead⟩
    · rcases List.mem_cons.mp z with rfl | z
      · exact ⟨fun y => out (.inr y), ro.kind⟩
      · exact R.us b z
    · obtain ⟨w, hw, rw'⟩ := r'.at_ i b (leave_same x r r' e z)
      exact ⟨w, by rw [List.getElem?_take_of_lt (by rw [← r.len]; exact lt_of_get z)]; exact hw, rw'.sub hsub⟩
  refine ⟨R2.owned (fun y => out (.inl y)) (ro.sub hsub), ⟨rfl, x.trk, x.stab, fun b z => ?_, by simp, fun i hi => List.getElem?_append_left hi⟩⟩
  rcases List.mem_append.mp z with z | z
  · exact .inl z
  · have : b = a := by simpa using z
    subst this
    exact x.fresh b (List.mem_of_getElem? q)
theorem leave_ok {rm : Bool} {w : W} {v : V} {Q : VK} (x : Ext M M' H H') (u : M'.u = M.u) (r : Rep M H h) (r' : Rep M' H' h') (rv : RV M' H' v w) (c : Cont RV (leave rm h w h') M H Q) : Q v H' := by
  unfold leave at c
  split at c
  · rename_i e
    have sub := leave_has x u r r' e
    have R := leave_rep x u r r' e
    split at c
    · rename_i n
      obtain ⟨a, ea, rfl⟩ := rv
      split at c
      · rename_i hn
        refine c.fin (leave_ext x) R ⟨a, ?_, rfl⟩
        rcases x.kill n (by rw [r.len]; exact hn) with k | k
        · rw [← k]; exact ea
        · rw [ea] at k; cases k
      · rename_i hn
        have out := leave_out x u r r' e hn ea
        obtain ⟨o, ho, ro⟩ := r'.at_ n a ea
        rw [ho] at c
        have hlen : M.m.length = (h'.take h.length).length := R.len
        have hl : (h'.take h.length).length = h.length := by
          have := congrArg List.length e
          simpa [live] using this
        cases o with
        | lst ds =>
          obtain ⟨xs, hx, q⟩ := ro
          cases rm with
          | false => exact c.fin (leave_ext x) R (RD.lst out hx (q.sub sub))
          | true =>
            obtain ⟨R2, x2⟩ := leave_mut x u r r' e hn ea ho
            exact c.fin x2 R2 ⟨a, by show (M.m ++ [some a])[h.length]? = _; rw [← hl, ← hlen]; simp, rfl⟩
        | dic ds =>
          obtain ⟨xs, hx, q⟩ := ro
          cases rm with
          | false => exact c.fin (leave_ext x) R (RD.dic out hx (q.sub sub))
          | true =>
            obtain ⟨R2, x2⟩ := leave_mut x u r r' e hn ea ho
            exact c.fin x2 R2 ⟨a, by show (M.m ++ [some a])[h.length]? = _; rw [← hl, ← hlen]; simp, rfl⟩
        | dit ds =>
          obtain ⟨xs, hx, q⟩ := ro
          cases rm with
          | false => exact c.no.elim
          | true =>
            obtain ⟨R2, x2⟩ := leave_mut x u r r' e hn ea ho
            exact c.fin x2 R2 ⟨a, by show (M.m ++ [some a])[h.length]? = _; rw [← hl, ← hlen]; simp, rfl⟩
        | tab q P => exact c.no.elim
        | ins C fs => exact c.no.elim
    · exact c.no.elim
    · exact c.no.elim
    · rename_i w' hw hp hk
      cases w with
      | ref n => exact absurd rfl (hw n)
      | pack n => exact absurd rfl (hp n)
      | lock n => exact absurd rfl (hk n)
      | dat d => exact c.fin (leave_ext x) R (RD.sub sub rv)
      | ins C fs =>
        obtain ⟨a, dx, gs, e1, n, q, rf⟩ := rv
        exact c.fin (leave_ext x) R ⟨a, dx, gs, e1, fun z => n (sub a z), q, rf.to fun _ _ => RD.sub sub⟩
      | row ds =>
        obtain ⟨a, o, xs, e1, n, dn, q, r1⟩ := rv
        exact c.fin (leave_ext x) R ⟨a, o, xs, e1, fun z => n (sub a z), dn, q, RDs.sub sub r1⟩
      | exc k C fs =>
        obtain ⟨a, d, gs, e1, r1⟩ := rv
        exact c.fin (leave_ext x) R ⟨a, d, gs, e1, r1.to (fun b _ _ n z => n (sub b z)) (fun _ _ q _ _ => q) fun _ _ => RD.sub sub⟩
      | scr ns =>
        obtain ⟨a, o, e1, n, q⟩ := rv
        exact c.fin (leave_ext x) R ⟨a, o, e1, fun z => n (sub a z), q⟩
  · exact c.no.elim
end
theorem rs_start {M : Mm} {H : Hp} {vs : List V} {ws : List W} (r : RVs M H vs ws) (n : Nat) : RS M H (ws.map some ++ List.replicate n none) (vs.map some ++ List.replicate n none) := by
  refine ⟨by simp [r.length], ?_⟩
  induction r with
  | nil =>
    intro i w e
    rw [List.map_nil, List.nil_append, List.getElem?_replicate] at e
    split at e <;> cases e
  | cons a t ih =>
    intro i w e
    cases i with
    | zero => simp at e; subst e; exact ⟨_, rfl, a⟩
    | succ i => exact ih i w (by simpa using e)
theorem rvs3 {M : Mm} {H : Hp} {vs : List V} {a b c : W} (r : RVs M H vs [a, b, c]) : ∃ x y z, vs = [x, y, z] ∧ RV M H x a ∧ RV M H y b ∧ RV M H z c := by
  cases r with
  | cons ra r => cases r with
    | cons rb r => cases r with
      | cons rc r => cases r; exact ⟨_, _, _, rfl, ra, rb, rc⟩
theorem ds_par3 {X : Cx} {i j l : Nat} {st : Stmt} {g : AM} (h : PS X st (tPar3 i j l (tA g))) : DS X st (sPar g [i, j, l]) := h.weak fun D σ H => by
  rintro ⟨M, h, ρ, r, rs, p⟩
  obtain ⟨ws, h1, e1, p1⟩ := p.bind
  refine ⟨M, h, ρ, r, rs, ws, h1, e1, fun M1 H1 vs x1 r1 v1 => ?_⟩
  split at p1
  · rename_i hz
    match ws, hz, v1, p1 with
    | [w1, w2, w3], _, v1, p1 =>
      obtain ⟨a, b, c, rfl, ra, rb, rc⟩ := rvs3 v1
      exact ⟨a, b, c, rfl, p1 M1 H1 _ x1.same x1.ext r1 ((((rs.mono x1).set ra).set rb).set rc)⟩
  · exact p1.elim
end DL
set_option maxRecDepth 100000
set_option maxHeartbeats 400000
namespace DL
open PySem PySem.Spec PyProof.Rows L2
def dcL (k : TM) (t : BM) (fk fv : EM) (ρ : Env) : List D → List (D × D) → Hh → Option (List (D × D) × Hh)
  | [], es, h => some (es, h)
  | d :: ds, es, h => match k (.dat d) ρ h with
    | some ρ1 => obnd (t ρ1 h) fun b h2 => if b = true then obnd (fk ρ1 h2) fun w h3 => obnd (fv ρ1 h3) fun v h4 => match w, v with
        | .dat kd, .dat d' => match dKey kd with
          | some key => if es.length < sizeLine then dcL k t fk fv ρ ds (putK' es key d') h4 else none
          | none => none
        | _, _ => none
      else dcL k t fk fv ρ ds es h2
    | none => none
def fDc (m : Bool) (gi : IM) (k : TM) (t : BM) (fk fv : EM) (vs : List Nat) : EM := fun ρ h => obnd (gi ρ h) fun ds h1 => obnd (dcL k t fk fv (wipeE ρ vs) ds [] h1) fun es h2 => mkK m es h2
theorem dc_imp {gi : IM} {k : TM} {t : BM} {fk fv : EM} {ts vs : List Nat} {m : Bool} (hs : ∀ j ∈ ts, j ∈ vs) : ∀ σ H Q, tE (fDc m gi k t fk fv vs) σ H Q → tDc (tI gi) (tGd ts k) (tT t) (tE fk) (tE fv) vs σ H Q := fun σ H Q => by
  rintro ⟨M, h, ρ, r, rs, c⟩
  obtain ⟨ds, h1, e1, c1⟩ := Cont.bind (δ := Unit) c
  refine ⟨M, h, ρ, ds, h1, r, rs, e1, fun M1 H1 J x1 r1 it D nD => ?_⟩
  obtain ⟨out, h2, e2, c2⟩ := Cont.bind (δ := Unit) (c1 M1 H1 x1)
  have x0 := ext_made (M := M1) (o := .dK []) nD
  have r0 := r1.make (o := .dK []) nD
  have rs0 : RS (M1.made D) (upd H1 D (.dK [])) (wipeE ρ vs) (L2.wipe σ vs) := ((rs.mono x1).moveu x0 rfl).wipe vs
  let P : Nat → Hp → Prop := fun i Hi => ∃ mi hi acc dacc, ExtE M1 ⟨M1.u, mi⟩ H1 Hi ∧ Rep ⟨D :: M1.u, mi⟩ Hi hi ∧ RS ⟨D :: M1.u, mi⟩ Hi (wipeE ρ vs) (L2.wipe σ vs) ∧ Hi D = some (.dK acc) ∧ RDk ⟨D :: M1.u, mi⟩ Hi acc dacc ∧ dcL k t fk fv (wipeE ρ vs) (ds.drop i) dacc hi = some (out, h2)
  refine ⟨fun i n Hi => n + i = ds.length ∧ P i Hi, ⟨ds.length, by omega, M1.m, h1, [], [], (ExtE.refl M1 H1).beside nD, r0, rs0, upd_same, .nil, by rw [List.drop_zero]; exact e2⟩, fun i n Hi w => ?_⟩
  obtain ⟨hn, mi, hi, acc, dacc, xi, ri, rsi, hD, qa, el⟩ := w
  have inD : D ∈ (⟨D :: M1.u, mi⟩ : Mm).u := List.mem_cons_self
  obtain ⟨ity, its⟩ := it _ Hi (xi.into nD) fun a ha => ri.tracked ha
  by_cases hlt : i < ds.length
  · refine .inr ?_
    have ed : ds[i]? = some ds[i] := List.getElem?_eq_getElem hlt
    obtain ⟨go, yl⟩ := ity i _ ed
    rw [List.drop_eq_getElem_cons hlt] at el
    refine ⟨go, P (i + 1), fun H' p => ⟨n - 1, by omega, by omega, p⟩, fun x H2 hy => ?_⟩
    obtain ⟨sm, rx⟩ := yl x H2 hy
    obtain ⟨ri2, xi2⟩ := ri.grow sm
    unfold dcL at el
    split at el
    · rename_i ρ1 ek
      refine ⟨_, hi, wipeE ρ vs, .dat ds[i], ρ1, ri2, rsi.mono xi2, rx, ek, fun σ2 rs2 l2 o2 => ⟨wipe_of (by rw [l2, L2.wipe_length]) o2 hs, ?_⟩⟩
      cases et : t ρ1 hi with
      | none => rw [et] at el; cases el
      | some pr =>
        obtain ⟨b, h3⟩ := pr
        rw [et] at el
        simp only [obnd_some] at el
        refine ⟨_, hi, ρ1, ri2, rs2, b, h3, et, fun M3 H3 b' x3 r3 eb => ?_⟩
        subst eb
        obtain ⟨u3, m3⟩ := M3
        obtain rfl : u3 = D :: M1.u := x3.same
        have xi3 : ExtE M1 ⟨M1.u, m3⟩ H1 H3 := xi.trans ((xi2.trans x3).reu M1.u)
        have hD3 : H3 D = some (.dK acc) := x3.stab _ _ (sm _ _ hD) fun z => (ri.us D inD).1 z
        cases b' with
        | false =>
          simp only [Bool.false_eq_true, if_false] at el
          exact iteF ⟨m3, h3, acc, dacc, xi3, r3, (rsi.mono xi2).mono x3, hD3, (qa.mono xi2.ext).mono x3.ext, el⟩
        | true =>
          simp only [if_true] at el
          refine iteT ?_
          cases ef : fk ρ1 h3 with
          | none => rw [ef] at el; cases el
          | some pr =>
            obtain ⟨w, h4⟩ := pr
            rw [ef] at el
            simp only [obnd_some] at el
            refine ⟨_, h3, ρ1, r3, rs2.mono x3, w, h4, ef, fun M4 H4 y x4 r4 ry => ?_⟩
            obtain ⟨u4, m4⟩ := M4
            obtain rfl : u4 = D :: M1.u := x4.same
            have hD4 : H4 D = some (.dK acc) := x4.stab _ _ hD3 fun z => (r3.us D List.mem_cons_self).1 z
            cases eg : fv ρ1 h4 with
            | none => rw [eg] at el; cases el
            | some pr =>
              obtain ⟨w', h5⟩ := pr
              rw [eg] at el
              simp only [obnd_some] at el
              refine ⟨_, h4, ρ1, r4, (rs2.mono x3).mono x4, w', h5, eg, fun M5 H5 z x5 r5 rz => ?_⟩
              obtain ⟨u5, m5⟩ := M5
              obtain rfl : u5 = D :: M1.u := x5.same
              have hD5 : H5 D = some (.dK acc) := x5.stab _ _ hD4 fun z => (r4.us D List.mem_cons_self).1 z
              split at el
              · rename_i kd d'
                split at el
                · rename_i key ekey
                  split at el
                  · rename_i hz
                    have := kP_dKey ekey
                    subst this
                    have ry' : RD ⟨D :: M1.u, m5⟩ H5 y (kP key) := (show RD _ _ y _ from ry).mono x5.ext
                    have q5 := (((qa.mono xi2.ext).mono x3.ext).mono x4.ext).mono x5.ext
                    have in5 : D ∈ (⟨D :: M1.u, m5⟩ : Mm).u := List.mem_cons_self
                    exact ⟨acc, key, rd_kP ry', hD5, by rw [qa.length]; exact hz, m5, h5, _, putK' dacc key d', ((xi3.trans (x4.reu M1.u)).trans (x5.reu M1.u)).beside nD, r5.off in5, ((((rsi.mono xi2).mono x3).mono x4).mono x5).off in5, upd_same, (q5.put key rz).off in5, el⟩
                  · cases el
                · cases el
              · cases el
    · cases el
  · refine .inl ?_
    have hi' : i = ds.length := by omega
    subst hi'
    rw [List.drop_length] at el
    cases el
    refine ⟨its, ?_⟩
    have c3 := c2 M1 H1 (.refl _ _)
    have nu : D ∉ M1.u := fun z => r1.new nD (.inl z)
    have nm : some D ∉ mi := (ri.us D inD).1
    cases m with
    | false => exact c3.fin xi ri.told (RD.dic (fun z => z.elim nu nm) hD (qa.sub less_has))
    | true =>
      refine c3.fin (M' := ⟨M1.u, mi ++ [some D]⟩) ⟨rfl, xi.trk, xi.stab, fun a z => ?_, Nat.le_trans xi.len (by simp), fun j hj => ?_⟩ (ri.owned nu ⟨acc, hD, qa⟩) ⟨D, ?_, rfl⟩
      · rcases List.mem_append.mp z with z | z
        · exact xi.fresh a z
        · have : a = D := by simpa using z
          rw [this]; exact .inr nD
      · have hl : j < mi.length := Nat.lt_of_lt_of_le hj xi.len
        show (mi ++ [some D])[j]? = _
        rw [List.getElem?_append_left hl]; exact xi.pre j hj
      · show (mi ++ [some D])[h2.length]? = _
        rw [← show mi.length = h2.length from ri.len]; simp
section
variable {X : Cx}
theorem d_dc (m : Bool) {kx vx tg iter : Expr} {ifs : List Expr} {scope : Scope} {own : List (Str × Nat)} {pos : Pos} {gi : IM} {ts : List Nat} {k : TM} {t : BM} {fk fv : EM} (hc : X.calm = true) (hN : X.N.Nodup) (hi : DI X tg iter gi) (ok : BlkOk X.N X.env.scope scope own)
    (hg : ∀ (s : Shared) (H : Hp) (C : Addr) (cl : List (Str × Addr)) (fp : List Addr), DG (X.blk s H scope (compEnvC scope cl C X.env) fp) tg ts k) (ht : ∀ (s : Shared) (H : Hp) (C : Addr) (cl : List (Str × Addr)) (fp : List Addr), DTs (X.blk s H scope (compEnvC scope cl C X.env) fp) ifs t)
    (hk : ∀ (s : Shared) (H : Hp) (C : Addr) (cl : List (Str × Addr)) (fp : List Addr), DE (X.blk s H scope (compEnvC scope cl C X.env) fp) kx fk) (he : ∀ (s : Shared) (H : Hp) (C : Addr) (cl : List (Str × Addr)) (fp : List Addr), DE (X.blk s H scope (compEnvC scope cl C X.env) fp) vx fv)
    (hsub : ∀ j ∈ ts, j ∈ own.map (·.2)) (hs : ∀ x, foldedSetIterable iter X.env x = pure x := by intro _; rfl) :
    DE X (.DictComp kx vx [⟨tg, iter, ifs, 0⟩] scope pos) (fDc m gi k t fk fv (own.map (·.2))) := (pe_dc hc hN hi ok hg ht hk he hs).weak (dc_imp hsub)
end
end DL
set_option maxRecDepth 100000
set_option maxHeartbeats 400000
namespace DL
open PySem PySem.Spec PyProof.Rows L2
structure RG (k : Nat) (A : Around) : Prop where
  room : Room k A
  gd : A.guards = some []
theorem RG.mono {j k : Nat} {A : Around} (r : RG k A) (h : j ≤ k) : RG j A := ⟨r.room.mono h, r.gd⟩
structure FnG (P : Program) (w : World) (K : PySem.W.Frag) (mg : Str → Option Value) (base : Heap) (C : CXT) (k : Nat) (f : Addr) (fd : FuncData) (ps : List Str) (sp : Sp) : Prop where
  len : ∀ vs H Q E, sp vs H Q E → vs.length = ps.length
  run : ∀ (A : Around) (outer : List PySem.Env) (s : Shared) (H : Hp) (args : Args) (us : List Value) (vs : List V) (Q : VK) (E : XK), RG k A → Env0 P w K mg base A outer s H → BindsTo s fd args (ps.zip us) → Vals vs us →
    sp vs H Q E → codeAny (model P w) A (.call (.ref f) args) (CR C outer P w H s Q E) s
section
variable {P : Program} {w : World} {K : PySem.W.Frag} {mg : Str → Option Value} {base : Heap}
theorem fn_g0 {x qual : Str} {st : Stmt} {f : Addr} {fd : FuncData} {N ps : List Str} {k : Nat} {sp : Sp} (F : Fun K x qual st f fd) (S : FnScope N ps (defScope st)) (len : ∀ vs H Q E, sp vs H Q E → vs.length = ps.length)
    (hb : ∀ (cdv : Value), fd.code = cdv → ∀ (A : Around) (outer : List PySem.Env) (s : Shared) (H : Hp) (vs : List V) (Q : VK) (E : XK), RG k (A.deeper (envOfC qual (defScope st) s.heap.objs.size f cdv)) → sp vs H Q E →
      ∃ t, PSs (cxOf CX0 P w K mg base N qual (defScope st) f cdv A outer s H E).nox (defBody st) t ∧ t { nx := fun _ H' => Q .non H', rt := Q } (L2.start N vs) H) : FnG P w K mg base CX0 (k + 1) f fd ps sp := by
  obtain ⟨oc, od, kV, doc, pm, an, cdv, ct, osl, rfl, lk, hcd⟩ := F.ex
  constructor
  · exact len
  intro A outer s H args us vs Q E rg e0 bd vl q
  have kin : K.In s.heap := e0.mod.kin.keeps fun b o e => (e0.bs b o e).1
  have nl : s.heap.NoLimit := e0.mod.nolimit.keeps fun b o e => (e0.bs b o e).1
  have kinds : ∀ y ∈ ps.zip us, (defScope st).names.lookup y.1 = some .local ∨ ((defScope st).names.lookup y.1 = some .cell ∧ ((PySem.cellsFrom (s.heap.objs.size + 1) (defScope st).names []).lookup y.1).isSome = true) := by
    intro y hy
    have hp : y.1 ∈ ps := (List.of_mem_zip (show (y.1, y.2) ∈ ps.zip us from hy)).1
    rcases S.par y.1 hp with h | h
    · left; exact h
    · right; exact ⟨h, PySem.W.cellsFrom_some _ _ _ (.inl h)⟩
  apply codeAny_call_function rg.room.depth (kin _ _ lk) rfl S.co S.gen rfl (PySem.W.codeRec_of kin hcd)
  apply bd
  apply wpAny_newFunctionEnv_cells S.kind kinds
  intro env he s1 hx
  subst he
  constructor
  · exact nl.keeps hx.toInCall.keep
  apply codeAny_func
  obtain ⟨t, ht, hq⟩ := hb cdv rfl A outer s H vs Q E ⟨rg.room.deeper _, rg.gd⟩ q
  have I0 := inv_start (CX := CX0) (E := E) S rg.room.hd e0 (len _ _ _ _ q) vl hx
  apply wpAny_mono (ht.nox.run [] s1 _ H _ I0 hq)
  · intro fl s' hs
    cases fl
    case ret u => obtain ⟨v, σ', H', J, rv, q'⟩ := hs; exact ⟨v, H', J.os, J.bare, J.base, J.hok, rv, q'⟩
    case next => obtain ⟨σ', H', J, q'⟩ := hs; exact ⟨.non, H', J.os, J.bare, J.base, J.hok, rfl, q'⟩
    case brk => obtain ⟨_, _, _, q'⟩ := hs; exact q'.elim
    case cont => obtain ⟨_, _, _, q'⟩ := hs; exact q'.elim
  · intro e s' hs; exact hs
structure GD (P : Program) (w : World) (K : PySem.W.Frag) (mg : Str → Option Value) (base : Heap) (k : Nat) (x : Str) (st : Stmt) (ps : List Str) (m : FM) : Prop where
  ex : ∃ (f : Addr) (fd : FuncData), Fun K x x st f fd ∧ mg x = some (.ref f) ∧ FnG P w K mg base CX0 k f fd ps (spD m)
theorem fng_ok0 {x : Str} {st : Stmt} {f : Addr} {fd : FuncData} {N ps : List Str} {k : Nat} {body : SM} (rm : Bool) (F : Fun K x x st f fd) (S : FnScope N ps (defScope st))
    (hb : ∀ (cdv : Value), fd.code = cdv → ∀ (A : Around) (outer : List PySem.Env) (s : Shared) (H : Hp) (E : XK), RG k (A.deeper (envOfC x (defScope st) s.heap.objs.size f cdv)) → DSs (cxOf CX0 P w K mg base N x (defScope st) f cdv A outer s H E).nox (defBody st) body) :
    FnG P w K mg base CX0 (k + 1) f fd ps (spD (fnM rm ps.length N.length body)) := by
  refine fn_g0 F S (fun vs H Q E q => ?_) (fun cdv ec A outer s H vs Q E hr q => ?_)
  · obtain ⟨M, h, ws, rep, rv, c⟩ := q
    unfold fnM at c
    split at c
    · rename_i hl
      rw [rv.length]; exact hl
    · exact c.no.elim
  · obtain ⟨M, h, ws, rep, rv, c⟩ := q
    unfold fnM at c
    split at c
    · rename_i hl
      refine ⟨_, hb cdv ec A outer s H E hr, M, h, ws.map some ++ List.replicate (N.length - ps.length) none, rep, ?_, ?_⟩
      · have e : L2.start N vs = vs.map some ++ List.replicate (N.length - ps.length) none := by unfold L2.start; rw [rv.length, hl]
        rw [e]
        exact rs_start rv _
      · cases eb : body (ws.map some ++ List.replicate (N.length - ps.length) none) h with
        | none => rw [eb] at c; exact c.no.elim
        | some pr =>
          obtain ⟨o, h'⟩ := pr
          rw [eb] at c
          cases o with
          | nx ρ => exact fun M1 H1 σ u x1 r1 rs1 => leave_ok x1 u rep r1 (show RV M1 H1 .non (.dat .none) from .non) c
          | rt w => exact fun M1 H1 v u x1 r1 v1 => leave_ok x1 u rep r1 v1 c
          | bk ρ => exact c.no.elim
          | ct ρ => exact c.no.elim
    · exact c.no.elim
theorem fng_ok {x : Str} {st : Stmt} {f : Addr} {fd : FuncData} {N ps : List Str} {k : Nat} {body : SM} (rm : Bool) (F : Fun K x x st f fd) (S : FnScope N ps (defScope st))
    (hb : ∀ (cdv : Value) (A : Around) (outer : List PySem.Env) (s : Shared) (H : Hp) (E : XK), RG k (A.deeper (envOfC x (defScope st) s.heap.objs.size f cdv)) → DSs (cxOf CX0 P w K mg base N x (defScope st) f cdv A outer s H E).nox (defBody st) body) :
    FnG P w K mg base CX0 (k + 1) f fd ps (spD (fnM rm ps.length N.length body)) := fng_ok0 rm F S fun cdv _ => hb cdv
theorem gd_ok {x : Str} {st : Stmt} {f : Addr} {fd : FuncData} {N ps : List Str} {k : Nat} {body : SM} (rm : Bool) (F : Fun K x x st f fd) (hm : mg x = some (.ref f)) (S : FnScope N ps (defScope st))
    (hb : ∀ (cdv : Value) (A : Around) (outer : List PySem.Env) (s : Shared) (H : Hp) (E : XK), RG k (A.deeper (envOfC x (defScope st) s.heap.objs.size f cdv)) → DSs (cxOf CX0 P w K mg base N x (defScope st) f cdv A outer s H E).nox (defBody st) body) :
    GD P w K mg base (k + 1) x st ps (fnM rm ps.length N.length body) := ⟨f, fd, F, hm, fng_ok rm F S hb⟩
theorem GD.no {x : Str} {st : Stmt} {f : Addr} {fd : FuncData} {ps : List Str} {k : Nat} (F : Fun K x x st f fd) (hm : mg x = some (.ref f)) : GD P w K mg base k x st ps (fun _ _ => none) :=
  ⟨f, fd, F, hm, fun _ _ _ _ ⟨_, _, _, _, _, c⟩ => c.no.elim, fun _ _ _ _ _ _ _ _ _ _ _ _ _ ⟨_, _, _, _, _, c⟩ => c.no.elim⟩
end
section
variable {X : Cx} {k : Nat} {f : Addr} {fd : FuncData} {ps : List Str} {m : FM} {x : Str} {p pos : Pos} {e : Expr} {es : List Expr} {g : AM} {st : Stmt}
theorem run_g {sp : Sp} {pins : List (Addr × Obj)} {σ : L2.St} {H : Hp} {s : Shared} {Q : VK} {args : Args} {us : List Value} {vs : List V} (F : FnG X.prog X.w X.K X.mg X.base CX0 k f fd ps sp) (hr : RG k X.A)
    (I : Inv X pins σ H s) (hb : BindsTo s fd args (ps.zip us)) (r : Vals vs us) (h : sp vs H Q E0) : codeAny (model X.prog X.w) X.A (.call (.ref f) args) (fun r s' => match r with
      | .ok (.ret u) => EP X pins σ Q u s'
      | _ => False) s := by
  apply codeAny_mono (F.run X.A X.stack s H args us vs Q E0 hr I.env0 hb r h)
  intro r s' hq
  cases r with
  | error e => exact hq
  | ok fl =>
    cases fl with
    | ret u => exact I.after hq
    | next => exact hq
    | brk => exact hq
    | cont => exact hq
theorem d_call' (G : GD X.prog X.w X.K X.mg X.base k x st ps m) (hr : RG k X.A) (ha : DA X (e :: es) g)
    (hbd : ∀ (kV doc pm : Value) (an : Option Addr) (cdv ct : Value) (us : List Value), us.length = ps.length → bindArgs (PySem.W.fnOf x x (defArgs st) (defBody st) (defScope st) .none kV doc pm an cdv ct) ⟨us, []⟩ = pure (ps.zip us))
    (hg : Gl X x := by rfl)
    (hdb : (x == ("__debug__" : Str)) = false := by decide) (he : starEach (e :: es) X.env = (false, eval e X.env) :: starEach es X.env := by rfl) (hpl : (backTo pos (starEach es X.env)).any (·.1) = false := by rfl) : DE X (.Call (.Name x p) (e :: es) [] pos) (fA m g) := by
  obtain ⟨f, fd, F, hm, G⟩ := G.ex
  refine ⟨fun pins s σ H Q I q => ?_⟩
  obtain ⟨M, h, ρ, r, rs, c⟩ := q
  obtain ⟨ws, h1, e1, c1⟩ := Cont.bind (δ := Unit) c
  apply wpAny_Call_Name_kw
  apply ld_glob I hg hm _ hdb
  apply PySem.W.callWith_K (h₀ := X.base) I.ok.mod.kin F.kp _ he hpl
  refine thn (ha.run pos pins s σ H (fun vs H1 => spD m vs H1 Q E0) I ⟨M, h, ρ, r, rs, ws, h1, e1, fun M1 H1 vs x1 r1 v1 => ⟨M1, h1, ws, r1, v1, c1 M1 H1 x1⟩⟩) fun us s1 ⟨vs, H1, I1, rv, q⟩ => ⟨I1.kIn, ?_⟩
  have hl : us.length = ps.length := by rw [← rv.length]; exact G.len _ _ _ _ q
  apply wpAny_call
  have bd := (F.binds (ps := ps) hbd) s1 us I1.kIn (by simpa using hl)
  rw [List.append_nil] at bd
  apply codeAny_mono (run_g G hr I1 bd rv q)
  intro r s' hq
  cases r with
  | error e => exact hq.elim
  | ok fl =>
    cases fl with
    | ret u => exact hq
    | next => exact hq
    | brk => exact hq
    | cont => exact hq
def permL {α : Type} (is : List Nat) (ws : List α) : Option (List α) := (is.map fun i => ws[i]?).foldr (fun o r => match o, r with
    | some w, some l => some (w :: l)
    | _, _ => none) (some [])
def permM (is : List Nat) (m : FM) : FM := fun ws h => match permL is ws with
  | some l => m l h
  | none => none
theorem permL_cons {α : Type} (i : Nat) (is : List Nat) (ws : List α) : permL (i :: is) ws = match ws[i]?, permL is ws with
    | some w, some l => some (w :: l)
    | _, _ => none := rfl
def kwM (n : Nat) (is : List Nat) (m : FM) : FM := fun ws h => if ws.length = n then permM is m ws h else none
theorem permL_rvs {M : Mm} {H : Hp} {vs : List V} {ws : List W} (r : RVs M H vs ws) : ∀ {is : List Nat} {l : List W}, permL is ws = some l → ∃ l', permL is vs = some l' ∧ RVs M H l' l
  | [], l, e => by cases e; exact ⟨[], rfl, .nil⟩
  | i :: is, l, e => by
    rw [permL_cons] at e
    cases e1 : ws[i]? with
    | none => rw [e1] at e; cases e
    | some w =>
      cases e2 : permL is ws with
      | none => rw [e1, e2] at e; cases e
      | some l0 =>
        rw [e1, e2] at e
        cases e
        obtain ⟨l', h1, h2⟩ := permL_rvs r e2
        obtain ⟨v, h3, h4⟩ : ∃ v, vs[i]? = some v ∧ RV M H v w := by
          clear e2 h1 h2
          induction r generalizing i with
          | nil => simp at e1
          | cons a t ih => cases i with
            | zero => simp at e1; subst e1; exact ⟨_, rfl, a⟩
            | succ i => exact ih i (by simpa using e1)
        exact ⟨v :: l', by rw [permL_cons, h3, h1], .cons h4 h2⟩
theorem permL_vals {vs : List V} {us : List Value} (r : Vals vs us) : ∀ {is : List Nat} {l : List V}, permL is vs = some l → ∃ l', permL is us = some l' ∧ Vals l l'
  | [], l, e => by cases e; exact ⟨[], rfl, .nil⟩
  | i :: is, l, e => by
    rw [permL_cons] at e
    cases e1 : vs[i]? with
    | none => rw [e1] at e; cases e
    | some w =>
      cases e2 : permL is vs with
      | none => rw [e1, e2] at e; cases e
      | some l0 =>
        rw [e1, e2] at e
        cases e
        obtain ⟨l', h1, h2⟩ := permL_vals r e2
        obtain ⟨v, h3, h4⟩ : ∃ v, us[i]? = some v ∧ RelV w v := by
          clear e2 h1 h2
          induction r generalizing i with
          | nil => simp at e1
          | cons a t ih => cases i with
            | zero => simp at e1; subst e1; exact ⟨_, rfl, a⟩
            | succ i => exact ih i (by simpa using e1)
        exact ⟨v :: l', by rw [permL_cons, h3, h1], .cons h4 h2⟩
theorem d_callK {kws : List Keyword} {ks : List Str} {is : List Nat} (G : GD X.prog X.w X.K X.mg X.base k x st ps m) (hr : RG k X.A) (ha : DK X kws g)
    (hbd : ∀ (kV doc pm : Value) (an : Option Addr) (cdv ct : Value) (us l : List Value), us.length = ks.length → permL is us = some l → bindArgs (PySem.W.fnOf x x (defArgs st) (defBody st) (defScope st) .none kV doc pm an cdv ct) ⟨[], ks.zip us⟩ = pure (ps.zip l))
    (hkl : kws.length = ks.length)
    (hall : (backToKw pos (keywordEach kws X.env)).all (·.1.isSome) = true := by rfl) (hks : (backToKw pos (keywordEach kws X.env)).filterMap (·.1) = ks := by rfl)
    (hpl : ((backTo pos (starEach [] X.env)).any (·.1) || (backToKw pos (keywordEach kws X.env)).any (·.1.isNone)) = false := by rfl)
    (hg : Gl X x := by rfl) (hdb : (x == ("__debug__" : Str)) = false := by decide) : DE X (.Call (.Name x p) [] kws pos) (fA (kwM ks.length is m) g) := by
  obtain ⟨f, fd, F, hm, G⟩ := G.ex
  refine ⟨fun pins s σ H Q I q => ?_⟩
  obtain ⟨M, h, ρ, r, rs, c⟩ := q
  obtain ⟨ws, h1, e1, c1⟩ := Cont.bind (δ := Unit) c
  apply wpAny_Call_Name_kw
  apply ld_glob I hg hm _ hdb
  apply PySem.W.callWith_KW0 (h₀ := X.base) I.ok.mod.kin F.kp hall _ hpl
  refine thn (ha.run pos pins s σ H (fun vs H1 => vs.length = ks.length ∧ ∃ l, permL is vs = some l ∧ spD m l H1 Q E0) I ⟨M, h, ρ, r, rs, ws, h1, e1, fun M1 H1 vs x1 r1 v1 => ?_⟩) fun us s1 ⟨vs, H1, I1, rv, hlen, l, el, q⟩ => ⟨I1.kIn, ?_⟩
  · have c2 := c1 M1 H1 x1
    unfold kwM at c2
    split at c2
    · rename_i hw
      refine ⟨by rw [v1.length]; exact hw, ?_⟩
      unfold permM at c2
      split at c2
      · rename_i l el
        obtain ⟨l', h2, h3⟩ := permL_rvs v1 el
        exact ⟨l', h2, M1, h1, l, r1, h3, c2⟩
      · exact c2.no.elim
    · exact c2.no.elim
  · obtain ⟨l', h2, h3⟩ := permL_vals rv el
    have hl : us.length = ks.length := by rw [← rv.length]; exact hlen
    rw [hks]
    apply wpAny_call
    have bd : BindsTo s1 fd ⟨[], ks.zip us⟩ (ps.zip l') := by
      obtain ⟨oc, od, kV, doc, pm, an, cdv, ct, osl, rfl, lk, hcd⟩ := F.ex
      exact .of_eq (hbd kV doc pm an cdv ct us l' hl h2)
    apply codeAny_mono (run_g G hr I1 bd h3 q)
    intro r s' hq
    cases r with
    | error e => exact hq.elim
    | ok fl =>
      cases fl with
      | ret u => exact hq
      | next => exact hq
      | brk => exact hq
      | cont => exact hq
end
end DL
set_option maxRecDepth 100000
set_option maxHeartbeats 400000
namespace DL
open PySem PySem.Spec PyProof.Rows L2
section
variable {prog : Program} {w : World} {A : Around} {E : Value → Shared → Prop} {s : Shared}
theorem fm_congr {α β : Type} {f g : α → Option β} : ∀ {l : List α}, (∀ a ∈ l, f a = g a) → l.filterMap f = l.filterMap g
  | [], _ => rfl
  | a :: l, h => by rw [List.filterMap_cons, List.filterMap_cons, h a List.mem_cons_self, fm_congr fun b hb => h b (List.mem_cons_of_mem _ hb)]
theorem adjust_back (n : Nat) : Builtin.Slice.sliceAdjust none none (-1) (n : Int) = ((n : Int) - 1, -1) := by
  simp [Builtin.Slice.sliceAdjust]
theorem places_back (n : Nat) : Builtin.Slice.slicePlaces ((n : Int) - 1) (-1) (-1) = n := by
  unfold Builtin.Slice.slicePlaces
  by_cases h : n = 0
  · subst h; decide
  · simp
    omega
theorem pick_back (xs : Array Value) : ((List.range xs.size).filterMap fun (m : Nat) => xs[(((xs.size : Int) - 1) + (m : Int) * -1).toNat]?).toArray = xs.toList.reverse.toArray := by
  have e : ((List.range xs.size).filterMap fun (m : Nat) => xs[(((xs.size : Int) - 1) + (m : Int) * -1).toNat]?) = ((List.range xs.size).map fun k => xs.size - 1 - k).filterMap (xs[·]?) := by
    rw [List.filterMap_map]
    apply fm_congr
    intro k hk
    have := List.mem_range.mp hk
    have e : (((xs.size : Int) - 1) + (k : Int) * -1).toNat = xs.size - 1 - k := by omega
    simp only [e, Function.comp]
  rw [e, PySem.W.krv_range, List.filterMap_reverse, PySem.W.krv_all]
theorem tup_back {t sl : Addr} {items : Array Value} {vl vu vs : Value} {Q : Value → Shared → Prop} (ht : IsTup s.heap t items) (hs : s.heap.IsSliceOf sl vl vu vs) (pl : IsPart vl none) (pu : IsPart vu none) (ps : IsPart vs (some (-1)))
    (h : Q (.ref s.heap.objs.size) { s with heap := s.heap.push { cls := .type "tuple", data := .seq items.toList.reverse.toArray } })
    (hsz : items.size ≤ sizeLine) : wpAny (model prog w) A (getItem (.ref t) (.ref sl)) Q E s := by
  have hz : sizeOk (.seq items.toList.reverse.toArray) := by
    show items.toList.reverse.toArray.size ≤ sizeLine
    rw [List.size_toArray, List.length_reverse, Array.length_toList]; exact hsz
  obtain ⟨os, h1, h2, h3⟩ := id hs
  have ty : s.TypeIs (.ref sl) "slice" := ⟨os, h1, h2⟩
  unfold getItem
  try with_reducible refine wpAny_holding ?_
  first | refine wpAny_bind (wpAny_pure ?_) | skip
  apply wpAny_bind
  apply wpAny_sequenceKey ht.typeIs (by decide)
  apply wpAny_bind
  apply wpAny_callSpecial?_slot (name := Str.ofString "__getitem__") ht.typeIs PyProof.Rows.slot_tuple_getitem
  apply wpAny_call_entry PyProof.Rows.slot_tuple_getitem ht.typeIs entry_tuple_getitem _ (args_tuple_getitem _ _)
  show wpAny _ _ (Builtin.Tuple.tupleItemsOf (.ref t) >>= _) _ _ s
  apply wpAny_bind
  apply tupleItemsOf_ ht
  apply wpAny_bind
  apply wpAny_typeOf ty
  rw [if_pos (by decide)]
  apply wpAny_bind
  unfold Builtin.Slice.sliceApplied Builtin.Slice.sliceFields
  refine wpAny_bind (wpAny_bind (wpAny_field h1 h3 (x := vl) rfl (wpAny_bind (wpAny_field h1 h3 (x := vu) rfl (wpAny_bind (wpAny_field h1 h3 (x := vs) rfl (wpAny_pure ?_)))))))
  refine wpAny_bind (HT.slicePart_ ps ?_)
  show wpAny _ _ (if ((-1 : Int) == 0) = true then _ else _) _ _ s
  rw [if_neg (by decide)]
  refine wpAny_bind (HT.slicePart_ pl (wpAny_bind (HT.slicePart_ pu (wpAny_bind (wpAny_pure ?_)))))
  show wpAny _ _ (match Builtin.Slice.sliceAdjust none none (-1) (items.size : Int) with | (lo, hi) => pure (lo, (-1 : Int), Builtin.Slice.slicePlaces lo hi (-1))) _ _ s
  rw [adjust_back]
  show wpAny _ _ (pure (((items.size : Int) - 1), (-1 : Int), Builtin.Slice.slicePlaces ((items.size : Int) - 1) (-1) (-1))) _ _ s
  rw [places_back]
  apply wpAny_pure
  show wpAny _ _ (if (((items.size : Int) - 1) == 0 && (-1 : Int) == 1 && items.size == items.size) = true then _ else _) _ _ s
  rw [if_neg (by simp), pick_back]
  first
    | exact wpAny_bind (m := Builtin.Tuple.tupleExact _) (wpAny_newObj_type (wpAny_pure ⟨_, rfl, wpAny_pure h⟩) hz)
    | exact wpAny_bind (m := Builtin.Tuple.tupleExact _) (wpAny_newObj_type (wpAny_bind (wpAny_pure (wpAny_pure ⟨_, rfl, wpAny_pure h⟩))) hz)
    | exact wpAny_bind (wpAny_bind (m := Builtin.Tuple.tupleExact _) (wpAny_newObj_type (wpAny_pure (wpAny_pure ⟨_, rfl, wpAny_pure h⟩)) hz))
    | exact wpAny_bind (wpAny_bind (m := Builtin.Tuple.tupleExact _) (wpAny_newObj_type (wpAny_pure ⟨_, rfl, wpAny_pure h⟩) hz))
end
section
variable {X : Cx}
def revS (z : Str) : Str := ⟨z.cps.toList.reverse.toArray⟩
def tBack (K : PySem.W.Frag) (te : TE) : TE := fun σ H Q => te σ H fun x H1 => (∃ a xs, x = .ref a ∧ SqL K H1 a xs ∧ ∀ p, H1 p = none → Q (.ref p) (upd H1 p (.lst xs.reverse))) ∨ (∃ a xs, x = .ref a ∧ SqT K H1 a xs ∧ ∃ b : Bool, ∀ p o, H1 p = none → o.dict = none → Q (.ref p) (upd H1 p (bareO b o xs.reverse))) ∨
  ∃ z, x = .str z ∧ z.length ≤ sizeLine ∧ Q (.str (revS z)) H1
theorem rev_made (z : Str) (t u : Tok) : sliceMade z t none none (some (-1, u)) = .str (revS z) := by
  unfold sliceMade slicePicked
  simp only [Option.map_some, Option.getD_some, Option.map_none]
  rw [if_neg (by simp), picked_rev]
  congr 2
  have e : z.length = z.cps.size := rfl
  rw [e, PySem.W.krv_range, List.filterMap_reverse, PySem.W.krv_all]
theorem pe_back {e : Expr} {te : TE} {k : Nat} {p1 p2 p3 pos : Pos} (he : PE X e te) : PE X (.Subscript e (.Slice none none (some (.UnaryOp .USub (.Constant (.int 1) k p1) p2)) p3) pos) (tBack X.K te) := by
  constructor
  intro pins s σ H Q I h
  apply Subscript_
  refine thn (he.run pins s σ H _ I h) fun v s1 ⟨x, H1, I1, r1, q1⟩ => ?_
  have step : PO X (some (.UnaryOp .USub (.Constant (.int 1) k p1) p2)) (tPart (tUn (rU fun i => .int (-i)) (tC (.int 1)))) := po_some (pe_un un_neg pe_int)
  apply wpAny_Slice
  refine thn (po_none.run pins s1 σ H1 (fun o G => o = none ∧ G = H1) I1 ⟨rfl, rfl⟩) fun vl s2 ⟨l, H2, I2, pl, el, e2⟩ => ?_
  subst el e2
  refine thn (po_none.run pins s2 σ H2 (fun o G => o = none ∧ G = H2) I2 ⟨rfl, rfl⟩) fun vu s3 ⟨u, H3, I3, pu, eu, e3⟩ => ?_
  subst eu e3
  refine thn (step.run pins s3 σ H3 (fun o G => o = some (-1) ∧ G = H3) I3 ⟨1, rfl, -1, rfl, rfl, rfl⟩) fun vs s4 ⟨o, H4, I4, ps, eo, e4⟩ => ?_
  subst eo e4
  have I5 : Inv X pins σ H4 { s4 with heap := s4.heap.push { cls := .type "slice", data := .fields #[vl, vu, vs] } } := I4.kept (t' := s4.toks) fun b ob q => Heap.get?_push_of_some _ q
  rcases q1 with ⟨a, xs, rfl, hx, q⟩ | ⟨a, xs, rfl, hx, bb, q⟩ | ⟨z, rfl, hz, q⟩
  · cases r1
    obtain ⟨its, r, ht, hz⟩ := I5.list hx
    have hlen := r.length
    apply tail_any (ops := [.ref a, .ref s4.heap.objs.size]) ht.isList.typeIs (PySem.slot_list_getitem.lookup) _ (by with_unfolding_all rfl)
    apply wpAny_getItem_list_slice ht.isList (Heap.IsSliceOf.new _ vl vu vs) pl pu ps (by decide) _ (by rw [List.size_toArray]; omega)
    rw [PySem.W.krv_pick]
    refine ⟨.ref _, _, I5.laid (t' := s4.toks) (o := .lst xs.reverse) (fun b ob q => Heap.get?_push_of_some _ q) (Nat.le_refl _) ?_, rfl, q _ (I5.hok.fresh (Nat.le_refl _))⟩
    exact ⟨by rw [List.length_reverse]; exact hz, _, 0, r.reverse, Heap.get?_push_size _ rfl⟩
  · cases r1
    obtain ⟨its, r, ht, hz⟩ := I5.tuple hx
    have hlen := r.length
    apply tail_any (ops := [.ref a, .ref s4.heap.objs.size]) ht.typeIs (PyProof.Rows.slot_tuple_getitem.lookup) _ (by with_unfolding_all rfl)
    apply tup_back ht (Heap.IsSliceOf.new _ vl vu vs) pl pu ps _ (by rw [List.size_toArray]; omega)
    exact ⟨.ref _, _, I5.laid (t' := s4.toks) (o := bareO bb _ xs.reverse) (fun b ob q => Heap.get?_push_of_some _ q) (Nat.le_refl _) (bare_ok bb (Heap.get?_push_size _ rfl) fun G => ⟨by rw [List.length_reverse]; exact hz, _, by simpa using r.reverse, IsTup.new _ _⟩), rfl, q _ _ (I5.hok.fresh (Nat.le_refl _)) rfl⟩
  · obtain ⟨t, rfl⟩ := r1
    apply tail_any (ops := [.str z t, .ref s4.heap.objs.size]) (typeIs_str _ _ _) (F.slot_str_getitem.lookup) _ (by with_unfolding_all rfl)
    obtain ⟨os, hos, hcs, hds⟩ := Heap.IsSliceOf.new s4.heap vl vu vs
    obtain ⟨l, rfl, el⟩ := IsPart.raw pl
    obtain ⟨u, rfl, eu⟩ := IsPart.raw pu
    obtain ⟨st, rfl, es⟩ := IsPart.raw ps
    have hl : l = none := by cases l with | none => rfl | some _ => cases el
    have hu : u = none := by cases u with | none => rfl | some _ => cases eu
    obtain ⟨tk, hst⟩ : ∃ tk, st = some (-1, tk) := by
      cases st with
      | none => cases es
      | some p => obtain ⟨i, tk⟩ := p; simp at es; exact ⟨tk, by rw [es]⟩
    subst hl hu hst
    apply wpAny_getItem_str_slice (l := none) (u := none) (st := some (-1, tk)) ⟨os, hos, hcs, hds⟩ rfl
    rw [rev_made]
    refine ⟨?_, .str _, H4, I5.tok _, ⟨_, rfl⟩, q⟩
    show (revS z).cps.size ≤ sizeLine
    simp only [revS, List.size_toArray, List.length_reverse, Array.length_toList]
    exact hz
def backW (m : Bool) (w : W) (h : Hh) : Option (W × Hh) := match w with
  | .dat (.list ds) => mkL m ds.reverse h
  | .dat (.tuple ds) => some (.dat (.tuple ds.reverse), h)
  | .dat (.str z) => if z.length ≤ sizeLine then some (.dat (.str (revS z)), h) else none
  | .ref n => match lstAt h n with
    | some ds => mkL m ds.reverse h
    | none => none
  | _ => none
def fRev (m : Bool) (f : EM) : EM := fun ρ h => obnd (f ρ h) fun w h1 => backW m w h1
theorem d_rev (m : Bool) {e : Expr} {f : EM} {k : Nat} {p1 p2 p3 pos : Pos} (he : DE X e f) : DE X (.Subscript e (.Slice none none (some (.UnaryOp .USub (.Constant (.int 1) k p1) p2)) p3) pos) (fRev m f) := (pe_back he).weak fun σ H Q => by
  rintro ⟨M, h, ρ, r, rs, c⟩
  obtain ⟨w, h1, e1, c1⟩ := Cont.bind (δ := Unit) c
  refine ⟨M, h, ρ, r, rs, w, h1, e1, fun M1 H1 v x1 r1 v1 => ?_⟩
  have c2 := c1 M1 H1 x1
  unfold backW at c2
  split at c2
  · cases (show RD M1 H1 _ _ from v1) with
    | lst n e q => exact .inl ⟨_, _, rfl, .of e, fun p np => mkL_fin r1 np q.rev c2⟩
  · cases (show RD M1 H1 _ _ from v1) with
    | tup n e q => exact .inr (.inl ⟨_, _, rfl, e.sq, _, fun p o np ho => mkB_fin r1 np q.rev ho c2⟩)
  · split at c2
    · rename_i hz
      cases (show RD M1 H1 _ _ from v1)
      exact .inr (.inr ⟨_, rfl, hz, c2.here r1 (.str _)⟩)
    · exact c2.no.elim
  · split at c2
    · rename_i n ds el
      obtain ⟨a, ea, rfl⟩ := v1
      obtain ⟨xs, hx, q⟩ := lstAt_ok r1 el ea
      exact .inl ⟨_, _, rfl, .of hx, fun p np => mkL_fin r1 np q.rev c2⟩
    · exact c2.no.elim
  · exact c2.no.elim
end
end DL
set_option maxRecDepth 100000
set_option maxHeartbeats 400000
namespace DL
open PySem PySem.Spec PyProof.Rows L2
structure Bi (mg : Str → Option Value) : Prop where
  len : mg "len" = none
  abs : mg "abs" = none
  int : mg "int" = none
  max : mg "max" = none
  min : mg "min" = none
  all : mg "all" = none
  any : mg "any" = none
  sum : mg "sum" = none
  tuple : mg "tuple" = none
  list : mg "list" = none
  dict : mg "dict" = none
  sorted : mg "sorted" = none
  isinstance : mg "isinstance" = none
  str : mg "str" = none
  bool : mg "bool" = none
  range : mg "range" = none
  enumerate : mg "enumerate" = none
  zip : mg "zip" = none
  reversed : mg "reversed" = none
  repr : mg "repr" = none
  set : mg "set" = none
section
variable {X : Cx} {p pos : Pos} {e e2 : Expr} {es : List Expr} {g : AM} {f : EM}
theorem bt_int : bootBuiltins "int" = some (.type "int") := by decide +kernel
theorem bt_str : bootBuiltins "str" = some (.type "str") := by decide +kernel
theorem bt_list : bootBuiltins "list" = some (.type "list") := by decide +kernel
theorem bt_tuple : bootBuiltins "tuple" = some (.type "tuple") := by decide +kernel
theorem bt_bool : bootBuiltins "bool" = some (.type "bool") := by decide +kernel
theorem bt_dict : bootBuiltins "dict" = some (.type "dict") := by decide +kernel
theorem d_abs (hm : X.mg "abs" = none) (ha : DA X [e] g) (hg : Gl X "abs" := by rfl) (he : starEach [e] X.env = (false, eval e X.env) :: starEach [] X.env := by rfl) (hpl : (backTo pos (starEach [] X.env)).any (·.1) = false := by rfl) : DE X (.Call (.Name "abs" p) [e] [] pos) (fA absW g) :=
  d_callB call_abs s_abs hm (by decide +kernel) ha hg (by decide) (by decide) he hpl
theorem d_max (hc : X.calm = true) (hm : X.mg "max" = none) (ha : DA X [e, e2] g) (hg : Gl X "max" := by rfl) (he : starEach [e, e2] X.env = (false, eval e X.env) :: starEach [e2] X.env := by rfl) (hpl : (backTo pos (starEach [e2] X.env)).any (·.1) = false := by rfl) : DE X (.Call (.Name "max" p) [e, e2] [] pos) (fA maxW g) :=
  d_callB (call_max2 hc) s_max hm (by decide +kernel) ha hg (by decide) (by decide) he hpl
theorem d_all (hc : X.calm = true) (hm : X.mg "all" = none) (ha : DA X [e] g) (hg : Gl X "all" := by rfl) (he : starEach [e] X.env = (false, eval e X.env) :: starEach [] X.env := by rfl) (hpl : (backTo pos (starEach [] X.env)).any (·.1) = false := by rfl) : DE X (.Call (.Name "all" p) [e] [] pos) (fA allW g) :=
  d_callB (cr_all hc) s_all hm (by decide +kernel) ha hg (by decide) (by decide) he hpl
theorem d_sum (hc : X.calm = true) (hm : X.mg "sum" = none) (ha : DA X [e] g) (hg : Gl X "sum" := by rfl) (he : starEach [e] X.env = (false, eval e X.env) :: starEach [] X.env := by rfl) (hpl : (backTo pos (starEach [] X.env)).any (·.1) = false := by rfl) : DE X (.Call (.Name "sum" p) [e] [] pos) (fA sumW g) :=
  d_callB (cr_sum hc) s_sum hm (by decide +kernel) ha hg (by decide) (by decide) he hpl
theorem d_sorted {k : Nat} (hr : RG k X.A) (m : Bool) (hm : X.mg "sorted" = none) (ha : DA X [e] g) (hg : Gl X "sorted" := by rfl) (he : starEach [e] X.env = (false, eval e X.env) :: starEach [] X.env := by rfl) (hpl : (backTo pos (starEach [] X.env)).any (·.1) = false := by rfl) : DE X (.Call (.Name "sorted" p) [e] [] pos) (fA (sortW m) g) :=
  d_callB (cr_sortedA hr.room) (s_sorted m) hm (by decide +kernel) ha hg (by decide) (by decide) he hpl
theorem d_intC (hm : X.mg "int" = none) (ha : DA X [e] g) (hg : Gl X "int" := by rfl) (he : starEach [e] X.env = (false, eval e X.env) :: starEach [] X.env := by rfl) (hpl : (backTo pos (starEach [] X.env)).any (·.1) = false := by rfl) : DE X (.Call (.Name "int" p) [e] [] pos) (fA intC g) :=
  d_callT call_int1 s_intC hm bt_int ha hg (by decide) (by decide) he hpl
theorem d_tuple (hm : X.mg "tuple" = none) (ha : DA X [e] g) (hg : Gl X "tuple" := by rfl) (he : starEach [e] X.env = (false, eval e X.env) :: starEach [] X.env := by rfl) (hpl : (backTo pos (starEach [] X.env)).any (·.1) = false := by rfl) : DE X (.Call (.Name "tuple" p) [e] [] pos) (fA tupleW g) :=
  d_callT call_tupB s_tuple hm bt_tuple ha hg (by decide) (by decide) he hpl
theorem d_list (m : Bool) (hm : X.mg "list" = none) (ha : DA X [e] g) (hg : Gl X "list" := by rfl) (he : starEach [e] X.env = (false, eval e X.env) :: starEach [] X.env := by rfl) (hpl : (backTo pos (starEach [] X.env)).any (·.1) = false := by rfl) : DE X (.Call (.Name "list" p) [e] [] pos) (fA (listW m) g) :=
  d_callT call_list_of (s_list m) hm bt_list ha hg (by decide) (by decide) he hpl
end
theorem law_g {P : Program} {w : World} {K : PySem.W.Frag} {mg mb : Str → Option Value} {k : Nat} {fa a : Addr} {fd : FuncData} {x : Str} {sp : Sp} {s₁ : Shared} {vs : List Value} {ns : List Int}
    (kx : K.In s₁.heap) (hns : s₁.heap.Ns mainGlobals mg) (hb : s₁.heap.Ns builtinsNs mb) (hbb : ∀ x : Str, x ≠ "__name__" → mb x = bootBuiltins x) (hlim : s₁.heap.NoLimit) (hg : s₁.gens = #[])
    (ha : s₁.heap.get? a = some { cls := .type "list", data := .seq vs.toArray }) (hi : IntsAre vs ns) (hl : ns.length ≤ sizeLine) (hr : Room k callerA)
    (F : ∀ base : Heap, K.In base → base.Ns mainGlobals mg → FnG P w K mg base CX0 k fa fd [x] sp) (hbind : ∀ (s : Shared) (u : Value), BindsTo s fd ⟨[u], []⟩ [(x, u)])
    (hka : K.lookup a = none)
    (hsp : ∀ H : Hp, (∃ o, H a = some (.frz o (.lst (ns.map V.int)))) → (∀ b, b ≠ a → H b = none) → sp [.ref a] H (fun v _ => v = .bl true) fun _ _ _ => False) :
    codeAny (model P w) callerA (.call (.ref fa) ⟨[.ref a], []⟩) (fun r s' => r = .ok (.ret (.bool true)) ∧ OldK s₁.heap s'.heap ∧ s'.os = s₁.os ∧ AllBare s'.gens) s₁ := by
  have rv := vals_ints hi
  let ob : Obj := { cls := .type "list", data := .seq vs.toArray }
  let H : Hp := fun b => if b = a then some (.frz ob (.lst (ns.map V.int))) else none
  have Ha : H a = some (.frz ob (.lst (ns.map V.int))) := if_pos rfl
  have Hn : ∀ b, b ≠ a → H b = none := fun b h => if_neg h
  have hok : HOk P w H s₁.heap := by
    intro b u e
    by_cases h : b = a
    · subst h
      rw [Ha] at e
      cases e
      exact ⟨ha, by rw [List.length_map]; exact hl, vs, _, rv, ha⟩
    · rw [Hn b h] at e; cases e
  have hid : ∀ {b : Addr} {o : Obj}, s₁.heap.get? b = some o → H b = none → (hidT s₁.heap H).get? b = some o := fun e n => hidT_get e n
  have isd : ∀ {b : Addr} {o : Obj} {es : Array DictEntry} {ep : Nat}, s₁.heap.get? b = some o → o.data = .dict es ep → H b = none := by
    intro b o es ep e d
    apply Hn
    intro z
    subst z
    rw [ha] at e
    cases e
    cases d
  have nsk : ∀ {b : Addr} {m : Str → Option Value}, s₁.heap.Ns b m → (hidT s₁.heap H).Ns b m := fun {b m} q => by
    obtain ⟨o, es, ep, e, d, r⟩ := q
    exact ⟨o, es, ep, hid e (isd e d), d, r⟩
  have kb : K.In (hidT s₁.heap H) := by
    intro b o e
    apply hid (kx b o e)
    apply Hn
    intro z
    subst z
    rw [hka] at e
    cases e
  have hM : Mod K mg (hidT s₁.heap H) := by
    refine ⟨kb, nsk hns, ⟨mb, nsk hb, hbb⟩, ?_⟩
    obtain ⟨mc, h1, h2⟩ := hlim
    exact ⟨mc, nsk h1, h2⟩
  have e0 : Env0 P w K mg (hidT s₁.heap H) callerA [] s₁ H := by
    refine ⟨rfl, hM, fun b o e => of_hidT e, Nat.le_of_eq (hidT_size _ _), trivial, fun b hb => ?_, hok, .of_eq hg⟩
    exact absurd (show b ∈ ([] : List Addr) from hb) (by simp)
  apply codeAny_mono ((F _ kb (nsk hns)).run callerA [] s₁ H ⟨[.ref a], []⟩ [.ref a] [.ref a] _ _ ⟨hr, rfl⟩ e0 (hbind s₁ (.ref a)) (.cons rfl .nil) (hsp H ⟨ob, Ha⟩ Hn))
  intro r s' h
  cases r with
  | error e => exact h.elim
  | ok fl => cases fl with
    | next => exact h.elim
    | brk => exact h.elim
    | cont => exact h.elim
    | ret u =>
      obtain ⟨v, H', os, bare, un, hok', r', q⟩ := h
      obtain rfl : v = .bl true := q
      obtain rfl : u = Value.bool true := r'
      refine ⟨rfl, OldK.of_keep fun b o e => ?_, os, bare⟩
      by_cases hb' : b = a
      · subst hb'
        have z2 := un.frzs b ob _ Ha
        obtain ⟨e1, _⟩ := hok b _ Ha
        obtain ⟨e2, _⟩ := hok' b _ z2
        rw [e] at e1
        cases e1
        exact e2
      · exact un.keep b o e (Hn b hb') (fun z => absurd (show b ∈ ([] : List Addr) from z) (by simp)) (by simp)
def noList (K : PySem.W.Frag) : Bool := K.all fun p => match p.2.cls with
  | .type "list" => false
  | _ => true
theorem lookup_mem {K : PySem.W.Frag} {a : Addr} {o : Obj} (e : K.lookup a = some o) : (a, o) ∈ K := by
  induction K with
  | nil => cases e
  | cons p r ih =>
    obtain ⟨b, u⟩ := p
    rw [List.lookup_cons] at e
    split at e
    · rename_i q
      have : a = b := by simpa using q
      cases e
      subst this
      exact List.mem_cons_self
    · exact List.mem_cons_of_mem _ (ih e)
theorem walk_g {l : PySem.W.OpenLaw} {k : Nat} {q : Program} {loose : List Str} {XP : (Str → Option Value) → Heap → Prop} {YP : World → Heap → Prop} {d : DefRec} {K : Params → PySem.W.Frag} {x : Str} {m : FM}
    (hn : l.most = some 63) (hdf : d.params.defaults = []) (hr : Room k callerA)
    (hY : ∀ (w : World) (h : Heap), YP w h → (K w.params).In h) (hnl : ∀ w : World, noList (K w.params) = true)
    (F : ∀ (w : World) (mg : Str → Option Value) (fa : Addr) (h : Heap), (K w.params).In h → h.Ns mainGlobals mg → mg d.name = some (.ref fa) →
      ∃ fd : FuncData, (∀ (s : Shared) (u : Value), BindsTo s fd ⟨[u], []⟩ [(x, u)]) ∧ ∀ base : Heap, (K w.params).In base → base.Ns mainGlobals mg → FnG l.prog w (K w.params) mg base CX0 k fa fd [x] (spD m))
    (hm : ∀ ns : List Int, ns.length ≤ 63 → ∃ h', m [.scr ns] [] = some (.dat (.bool true), h')) :
    PySem.W.WalkO q loose XP YP l.row.toRowW d [] (fun f vs => PySem.call f vs) := by
  apply Att.attach_call hn hdf
  intro w s₀ s₁ mg mb fa o pm cd doc a vs ns G Y ho hd hcd hmg hobj hints hlen hg
  have KX := hY w _ Y
  obtain ⟨fd, hb, hF⟩ := F w mg fa _ KX G.T.g hmg
  have hka : (K w.params).lookup a = none := by
    cases e : (K w.params).lookup a with
    | none => rfl
    | some u =>
      exfalso
      have e1 := KX a u e
      rw [hobj] at e1
      cases e1
      have := List.all_eq_true.mp (hnl w) _ (lookup_mem e)
      cases this
  apply law_g KX G.T.g G.T.b G.T.builtins G.T.nolimit hg hobj hints (Nat.le_trans hlen (by decide)) hr hF hb hka
  intro H ha hn'
  obtain ⟨ob, ha⟩ := ha
  obtain ⟨h', e⟩ := hm ns hlen
  have rep : Rep ⟨[], []⟩ H [] := ⟨fun a z => (by cases z), rfl, fun i j a z => (by simp at z), fun i a z => (by simp at z), fun i z => (by simp at z)⟩
  have nh : ¬ Mm.Has ⟨[], []⟩ a := fun z => (by rcases z with z | z <;> cases z)
  refine ⟨⟨[], []⟩, [], [.scr ns], rep, .cons ⟨a, ob, rfl, nh, ha⟩ .nil, .dat (.bool true), h', e, fun M' H' v _ _ r => ?_⟩
  cases (show RD M' H' v _ from r)
  rfl
end DL
set_option maxRecDepth 100000
set_option maxHeartbeats 1000000
namespace DL
open PySem PySem.Spec PyProof.Rows L2
theorem enum_meets {v : Value} {o : Obj} {H : Heap → Prop} (B : Begins v o H) : Meets (Builtin.«enumerate.__new__» ⟨[.type "enumerate", v], []⟩) (fun _ R s => H s.heap ∧
    R (.ok (.ret (.ref (s.heap.push o).objs.size))) { s with heap := (s.heap.push o).push { cls := .type "enumerate", data := .fields #[.none, .bool false, .ref s.heap.objs.size, rawInt 0, .none, .none] } }) := by
  apply Meets.of_wp
  intro prog w A R s h
  obtain ⟨hp, g, d, tk, os⟩ := s
  obtain ⟨h1, h⟩ := h
  have hsub := sub_enumerate
  have it : ∀ {A' : Around} {E : Value → Shared → Prop} {Q : Value → Shared → Prop}, Q (.ref hp.objs.size) ⟨hp.push o, g, d, tk, os⟩ → wpAny (model prog w) A' (pyIter v) Q E ⟨hp, g, d, tk, os⟩ := by
    intro A' E Q q
    exact B.iter prog w _ _ ⟨hp, g, d, tk, os⟩ _ h1 q
  wp_walk using it
  apply wpAny_stack_any
  intro st
  apply wpAny_pure
  split
  · rename_i c _ _ _ _ _
    cases (c == Value.type "enumerate") <;> (wp_walk using it; exact ⟨_, rfl, h⟩)
  · wp_walk using it
    exact ⟨_, rfl, h⟩
section
variable {prog : Program} {w : World} {A : Around} {E : Value → Shared → Prop} {s : Shared}
theorem call_enumT {v : Value} {o : Obj} {H : Heap → Prop} {Q : Value → Shared → Prop} (B : Begins v o H) (h1 : H s.heap)
    (h : ∀ h', IsEnum h' (s.heap.objs.size + 1) s.heap.objs.size 0 .none → h'.get? s.heap.objs.size = some o → (∀ b o, s.heap.get? b = some o → h'.get? b = some o) → Q (.ref (s.heap.objs.size + 1)) { s with heap := h' }) :
    wpAny (model prog w) A (call (.type "enumerate") [v]) Q E s := by
  apply callType_new F.called_enumerate (by decide) (F.typeCall_enumerate_1 _) (F.newCall_enumerate_1 _) (fun obj => F.args_object_init_2 obj _) F.entry_enumerate_new (enum_meets B)
  refine ⟨h1, ?_⟩
  have hz : (s.heap.push o).objs.size = s.heap.objs.size + 1 := Heap.size_push ..
  show _ ∧ _
  rw [hz]
  have he : IsEnum ((s.heap.push o).push { cls := .type "enumerate", data := .fields #[.none, .bool false, .ref s.heap.objs.size, rawInt 0, .none, .none] }) (s.heap.objs.size + 1) s.heap.objs.size 0 .none := by
    have z := Heap.get?_push_size (s.heap.push o) (o := { cls := .type "enumerate", data := .fields #[.none, .bool false, .ref s.heap.objs.size, rawInt 0, .none, .none] }) rfl
    rw [hz] at z
    exact z
  exact ⟨⟨_, he, rfl⟩, h _ he (Heap.get?_push_of_some _ (Heap.get?_push_size _ B.free)) fun b o x => Heap.get?_push_of_some _ (Heap.get?_push_of_some _ x)⟩
end
def IteT (K : PySem.W.Frag) (a : Addr) : It :=
  ⟨fun i H => ∃ (xs : List V) (x : V), SqT K H a xs ∧ xs[i]? = some x, fun i H v H' => ∃ T x, v = .ref T ∧ H T = none ∧ H' = upd H T (.tup [.int (i : Nat), x]) ∧ ∀ xs, SqT K H a xs → xs[i]? = some x, fun i H => ∃ xs : List V, SqT K H a xs ∧ xs.length ≤ i⟩
theorem turn_enumT {P : Program} {w : World} {K : PySem.W.Frag} {elts : List Expr} {kk : Nat} {tpos : Pos} (a e it : Addr) :
    Turn P w K (.Tuple elts kk tpos) (IteT K a) [e, it] e (fun i h => (∃ old, IsEnum h e it ((i : Nat) : Int) old) ∧ h.IsTupleIter it a i ∧ e ≠ it ∧ a ≠ it ∧ e ≠ a) where
  mem := by simp
  obj := fun i h st b hb => by
    obtain ⟨⟨old, he⟩, ⟨o, ho, hc, hd⟩, _⟩ := st
    have e' : b = e ∨ b = it := by simpa using hb
    rcases e' with z | z
    · rw [z]; exact ⟨_, he, fun v q => nomatch q⟩
    · rw [z]; exact ⟨o, ho, fun v q => by rw [hd] at q; cases q⟩
  keep := fun i h h' st k => let ⟨⟨old, he⟩, hi, hne⟩ := st; ⟨⟨old, k e (by simp) _ he⟩, hi.at fun o q => k it (by simp) o q, hne⟩
  item := by
    intro X hP hw hK hc i pins s σ H E I hf st hg
    subst hP hw hK
    obtain ⟨⟨old, he⟩, hit, hne, hna, hea⟩ := st
    obtain ⟨xs, x, hq, hx⟩ := hg
    obtain ⟨its, rv, p, hz⟩ := I.tuple hq
    obtain ⟨u, hu, ru⟩ := rv.get hx
    have hel : e < s.heap.objs.size := Heap.lt_size he
    have hil : it < s.heap.objs.size := by obtain ⟨_, q, _⟩ := hit; exact Heap.lt_size q
    have hi : i < its.toArray.size := by
      have := (List.getElem?_eq_some_iff.mp hu).1
      simpa using this
    have DD := Draws.tuple (prog := X.prog) (w := X.w) (A := X.A.in1) (I.ok.hd hc) it a hna its.toArray
    apply wpAny_pyNext_enum_itemD DD he ⟨hit, p⟩ hi hne (by simp [hne, hea])
    intro x' h' tk hP ho hs hT hsz hk
    obtain ⟨hit', p'⟩ := hs
    have ex : x' = u := by
      have h2 : its[i]? = some x' := by simpa using hP
      rw [hu] at h2
      exact (Option.some.inj h2).symm
    subst ex
    refine ⟨_, rfl, wpAny_letOwnedTupleGo_enum (s := { s with heap := h', toks := tk + 1 }) ho fun h'' he' sb => ?_⟩
    have hT2 : h''.get? s.heap.objs.size = some { cls := .type "tuple", data := .seq #[.int i tk, x'] } := (sb.2 _ (Nat.ne_of_gt hel)).trans hT
    have new : ObjOk X.prog X.w (upd H s.heap.objs.size (.tup [.int (i : Nat), x])) h'' s.heap.objs.size (.tup [.int (i : Nat), x]) :=
      ⟨by show 2 ≤ sizeLine; decide, [.int i tk, x'], .cons ⟨_, rfl⟩ (.cons ru .nil), ⟨_, hT2, rfl, _, rfl⟩⟩
    have I1 : Inv X pins σ (upd H s.heap.objs.size (.tup [.int (i : Nat), x])) { s with heap := h'', toks := tk + 1 } := by
      apply I.turnedNew (ch := [e, it]) _ hf (Nat.le_refl _) new
      intro b ob hb q
      have h1 : b ≠ e := fun z => hb (by simp [z])
      have h2 : b ≠ it := fun z => hb (by simp [z])
      rw [sb.2 b h1]
      exact hk b ob h1 h2 q
    refine ⟨.ref s.heap.objs.size, _, I1, rfl, ⟨_, x, rfl, I.hok.fresh (Nat.le_refl _), rfl, fun ys hy => by rw [I.tuple_inj hy hq]; exact hx⟩, ⟨⟨x', ?_⟩, hit'.at fun o q => (sb.2 it (Ne.symm hne)).trans q, hne, hna, hea⟩, fun b hb => ?_⟩
    · have e1 : ((i + 1 : Nat) : Int) = (i : Int) + 1 := by omega
      rw [e1]; exact he'
    · have hb' : b < s.heap.objs.size := by
        have e' : b = e ∨ b = it := by simpa using hb
        rcases e' with z | z
        · rw [z]; exact hel
        · rw [z]; exact hil
      rw [upd_ne (Nat.ne_of_lt hb')]
      exact (hf b hb).1
  done := by
    intro X hP hw hK hc i pins s σ H E I hf st hg
    subst hP hw hK
    obtain ⟨⟨old, he⟩, hit, hne, hna, hea⟩ := st
    obtain ⟨xs, hq, hx⟩ := hg
    obtain ⟨its, rv, p, hz⟩ := I.tuple hq
    obtain ⟨f0, f1, f2, f3, f4, f5⟩ := hf it (by simp)
    have hl := rv.length
    unfold pyNext
    have hT : s.TypeIs (.ref e) "enumerate" := ⟨_, he, rfl⟩
    apply wpAny_bind
    apply wpAny_attempt
    apply wpAny_callSpecial?_slot (name := Str.ofString "__next__") hT F.slot_enumerate_next
    apply wpAny_call_entry F.slot_enumerate_next hT F.entry_enumerate_next _ (F.args_enumerate_next_1 _)
    show wpAny _ _ (field (.ref e) 2 >>= _) _ _ _
    apply wpAny_bind
    apply wpAny_field he rfl (x := .ref it) rfl
    apply wpAny_bind
    apply wpAny_nextOf_tuple_end (A := X.A.in1) (show X.A.in1.handled = none from I.ok.hd hc) hit p (by simp; omega)
    intro h' x he' hx'
    obtain ⟨o, ho, hc'⟩ := hx'
    refine wpAny_bind (wpAny_isInstance (T := "StopIteration") (b := true) ⟨o, ho, hc'⟩ isSubtype_stop ?_)
    apply wpAny_pure
    exact ⟨rfl, I.turned (t' := s.toks) (fun b o hb q => he' b o hb q) f0 f1 f3 f4 f5⟩
  self := fun A i s Q E st h => let ⟨⟨_, he⟩, _⟩ := st; wpAny_pyIter_enum he h
def iEnumT (K : PySem.W.Frag) (ta : TA) : TI := fun σ H R => ta σ H fun vs H1 => (∃ a xs, vs = [.ref a] ∧ SqL K H1 a xs ∧ R (Ite K a) H1) ∨ ∃ a xs, vs = [.ref a] ∧ SqT K H1 a xs ∧ H1 a ≠ none ∧ R (IteT K a) H1
theorem pi_enumT {X : Cx} {e : Expr} {ta : TA} {p pos tpos : Pos} {elts : List Expr} {kk : Nat} (hg : Gl X "enumerate") (hm : X.mg "enumerate" = none) (ha : PA X [e] ta) (hs : starEach [e] X.env = [(false, eval e X.env)] := by rfl) :
    PI X (.Tuple elts kk tpos) (.Call (.Name "enumerate" p) [e] [] pos) (iEnumT X.K ta) := by
  constructor
  intro pins s σ H R I h
  refine Call_ ?_
  apply ld_blt I hg hm boot_enumerate
  apply PyProof.Rows.callWith_type1 _ hs rfl
  refine thn (ha.run pos pins s σ H _ I h) fun us s1 ⟨vs, H1, I1, r1, q1⟩ => ?_
  rcases q1 with ⟨a, xs, ex, hq, q⟩ | ⟨a, xs, ex, hq, hn, q⟩
  · subst ex
    obtain rfl := Vals.ref1 r1
    obtain ⟨its, rv, p', hz⟩ := I1.list hq
    apply call_enumerate_list p'.isList
    intro h' he hit hsz hk
    apply wpAny_pyIter_enum he
    have I2 : Inv X pins σ H1 { s1 with heap := h' } := I1.kept (t' := s1.toks) hk
    refine ⟨s1.heap.objs.size + 1, [s1.heap.objs.size + 1, s1.heap.objs.size], _, _, H1, rfl, I2, turn_enum a (s1.heap.objs.size + 1) s1.heap.objs.size, ⟨⟨.none, he⟩, hit, Nat.succ_ne_self _⟩, fun b hb => ?_, q⟩
    have hle : s1.heap.objs.size ≤ b := by
      have e' : b = s1.heap.objs.size + 1 ∨ b = s1.heap.objs.size := by simpa using hb
      rcases e' with z | z
      · rw [z]; exact Nat.le_succ _
      · rw [z]; exact Nat.le_refl _
    exact I1.fpOk hle (I1.hok.fresh hle)
  · subst ex
    obtain rfl := Vals.ref1 r1
    obtain ⟨its, rv, p', hz⟩ := I1.tuple hq
    have hlt : a < s1.heap.objs.size := p'.lt
    apply call_enumT (begins_tuple a its.toArray) p'
    intro h' he hit hk
    apply wpAny_pyIter_enum he
    have I2 : Inv X pins σ H1 { s1 with heap := h' } := I1.kept (t' := s1.toks) hk
    refine ⟨s1.heap.objs.size + 1, [s1.heap.objs.size + 1, s1.heap.objs.size], _, _, H1, rfl, I2, turn_enumT a (s1.heap.objs.size + 1) s1.heap.objs.size, ⟨⟨.none, he⟩, ⟨_, hit, rfl, rfl⟩, Nat.succ_ne_self _, Nat.ne_of_lt hlt, Nat.ne_of_gt (Nat.lt_succ_of_lt hlt)⟩, fun b hb => ?_, q⟩
    have hle : s1.heap.objs.size ≤ b := by
      have e' : b = s1.heap.objs.size + 1 ∨ b = s1.heap.objs.size := by simpa using hb
      rcases e' with z | z
      · rw [z]; exact Nat.le_succ _
      · rw [z]; exact Nat.le_refl _
    exact I1.fpOk hle (I1.hok.fresh hle)
end DL
set_option maxRecDepth 100000
set_option maxHeartbeats 400000
namespace DL
open PySem PySem.Spec PyProof.Rows L2
theorem itd_enumT {K : PySem.W.Frag} {M : Mm} {H : Hp} {a : Addr} {xs : List V} {ds : List D} (n : ¬ M.Has a) (ha : TupAt H a xs ds) (q : RDs M H xs ds) : ItD M H (IteT K a) (enumD 0 ds) := fun M1 H1 x tr => by
  have h1 := (ha.to fun _ z => x.st n z).sq (K := K)
  have q1 := q.mono x
  refine ⟨fun i d e => ?_, xs, h1, by rw [enumD_len, q.length]; exact Nat.le_refl _⟩
  obtain ⟨d', e1, rfl⟩ := enumD_get e
  obtain ⟨v, e2, r⟩ := q1.get e1
  refine ⟨⟨xs, v, h1, e2⟩, fun y H2 hy => ?_⟩
  obtain ⟨T, u, rfl, nT, rfl, hu⟩ := hy
  have eu : u = v := by
    have := hu xs h1
    rw [e2] at this
    exact (Option.some.inj this).symm
  subst eu
  refine ⟨same_new nT, RD.tup (new_out tr nT) (.inl ⟨rfl, upd_same⟩) ?_⟩
  rw [Nat.zero_add]
  exact .cons (.int _) (.cons (r.mono (grow_ext (same_new nT))) .nil)
def enumA (g : AM) : IM := fun ρ h => obnd (g ρ h) fun ws h1 => match ws with
  | [.dat (.list ds)] => some (enumD 0 ds, h1)
  | [.dat (.tuple ds)] => some (enumD 0 ds, h1)
  | _ => none
section
variable {X : Cx}
theorem di_enumA (hm : X.mg "enumerate" = none) {e : Expr} {elts : List Expr} {kk : Nat} {p pos tpos : Pos} {g : AM} (ha : DA X [e] g) (hg : Gl X "enumerate" := by rfl) (hs : starEach [e] X.env = [(false, eval e X.env)] := by rfl) : DI X (.Tuple elts kk tpos) (.Call (.Name "enumerate" p) [e] [] pos) (enumA g) := (pi_enumT hg hm ha hs).weak fun σ H R => by
  rintro ⟨M, h, ρ, ds, h', r, rs, e0, k⟩
  unfold enumA at e0
  cases eg : g ρ h with
  | none => rw [eg] at e0; cases e0
  | some pr =>
    obtain ⟨ws, h1⟩ := pr
    rw [eg] at e0
    simp only [obnd_some] at e0
    refine ⟨M, h, ρ, r, rs, ws, h1, eg, fun M1 H1 vs x1 r1 v1 => ?_⟩
    split at e0
    · cases e0
      obtain ⟨v, rfl, rv⟩ := rvs1 v1
      cases (show RD M1 H1 _ _ from rv) with
      | lst n e q => exact .inl ⟨_, _, rfl, .of e, k M1 H1 _ x1 r1 (itd_enum n e q)⟩
    · cases e0
      obtain ⟨v, rfl, rv⟩ := rvs1 v1
      cases (show RD M1 H1 _ _ from rv) with
      | tup n e q => exact .inr ⟨_, _, rfl, e.sq, (by obtain ⟨_, z⟩ := e.some_; rw [z]; exact nofun), k M1 H1 _ x1 r1 (itd_enumT n e q)⟩
    · cases e0
end
end DL
set_option maxRecDepth 100000
set_option maxHeartbeats 400000
namespace DL
open PySem PySem.Spec PyProof.Rows L2
def moD : MO → D
  | .lst ds => .list ds
  | .dic es => .dict es
  | .dit es => .dict ((.none, .none) :: es)
  | .tab _ _ => .none
  | .ins _ _ => .none
def isTab : MO → Bool
  | .tab _ _ => true
  | .ins _ _ => true
  | .dit _ => true
  | _ => false
def isR (n : Nat) : Option W → Bool
  | some (.ref m) => decide (m = n)
  | some (.pack _) => true
  | _ => false
def frz (i : Nat) (ρ : Env) (h : Hh) : Option (Env × Hh) := match ρ[i]? with
  | some (some (.ref n)) => match h[n]? with
    | some (some o) => if ((ρ.set i none).any (isR n) || isTab o) = true then none else some (ρ.set i (some (.dat (moD o))), h.set n none)
    | _ => none
  | _ => none
def sFrz (i : Nat) (f : SM) : SM := fun ρ h => match frz i ρ h with
  | some (ρ', h') => f ρ' h'
  | none => none
section
variable {M : Mm} {H : Hp} {h : Hh}
theorem less_set {n : Nat} : ∀ b, Mm.Has ⟨M.u, M.m.set n none⟩ b → M.Has b := fun b z => by
  rcases z with z | z
  · exact .inl z
  · right
    rcases List.mem_or_eq_of_mem_set z with q | q
    · exact q
    · cases q
theorem not_set {n : Nat} {a : Addr} (rep : Rep M H h) (e : M.m[n]? = some (some a)) : ¬ Mm.Has ⟨M.u, M.m.set n none⟩ a := fun z => by
  rcases z with z | z
  · exact (rep.us a z).1 (List.mem_of_getElem? e)
  · obtain ⟨i, hi, q⟩ := List.getElem_of_mem z
    have q' : (M.m.set n none)[i]? = some (some a) := by rw [List.getElem?_eq_getElem hi, q]
    by_cases hn : n = i
    · subst hn
      have hi' : n < M.m.length := lt_of_get e
      rw [List.getElem?_set_self hi'] at q'
      cases q'
    · rw [List.getElem?_set_ne hn] at q'
      exact hn (rep.inj i n a q' e).symm
theorem ext_frz {n : Nat} : Ext M ⟨M.u, M.m.set n none⟩ H H where
  us := fun _ m => .inl m
  trk := fun a o e => ⟨o, e⟩
  stab := fun _ _ e _ => e
  fresh := fun a m => by
    rcases List.mem_or_eq_of_mem_set m with q | q
    · exact .inl q
    · cases q
  len := by simp
  kill := fun i hi => by
    by_cases hn : n = i
    · subst hn
      right
      show (M.m.set n none)[n]? = _
      rw [List.getElem?_set_self hi]
    · left
      show (M.m.set n none)[i]? = _
      rw [List.getElem?_set_ne hn]
theorem Rep.frz {n : Nat} {a : Addr} (rep : Rep M H h) (e : M.m[n]? = some (some a)) : Rep ⟨M.u, M.m.set n none⟩ H (h.set n none) := by
  have hn : n < h.length := by rw [← rep.len]; exact lt_of_get e
  refine ⟨fun b z => ?_, by simpa using rep.len, fun i j b q1 q2 => ?_, fun i b q => ?_, fun i q => ?_⟩
  · obtain ⟨h1, h2⟩ := rep.us b z
    refine ⟨fun y => h1 ?_, h2⟩
    rcases List.mem_or_eq_of_mem_set y with q | q
    · exact q
    · cases q
  · have g : ∀ (k : Nat), (M.m.set n none)[k]? = some (some b) → M.m[k]? = some (some b) := fun k q => by
      by_cases hk : n = k
      · subst hk
        rw [List.getElem?_set_self (lt_of_get e)] at q
        cases q
      · rwa [List.getElem?_set_ne hk] at q
    exact rep.inj i j b (g i q1) (g j q2)
  · have hk : n ≠ i := fun z => by
      subst z
      have q' : (M.m.set n none)[n]? = some (some b) := q
      rw [List.getElem?_set_self (lt_of_get e)] at q'
      cases q'
    have q' : M.m[i]? = some (some b) := by
      have z : (M.m.set n none)[i]? = some (some b) := q
      rwa [List.getElem?_set_ne hk] at z
    obtain ⟨o, ho, ro⟩ := rep.at_ i b q'
    exact ⟨o, by rw [List.getElem?_set_ne hk]; exact ho, ro.sub less_set⟩
  · have q' : (M.m.set n none)[i]? = some none := q
    by_cases hk : n = i
    · subst hk
      rw [List.getElem?_set_self hn]
    · rw [List.getElem?_set_ne hk] at q' ⊢
      exact rep.dead i q'
theorem RS.frz {n i : Nat} {a : Addr} {o : MO} {ρ : Env} {σ : L2.St} (rep : Rep M H h) (rs : RS M H ρ σ) (e : M.m[n]? = some (some a)) (er : ρ[i]? = some (some (.ref n))) (ro : RO M H a o) (hn : ¬ ((ρ.set i none).any (isR n)) = true) (ht : isTab o = false) :
    RS ⟨M.u, M.m.set n none⟩ H (ρ.set i (some (.dat (moD o)))) σ := by
  refine ⟨by simp [rs.1], fun j w q => ?_⟩
  by_cases hj : i = j
  · subst hj
    rw [List.getElem?_set_self (lt_of_get er)] at q
    cases q
    obtain ⟨v, ev, a', ea, rfl⟩ := rs.2 i _ er
    rw [e] at ea
    cases ea
    refine ⟨_, ev, ?_⟩
    cases o with
    | lst ds => obtain ⟨xs, hx, qx⟩ := ro; exact RD.lst (not_set rep e) hx (qx.sub less_set)
    | dic ds => obtain ⟨xs, hx, qx⟩ := ro; exact RD.dic (not_set rep e) hx (qx.sub less_set)
    | dit ds => exact absurd ht (by simp [isTab])
    | tab q P => exact absurd ht (by simp [isTab])
    | ins C fs => exact absurd ht (by simp [isTab])
  · rw [List.getElem?_set_ne hj] at q
    obtain ⟨v, ev, rv⟩ := rs.2 j w q
    refine ⟨v, ev, ?_⟩
    cases w with
    | dat d => exact RD.sub less_set rv
    | ins C fs =>
      obtain ⟨b, u, gs, e1, n1, q1, r1⟩ := rv
      exact ⟨b, u, gs, e1, fun z => n1 (less_set b z), q1, r1.to fun _ _ => RD.sub less_set⟩
    | row ds =>
      obtain ⟨b, o, xs, e1, n1, dn, q1, r1⟩ := rv
      exact ⟨b, o, xs, e1, fun z => n1 (less_set b z), dn, q1, RDs.sub less_set r1⟩
    | exc k C fs =>
      obtain ⟨b, d, gs, e1, r1⟩ := rv
      exact ⟨b, d, gs, e1, r1.to (fun c _ _ n z => n (less_set c z)) (fun _ _ q _ _ => q) fun _ _ => RD.sub less_set⟩
    | pack its =>
      exact absurd (List.any_eq_true.mpr ⟨some (.pack its), List.mem_of_getElem? (i := j) (by rw [List.getElem?_set_ne hj]; exact q), rfl⟩) hn
    | lock es =>
      obtain ⟨b, u, kvs, e1, n1, q1, r1⟩ := rv
      exact ⟨b, u, kvs, e1, fun z => n1 (less_set b z), q1, r1.sub less_set⟩
    | scr ns =>
      obtain ⟨b, u, e1, n1, q1⟩ := rv
      exact ⟨b, u, e1, fun z => n1 (less_set b z), q1⟩
    | ref k =>
      obtain ⟨b, eb, rfl⟩ := rv
      have hk : n ≠ k := fun z => by
        subst z
        apply hn
        rw [List.any_eq_true]
        refine ⟨some (.ref n), ?_, by simp [isR]⟩
        exact List.mem_of_getElem? (i := j) (by rw [List.getElem?_set_ne hj]; exact q)
      exact ⟨b, by show (M.m.set n none)[k]? = _; rw [List.getElem?_set_ne hk]; exact eb, rfl⟩
end
theorem ds_frz {X : Cx} {sts : List Stmt} {f : SM} (i : Nat) (hd : DSs X sts f) : DSs X sts (sFrz i f) := PSs.weak hd fun D σ H => by
  rintro ⟨M, h, ρ, rep, rs, p⟩
  unfold sFrz at p
  split at p
  · rename_i ρ' h' ef
    unfold frz at ef
    split at ef
    · rename_i n er
      split at ef
      · rename_i o eo
        split at ef
        · cases ef
        · rename_i hn
          cases ef
          obtain ⟨v, ev, a, ea, rfl⟩ := rs.2 i _ er
          obtain ⟨o', ho', ro⟩ := rep.at_ n a ea
          rw [eo] at ho'
          cases ho'
          simp only [Bool.or_eq_true, not_or, Bool.not_eq_true] at hn
          exact ⟨_, _, _, rep.frz ea, rs.frz rep ea er ro (by simpa using hn.1) hn.2, p.mono rfl ext_frz⟩
      · cases ef
    · cases ef
  · exact p.elim
end DL
set_option maxRecDepth 100000
set_option maxHeartbeats 1000000
namespace DL
open PySem PySem.Spec PyProof.Rows L2
section
variable {X : Cx}
theorem pairs_two {pins : List (Addr × Obj)} {σ : L2.St} {H : Hp} {s : Shared} (I : Inv X pins σ H s) : ∀ {ps : List Addr} {kvs : List (Key × V)}, Paired (fun p kv => SqT X.K H p [kV kv.1, kv.2]) ps kvs →
    ∃ (pv : List (Value × Value)) (prs : List (Key × Value)), KV kvs prs ∧ prs.length = ps.length ∧ pv.length = ps.length ∧
      ∀ (j : Nat) (k v : Value), pv[j]? = some (k, v) → ∃ b kk, ps[j]? = some b ∧ IsTup s.heap b #[k, v] ∧ prs[j]? = some (kk, v) ∧ (mixKind X.prog X.w).is kk k = true
  | _, _, .nil => ⟨[], [], .nil, rfl, rfl, fun j k v e => by cases j <;> cases e⟩
  | _, _, .cons (a := p) (b := kv) h t => by
    obtain ⟨pv, prs, r, h1, h2, h3⟩ := pairs_two I t
    obtain ⟨its, rv, ht, _⟩ := I.tuple h
    obtain ⟨u, y, rfl, ru, ry⟩ := vals2 rv
    refine ⟨(u, y) :: pv, (kv.1, y) :: prs, .cons ⟨rfl, ry⟩ r, congrArg (· + 1) h1, congrArg (· + 1) h2, fun j k v e => ?_⟩
    cases j with
    | zero => cases e; exact ⟨p, kv.1, rfl, ht, rfl, kV_is ru⟩
    | succ j => exact h3 j k v e
def rDictT : List V → Hp → VK → Prop := fun xs H Q => ∃ (a : Addr) (o : Obj) (ps : List Addr) (kvs : List (Key × V)), xs = [.ref a] ∧ o.dict = none ∧ H a = some (.frz o (.tup (ps.map V.ref))) ∧ Paired (fun p kv => Rd H p (.tup [kV kv.1, kv.2])) ps kvs ∧
    ∀ p, H p = none → Q (.ref p) (upd H p (.dK (mergeK [] kvs)))
theorem call_dictT (hcalm : X.calm = true) : CallR X (.type "dict") rDictT := by
  intro pins s σ H xs us Q I r q
  obtain ⟨a, o, ps, kvs, rfl, ho, ha, hp, q⟩ := q
  obtain ⟨u, rfl, rx⟩ := vals1 r
  cases rx
  obtain ⟨g1, hz, its, rv, o', g2, hc, n, hd⟩ := (show ObjOk X.prog X.w H s.heap a (.frz o (.tup (ps.map V.ref))) from I.hok a _ ha)
  rw [g1] at g2
  cases g2
  obtain rfl := refs_at rv
  rw [List.length_map] at hz
  obtain ⟨pv, prs, rel, h1, h2, h3⟩ := pairs_two I (Paired.mapP hp fun _ _ z => .inl z)
  have hlen : (ps.map Value.ref).toArray.size = pv.length := by simp [h2]
  have P := PairArg.tuple (prog := X.prog) (w := X.w) a (ps.map Value.ref).toArray (fun j => ps[j]?.getD 0) pv
  apply PySem.call_dict_pairs (knd := mixKind X.prog X.w) (kvs := prs) P (I.ok.hd hcalm) ⟨⟨o, n, g1, hc, ho, hd⟩, hlen, fun j k v e => ?_⟩ ⟨by rw [h1, h2], fun i k v e => ?_⟩ (by rw [h2]; exact hz)
  · intro h' tk hd' k
    have hm : (s.heap.objs.size == sysModules) = false := beq_eq_false_iff_ne.mpr (Nat.ne_of_gt I.big)
    have hk : (mergeK [] kvs).length ≤ sizeLine := by
      apply Nat.le_trans (length_mergeK kvs [])
      rw [List.length_nil, Nat.zero_add, rel.length, h1]
      exact hz
    exact ⟨.ref s.heap.objs.size, _, I.laid (t' := tk) (o := .dK (mergeK [] kvs)) (fun b o e => k b o (fun z => nomatch z) e) (Nat.le_refl _) ⟨hk, hm, merged [] prs, KV.merge rel .nil, hd'⟩, rfl, q _ (I.hok.fresh (Nat.le_refl _))⟩
  · obtain ⟨b, kk, e1, e2, _⟩ := h3 j k v e
    exact ⟨by simp [e1], .inl (by show IsTup s.heap (ps[j]?.getD 0) _; rw [e1]; exact e2)⟩
  · obtain ⟨b, kk, _, _, e3, e4⟩ := h3 i k v e
    exact ⟨kk, e3, e4⟩
def dictA (m : Bool) (ws : List W) (h : Hh) : Option (W × Hh) := match ws with
  | [w] => match deref h w with
    | some (.tuple ds) => if callD ds = true then (match pairsK ds with
      | some qs => mkK m (mergeD [] qs) h
      | none => none) else none
    | _ => dictW m [w] h
  | _ => none
theorem s_dictA (m : Bool) : SemA (fun xs H Q => ((∃ (a : Addr) (ps : List Addr) (kvs : List (Key × V)), xs = [.ref a] ∧ SqL X.K H a (ps.map V.ref) ∧ Paired (fun p kv => SqT X.K H p [kV kv.1, kv.2]) ps kvs ∧
    ∀ p, H p = none → Q (.ref p) (upd H p (.dK (mergeK [] kvs)))) ∨ ∃ (a : Addr) (kvs : List (Key × V)), xs = [.ref a] ∧ Rd H a (.dK kvs) ∧ ∀ p, H p = none → Q (.ref p) (upd H p (.dK kvs))) ∨ rDictT xs H Q) (dictA m) := by
  intro M H h vs ws Q rep rv c
  unfold dictA at c
  split at c
  · obtain ⟨v, rfl, r⟩ := rvs1 rv
    split at c
    · rename_i ds e
      obtain ⟨a, xs, rfl, na, ha, q⟩ := rr_tup (deref_rr rep r e)
      split at c
      · rename_i hc
        split at c
        · rename_i qs e2
          obtain ⟨ps, kvs, rfl, h1, h2⟩ := pairs_ok q e2
          rcases ha with ⟨hn, _⟩ | ⟨_, o, ho, ha⟩
          · rw [hc] at hn; cases hn
          · exact .inr ⟨a, o, ps, kvs, rfl, ho, ha, h1, fun p np => mkK_fin rep np (RDk.merge h2 .nil) c⟩
        · exact c.no.elim
      · exact c.no.elim
    · exact .inl (s_dict m M H h _ _ Q rep rv c)
  · exact c.no.elim
theorem d_dictA (hc : X.calm = true) (m : Bool) (hm : X.mg "dict" = none) {p pos : Pos} {e : Expr} {g : AM} (ha : DA X [e] g) (hg : Gl X "dict" := by rfl) (he : starEach [e] X.env = (false, eval e X.env) :: starEach [] X.env := by rfl) (hpl : (backTo pos (starEach [] X.env)).any (·.1) = false := by rfl) : DE X (.Call (.Name "dict" p) [e] [] pos) (fA (dictA m) g) :=
  d_callT (((call_dictP hc).or call_dictD).or (call_dictT hc)) (s_dictA m) hm bt_dict ha hg (by decide) (by decide) he hpl
end
end DL
set_option maxRecDepth 100000
set_option maxHeartbeats 1000000
namespace DL
open PySem PySem.Spec PyProof.Rows L2
end DL
set_option maxRecDepth 100000
set_option maxHeartbeats 1000000
namespace DL
open PySem PySem.Spec PyProof.Rows L2
end DL
set_option maxRecDepth 100000
set_option maxHeartbeats 1000000
namespace DL
open PySem PySem.Spec PyProof.Rows L2
end DL
set_option maxRecDepth 100000
set_option maxHeartbeats 1000000
namespace DL
open PySem PySem.Spec PyProof.Rows L2
end DL
set_option maxRecDepth 100000
set_option maxHeartbeats 1000000
namespace DL
open PySem PySem.Spec PyProof.Rows L2
section
variable {X : Cx}
theorem rowS_map : ∀ {ds : List D} {l : List Str}, rowS ds = some l → ds = l.map .str
  | [], _, e => by cases e; rfl
  | d :: ds, l, e => by
    unfold rowS at e
    split at e
    · rename_i q; cases q
    · rename_i a ds' q
      cases q
      simp only [Option.map_eq_some_iff] at e
      obtain ⟨l', e1, rfl⟩ := e
      rw [rowS_map e1]; rfl
    · cases e
theorem rowS_strs : ∀ l : List Str, rowS (l.map .str) = some l
  | [] => rfl
  | a :: l => by
    show (rowS (l.map .str)).map (a :: ·) = _
    rw [rowS_strs l]; rfl
theorem rds_strs {M : Mm} {H : Hp} : ∀ {xs : List V} {l : List Str}, RDs M H xs (l.map .str) → xs = l.map V.str
  | _, [], .nil => rfl
  | _, a :: l, .cons r t => by cases r; rw [rds_strs t]; rfl
theorem first_at {l : List Str} {z : Str} (h : z ∈ l) : l[l.idxOf z]? = some z ∧ ∀ m : Nat, m < l.idxOf z → l[m]? ≠ some z := by
  have h1 := List.idxOf_lt_length_of_mem h
  refine ⟨by rw [List.getElem?_eq_getElem h1, List.getElem_idxOf h1], fun m hm e => ?_⟩
  obtain ⟨h2, e2⟩ := List.getElem?_eq_some_iff.mp e
  have := List.not_of_lt_findIdx (p := (· == z)) (xs := l) (i := m) hm
  simp [e2] at this
def tBT (r : V → List V → Hp → VK → Prop) (to : TE) (t : TA) : TE := fun σ H Q => to σ H fun x H1 => (∃ (a : Addr) (o : Obj) (xs : List V), x = .ref a ∧ o.dict = none ∧ H1 a = some (.frz o (.tup xs))) ∧ t σ H1 fun vs H2 => r x vs H2 Q
theorem pe_bt {o e : Expr} {to : TE} {t : TA} {name : Str} {apos cpos : Pos} {id : String} {r : V → List V → Hp → VK → Prop} (slot : Slot "tuple" name id) (hty : typeOf (.builtin id) = pure (.type "method_descriptor")) (hm : MtR X id r) (ho : PE X o to) (ha : PA X [e] t)
    (hb : attributeBase o name X.env (eval o X.env) = eval o X.env := by rfl) (hf : ((backTo cpos (starEach [e] X.env)).all (fun x => !x.1) && (backToKw cpos (keywordEach [] X.env)).all (fun x => x.1.isSome) && decide (([e] : List Expr).length + ([] : List Keyword).length + (if ([] : List Keyword).isEmpty then 0 else 1) < 30)) = true := by rfl)
    (hl : (apos.endLine == cpos.line) = true := by rfl) (hs : starEach [e] X.env = [(false, eval e X.env)] := by rfl) : PE X (.Call (.Attribute o name apos) [e] [] cpos) (tBT r to t) := by
  constructor
  rintro pins s σ H Q I h
  apply wpAny_Call_method_late hb hf hl rfl
  refine thn (ho.run pins s σ H _ I h) fun v s1 ⟨x, H1, I1, r1, ⟨a, ob, xs, ex, od, oa⟩, q1⟩ => ?_
  subst ex
  cases r1
  obtain ⟨g1, _, its, _, o', g2, hc, _⟩ := (show ObjOk X.prog X.w H1 s1.heap a (.frz ob (.tup xs)) from I1.hok a _ oa)
  rw [g1] at g2
  cases g2
  refine ⟨"tuple", id, PySem.F.plainAttrs_tuple, slot, hty, ⟨ob, g1, hc⟩, fun c e => by cases e; exact ⟨ob, g1, od⟩, ?_⟩
  have hA := ha.run cpos pins s1 σ H1 _ I1 q1
  rw [hs] at hA ⊢
  exact Calls.callWith_builtin (by rfl) (Calls.evalArgs_plain (thn hA fun us s2 ⟨vs, H2, I2, r2, q2⟩ => hm pins s2 σ H2 (.ref a) vs _ us Q I2 rfl r2 q2))
def rIxT (K : PySem.W.Frag) : V → List V → Hp → VK → Prop := fun x xs H Q => ∃ p, ∃ ys : List Str, ∃ z j, x = .ref p ∧ xs = [.str z] ∧ SqT K H p (ys.map V.str) ∧ ys[j]? = some z ∧ (∀ m, m < j → ys[m]? ≠ some z) ∧ Q (.int (j : Nat)) H
end
end DL
set_option maxRecDepth 100000
set_option maxHeartbeats 1000000
namespace DL
open PySem PySem.Spec PyProof.Rows L2
section
variable {X : Cx}
def dicAt (h : Hh) (n : Nat) : Option (List (D × D)) := match h[n]? with
  | some (some (.dic es)) => some es
  | _ => none
theorem dicAt_ok {M : Mm} {H : Hp} {h : Hh} {n : Nat} {es : List (D × D)} {a : Addr} (rep : Rep M H h) (e : dicAt h n = some es) (ea : M.m[n]? = some (some a)) : ∃ kvs, H a = some (.dK kvs) ∧ RDk M H kvs es := by
  obtain ⟨o, ho, ro⟩ := rep.at_ n a ea
  unfold dicAt at e
  rw [ho] at e
  cases o with
  | lst _ => cases e
  | dic es' => cases e; exact ro
  | dit _ => cases e
  | tab _ _ => cases e
  | ins _ _ => cases e
theorem rdk_len {M : Mm} {H : Hp} : ∀ {kvs : List (Key × V)} {es : List (D × D)}, RDk M H kvs es → kvs.length = es.length
  | _, _, .nil => rfl
  | _, _, .cons _ t => congrArg (· + 1) (rdk_len t)
def putW (o i w : W) (h : Hh) : Option Hh := match o, i, w with
  | .ref n, .dat k, .dat d => match dicAt h n, dKey k with
    | some es, some k' => if es.length < sizeLine then some (h.set n (some (.dic (putK' es k' d)))) else none
    | _, _ => none
  | _, _, _ => none
def sPut (f o i : EM) : SM := fun ρ h => sbnd (f ρ h) fun w h1 => sbnd (o ρ h1) fun a h2 => sbnd (i ρ h2) fun b h3 => match putW a b w h3 with
  | some h4 => some (.nx ρ, h4)
  | none => none
theorem put_imp {f o i : EM} : ∀ D σ H, tS (sPut f o i) D σ H → tAsg (tE f) (gSub (tE o) (tE i) rSetD) D σ H := fun D σ H => by
  rintro ⟨M, h, ρ, r, rs, p⟩
  obtain ⟨w, h1, e1, p1⟩ := p.bind
  refine ⟨M, h, ρ, r, rs, w, h1, e1, fun M1 H1 v x1 r1 v1 => ?_⟩
  obtain ⟨a, h2, e2, p2⟩ := p1.bind
  refine ⟨M1, h1, ρ, r1, rs.mono x1, a, h2, e2, fun M2 H2 v' x2 r2 v2 => ?_⟩
  obtain ⟨b, h3, e3, p3⟩ := p2.bind
  refine ⟨M2, h2, ρ, r2, (rs.mono x1).mono x2, b, h3, e3, fun M3 H3 v'' x3 r3 v3 => ?_⟩
  have ra := v2.mono x3
  have rw' := (v1.mono x2).mono x3
  unfold putW at p3
  split at p3
  · rename_i h4 e4
    split at e4
    · rename_i n k d
      obtain ⟨ad, ea, rfl⟩ := ra
      split at e4
      · rename_i es k' el ek
        obtain ⟨kvs, hx, q⟩ := dicAt_ok r3 el ea
        split at e4
        · rename_i hz
          cases e4
          have := kP_dKey ek
          subst this
          obtain rfl := rd_kP (show RD M3 H3 v'' (kP k') from v3)
          refine ⟨ad, _, rfl, DPut.k hx (by rw [rdk_len q]; exact hz), ?_⟩
          have x4 := ext_set (H := H3) (o := .dK (putK kvs k' v)) ea
          have xx := ((x1.trans x2).trans x3).trans x4
          exact p3 M3 _ σ xx.same xx.ext (r3.set ea ⟨_, upd_same, (q.put k' rw').mono x4.ext⟩) (rs.mono xx)
        · cases e4
      · cases e4
    · cases e4
  · exact p3.elim
theorem ds_put {k : Nat} (hr : RG k X.A) {o i e : Expr} {pos tpos : Pos} {f fo fi : EM} (he : DE X e f) (ho : DE X o fo) (hi : DE X i fi) (h : X.A.units + 1 < cLine → PS X (.Assign [.Subscript o i tpos] e pos) (tAsg (tE f) (gSub (tE fo) (tE fi) rSetD))) : DS X (.Assign [.Subscript o i tpos] e pos) (sPut f fo fi) :=
  (h (by have := hr.room.un; omega)).weak put_imp
def leT (a b : Str) : Bool := decide (a.cps.toList ≤ b.cps.toList)
theorem leT_trans (a b c : Str) (h1 : leT a b = true) (h2 : leT b c = true) : leT a c = true := by
  unfold leT at *
  simp only [decide_eq_true_eq] at *
  exact List.le_trans h1 h2
theorem leT_total (a b : Str) : (leT a b || leT b a) = true := by
  unfold leT
  simp only [Bool.or_eq_true, decide_eq_true_eq]
  exact List.le_total _ _
theorem leT_anti {a b : Str} (h1 : leT a b = true) (h2 : leT b a = true) : a = b := by
  unfold leT at *
  simp only [decide_eq_true_eq] at *
  have e := List.le_antisymm h1 h2
  obtain ⟨⟨x⟩⟩ := a
  obtain ⟨⟨y⟩⟩ := b
  simp at e
  rw [e]
theorem rds_ofS {M : Mm} {H : Hp} : ∀ l : List Str, RDs M H (l.map V.str) (l.map .str)
  | [] => .nil
  | a :: l => .cons (.str a) (rds_ofS l)
end
end DL
set_option maxRecDepth 100000
set_option maxHeartbeats 4000000
namespace DL
open PySem PySem.Spec PyProof.Rows L2
section
variable {P : Program} {w : World}
structure TxR (P : Program) (w : World) (B : Froz.SD) (l : List Str) : Prop where
  ok : Froz.TxOk P w B l
  ris : Ris B.2.2.place.toList
  led : w.params.followText "set-order" = true ∨ B.2.2.led = true
theorem tail_ris {ep : Nat} {es : Array (Int × Value)} {t : SetTable} {b : Bool} (r : Ris t.place.toList) : Ris (Froz.tailTx ep es t b).2.2.place.toList := by
  unfold Froz.tailTx
  split
  · exact relayAll_ris _ _ _
  · exact r
theorem tail_led {ep : Nat} {es : Array (Int × Value)} {t : SetTable} {b : Bool} : (Froz.tailTx ep es t b).2.2.led = t.led := by
  unfold Froz.tailTx
  split
  · exact relayAll_led _ _ _
  · rfl
theorem TxR.add {B : Froz.SD} {l : List Str} {k : Str} (u : Tok) (F : TxR P w B l) : TxR P w (Froz.addTx (hashStr w k) (.str k u) B) (k :: l) := by
  refine ⟨Froz.add_ok u F.ok, ?_, ?_⟩
  · have r1 := layNew_ris B.2.2 B.1 (hashStr w k) (.str k u) F.ris
    unfold Froz.addTx
    apply tail_ris
    split
    · exact r1
    · exact r1
  · have l1 := layNew_led B.2.2 B.1 (hashStr w k) (.str k u)
    rcases F.led with q | q
    · exact .inl q
    · right
      unfold Froz.addTx
      rw [tail_led]
      split
      · exact l1.trans q
      · exact l1.trans q
def TxAt (P : Program) (w : World) (h : Heap) (a : Addr) (l : List Str) : Prop := ∃ B, h.get? a = some (Froz.sObj "set" B) ∧ TxR P w B l
theorem TxAt.at {h h' : Heap} {a : Addr} {l : List Str} (x : TxAt P w h a l) (k : ∀ o, h.get? a = some o → h'.get? a = some o) : TxAt P w h' a l := by
  obtain ⟨B, e, r⟩ := x
  exact ⟨B, k _ e, r⟩
end
section
variable {P : Program} {w : World} {A : Around} {R : Result → Shared → Prop} {I : Addr} {fp wr : List Addr} {G : Array GenState → Array GenState → Prop} {n : Nat} {Pv : Nat → Value → Prop} {St : Nat → Shared → Prop}
theorem txs_loop (W : WalksS P w A.in1 I fp wr G n Pv St) (a : Addr) (hf : a ∉ fp) (xs : List Str) (nd : xs.Nodup) (hn : xs.length = n) (hb : n + 1 < scanBound) (hv : ∀ i v, Pv i v → ∃ (y : Str) (t : Tok), xs[i]? = some y ∧ v = .str y t) :
    ∀ (k i : Nat) (s : Shared), i + k = n → St i s → TxAt P w s.heap a (xs.take i).reverse → (∀ s', Moved (a :: wr) G s s' → TxAt P w s'.heap a xs.reverse → R (.ok (.ret .none)) s') → codeAny (model P w) A (.builtin "set.update.loop" ⟨[.ref a, .ref I], []⟩) R s
  | 0, i, s, e, st, x, hR => by
    have hi : i = n := by omega
    subst hi
    apply codeAny_builtin PyProof.Rows.F.entry_set_update_loop
    rw [Around.under_plainId PyProof.Rows.F.plain_set_update_loop _]
    show wpAny _ A.in1 (pyNext (.ref I) >>= _) _ _ s
    apply wpAny_bind
    refine W.done s _ _ st fun s1 m => ?_
    show wpAny _ A.in1 (ret Value.none) _ _ s1
    refine wpAny_pure (hR s1 (m.mono fun b hb => List.mem_cons_of_mem _ hb) ?_)
    have x' := x.at fun o q => m.heap a o (fun z => hf (W.sub _ z)) q
    rwa [← hn, List.take_length] at x'
  | k + 1, i, s, e, st, x, hR => by
    apply codeAny_builtin PyProof.Rows.F.entry_set_update_loop
    rw [Around.under_plainId PyProof.Rows.F.plain_set_update_loop _]
    show wpAny _ A.in1 (pyNext (.ref I) >>= _) _ _ s
    apply wpAny_bind
    refine W.item i s _ _ (by omega) st fun v s1 pv st1 m => ?_
    obtain ⟨y, t, ey, rfl⟩ := hv i v pv
    obtain ⟨B, eB, rB⟩ := x.at fun o q => m.heap a o (fun z => hf (W.sub _ z)) q
    show wpAny _ A.in1 (holding [Value.str y t] (setAdd a (.str y t)) >>= _) _ _ s1
    apply wpAny_bind
    apply wpAny_holding
    unfold setAdd
    apply wpAny_holding
    apply wpAny_bind
    refine (PySem.strKind P w).pyHash (k := y) (strKind_is _ _ _ _) ?_
    have hnew : y ∉ (xs.take i).reverse := fun z => by
      have z := List.mem_reverse.mp z
      obtain ⟨j, hj, ej⟩ := List.mem_take_iff_getElem.mp z
      obtain ⟨hi, ei⟩ := List.getElem?_eq_some_iff.mp ey
      have := (List.pairwise_iff_getElem.mp nd) j i (by omega) hi (by omega)
      exact this (by rw [ej, ei])
    refine Froz.add_x (s := { s1 with toks := s1.toks + 1 }) eB rB.ok hnew (by rw [List.length_reverse, List.length_take]; omega) ?_
    have e2 := Froz.get_upd (h := s1.heap) (Froz.sObj "set" (Froz.addTx (hashStr w y) (.str y t) B)) eB rfl
    have oth : ∀ b o, b ≠ a → s1.heap.get? b = some o → (s1.heap.update a (fun _ => Froz.sObj "set" (Froz.addTx (hashStr w y) (.str y t) B))).get? b = some o := fun b o nb q => (Heap.get?_update_other _ _ (Ne.symm nb)).trans q
    refine wpAny_pure ⟨plainId_quiet PyProof.Rows.F.plain_set_update_loop _, txs_loop W a hf xs nd hn hb hv k (i + 1) _ (by omega) (W.frame _ s1 _ _ st1 (Nat.le_succ _) fun b hb o q => oth b o (fun z => hf (z ▸ hb)) q) ⟨_, e2, ?_⟩ fun s2 m2 x2 => ?_⟩
    · rw [List.take_add_one, ey]
      simp only [Option.toList_some, List.reverse_append, List.reverse_cons, List.reverse_nil, List.nil_append, List.singleton_append]
      exact rB.add t
    · exact hR s2 (Moved.trans W.gtrans ((m.mono fun b hb => List.mem_cons_of_mem _ hb).then_heap (Nat.le_succ _) fun b o nb q => oth b o (fun z => nb (by rw [z]; exact List.mem_cons_self)) q) m2) x2
end
section
variable {P : Program} {w : World} {A : Around} {E : Value → Shared → Prop} {s : Shared}
abbrev nSet (w : World) : Obj := { cls := .type "set", dict := none, data := .set #[] 0 (.fresh 0 0 (!w.params.followText "set-order")) }
theorem nSet_txs {h : Heap} {a : Addr} (e : h.get? a = some (nSet w)) : TxAt P w h a [] := by
  refine ⟨(#[], 0, .fresh 0 0 (!w.params.followText "set-order")), e, Froz.TxOk.nil rfl, List.Pairwise.nil, ?_⟩
  show _ ∨ (!w.params.followText "set-order") = true
  cases w.params.followText "set-order" with
  | false => exact .inr rfl
  | true => exact .inl rfl
set_option maxHeartbeats 3200000 in
theorem call_set_txs {l : Addr} {its : Array Value} {xs : List Str} {Q : Value → Shared → Prop} (hh : A.handled = none) (hl : s.heap.IsList l its) (hi : StrsAre its.toList xs) (nd : xs.Nodup) (hb : xs.length + 1 < scanBound)
    (h : ∀ h' tk, TxAt P w h' s.heap.objs.size xs.reverse → (∀ b o, s.heap.get? b = some o → h'.get? b = some o) → Q (.ref s.heap.objs.size) { s with heap := h', toks := tk }) : wpAny (model P w) A (call (.type "set") [.ref l]) Q E s := by
  obtain ⟨c0, c1, k1⟩ := F.called_set.mro
  have k2 := F.called_set.made
  have k3 := F.called_set.sub
  apply wpAny_call
  apply codeAny_of_tree
  show wpAny _ _ (callAny (.type "set") _) _ _ _
  refine wpAny_pure ⟨Code.quiet_builtin _ (by decide +kernel), ?_⟩
  apply codeAny_builtin F.entry_type_call
  rw [Around.under_plain (weight_type_call_type "set" [.ref l] []) rfl]
  have k4 := F.called_set.notType
  have k5 := F.called_set.canCreate
  have k6 := F.typeCall_set_1 (.ref l)
  repeat (any_goals (first | assumption | wp_step))
  refine codeAny_mono (code_set_led1 (.ref l) (E := E) (Q₁ := fun o s1 => o = .ref s.heap.objs.size ∧ s1 = { s with heap := s.heap.push (nSet w) }) ⟨rfl, rfl⟩) fun q s1 hq => ?_
  cases q with
  | error _ => exact hq
  | ok f =>
    cases f with
    | ret o =>
      obtain ⟨rfl, rfl⟩ := hq
      have at1 : (s.heap.push (nSet w)).get? s.heap.objs.size = some (nSet w) := Heap.get?_push_size _ rfl
      have ty1 : Shared.TypeIs { s with heap := s.heap.push (nSet w) } (.ref s.heap.objs.size) "set" := ⟨_, at1, rfl⟩
      have k7 := F.called_set.init.lookup
      have k8 := F.called_set.init.bind (.ref s.heap.objs.size)
      repeat (any_goals (first | assumption | wp_step))
      refine codeAny_mono (codeAny_call_builtin (R := wants (fun z s2 => z = .none ∧ ∃ h' tk, s2 = { s with heap := h', toks := tk } ∧ TxAt P w h' s.heap.objs.size xs.reverse ∧ ∀ b o, s.heap.get? b = some o → h'.get? b = some o) E) F.called_set.init.plain F.entry_set_init (check_set_init_1 ty1 ?_)) fun q2 s2 hq2 => ?_
      · obtain ⟨⟨oc, od, odt, os⟩, ho, hoc, m, hod⟩ := hl
        simp only at hoc hod
        subst hoc
        subst hod
        have ho' : (s.heap.push (nSet w)).get? l = some { cls := .type "list", dict := od, data := .seq its m, slots := os } := Heap.get?_push_of_some _ ho
        have f1 := F.sub_list_set
        have f2 := F.sub_list_frozenset
        have f3 : (Value.type "list" == Value.type "dict") = false := by decide
        have hl' : (s.heap.push (nSet w)).IsList l its := ⟨_, ho', rfl, m, rfl⟩
        unfold Builtin.«set.__init__» noKeywords Builtin.Frozenset.updateFrom
        generalize eI : pyIter = pI
        wp_walk
        subst eI
        apply wpAny_pyIter_list hl'
        apply wpAny_bind
        apply wpAny_runValue
        have lt : l < s.heap.objs.size := Heap.lt_size ho
        have zs : (s.heap.push (nSet w)).objs.size = s.heap.objs.size + 1 := Heap.size_push ..
        have n1 : l ≠ (s.heap.push (nSet w)).objs.size := by rw [zs]; exact Nat.ne_of_lt (Nat.lt_succ_of_lt lt)
        have n2 : s.heap.objs.size ∉ [(s.heap.push (nSet w)).objs.size, l] := by
          rw [zs]
          simp only [List.mem_cons, List.not_mem_nil, or_false, not_or]
          exact ⟨Nat.ne_of_lt (Nat.lt_succ_self _), Nat.ne_of_gt lt⟩
        have len : xs.length = its.size := by rw [← StrsAre.len_eq hi, Array.length_toList]
        have val : ∀ (i : Nat) (v : Value), its[i]? = some v → ∃ (y : Str) (t : Tok), xs[i]? = some y ∧ v = .str y t := fun i v hv => by
          have hv' : its.toList[i]? = some v := by rw [Array.getElem?_toList]; exact hv
          obtain ⟨t, e⟩ := SS.strs_at hi i v hv'
          have hlt : i < xs.length := by have := (List.getElem?_eq_some_iff.mp hv').1; rw [Array.length_toList] at this; omega
          exact ⟨xs[i], t, List.getElem?_eq_getElem hlt, by rw [e, List.getD_eq_getElem?_getD, List.getElem?_eq_getElem hlt]; rfl⟩
        refine txs_loop ((Walks.list (by simp [hh]) _ l n1 its).toS) s.heap.objs.size n2 xs nd len (by rw [← len]; exact hb) val its.size 0 _ (by omega) ⟨⟨_, Heap.get?_push_size _ rfl, rfl, rfl⟩, hl'.push _⟩ ?_ ?_
        · rw [List.take_zero, List.reverse_nil]
          exact nSet_txs (Heap.get?_push_of_some _ at1)
        · intro s3 mv x3
          obtain ⟨h3, g3, d3, t3, o3⟩ := s3
          have q1 : g3 = s.gens := mv.gens
          have q2 : d3 = s.drawn := mv.drawn
          have q3 : o3 = s.os := mv.os
          subst q1
          subst q2
          subst q3
          show wpAny _ _ _ _ _ _
          apply wpAny_pure
          show wpAny _ _ (ret Value.none) _ _ _
          refine wpAny_pure ⟨rfl, h3, t3, rfl, x3, fun b o e => mv.heap b o (fun z => ?_) (Heap.get?_push_of_some _ (Heap.get?_push_of_some _ e))⟩
          have lb := Heap.lt_size e
          simp only [List.mem_cons, List.not_mem_nil, or_false, zs] at z
          rcases z with z | z
          · exact absurd lb (by rw [z]; exact Nat.lt_irrefl _)
          · exact absurd lb (by rw [z]; exact Nat.not_lt_of_le (Nat.le_succ _))
      · cases q2 with
        | error _ => exact hq2
        | ok f2 =>
          cases f2 with
          | ret z =>
            obtain ⟨rfl, h', tk, rfl, x', k'⟩ := hq2
            repeat (any_goals (first | assumption | wp_step))
            exact h _ _ x' k'
          | _ => exact hq2.elim
    | _ => exact hq.elim
end
end DL
set_option maxRecDepth 100000
set_option maxHeartbeats 1000000
namespace DL
open PySem PySem.Spec PyProof.Rows L2
section
variable {P : Program} {w : World} {A : Around} {E : Value → Shared → Prop} {s : Shared}
abbrev IsTx (v : Value) (k : Str) : Prop := ∃ t, v = .str k t
def txV : Value → Str
  | .str k _ => k
  | _ => Str.empty
theorem each_tx : ∀ {vs : List Value}, (∀ v ∈ vs, ∃ k, IsTx v k) → PySem.W.EachIs IsTx vs (vs.map txV)
  | [], _ => .nil
  | v :: vs, h => by
    obtain ⟨k, t, rfl⟩ := h v List.mem_cons_self
    exact .cons ⟨t, rfl⟩ (each_tx fun u hu => h u (List.mem_cons_of_mem _ hu))
theorem vals_tx : ∀ {vs : List Value} {l : List Str}, PySem.W.EachIs IsTx vs l → Vals (l.map V.str) vs
  | _, _, .nil => .nil
  | _, _, .cons a t => .cons a (vals_tx t)
theorem perm_cover : ∀ {l m : List Str}, l.Nodup → l.length = m.length → (∀ k ∈ l, k ∈ m) → l.Perm m
  | [], m, _, e, _ => by
    have : m = [] := List.length_eq_zero_iff.mp e.symm
    rw [this]
  | a :: l, m, nd, e, h => by
    have pe := List.perm_cons_erase (h a List.mem_cons_self)
    have hl := pe.length_eq
    rw [List.length_cons] at hl e
    obtain ⟨n1, n2⟩ := List.nodup_cons.mp nd
    have ih := perm_cover (l := l) (m := m.erase a) n2 (by omega) fun k hk => by
      have ne : k ≠ a := fun z => by subst z; exact n1 hk
      exact (List.mem_erase_of_ne ne).mpr (h k (List.mem_cons_of_mem _ hk))
    exact (List.Perm.cons a ih).trans pe.symm
theorem leT_data : PySem.W.dataLe false (fun k : Str => (PyData.str k)) = leT := PySem.W.dataLe_str fun k => k
theorem sorted_txs {a : Addr} {l : List Str} {Q : Value → Shared → Prop} (x : TxAt P w s.heap a l) (nd : l.Nodup) (hb : l.length < scanBound) (hz : l.length ≤ sizeLine) (hh : A.handled = none) (hu : A.units + 2 < cLine)
    (hQ : ∀ s' p out c, (∀ b o, s.heap.get? b = some o → s'.heap.get? b = some o) → s'.gens = s.gens → s'.os = s.os → s.heap.objs.size ≤ p → s'.heap.get? p = some (seqObj "list" (List.toArray out) c) → Vals ((l.mergeSort leT).map V.str) out → Q (.ref p) s') :
    wpAny (model P w) A (call (.builtin "sorted") [.ref a]) Q E s := by
  obtain ⟨⟨es, ep, t⟩, ho, F, ris, led⟩ := x
  have fz : es.size = l.length := F.sz
  refine call_function_entry_kw kind_sorted plain_sorted entry_sorted (args_sorted1 _) ?_
  unfold Builtin.«sorted»
  refine wpAny_bind (m := checkCount "sorted" 1 1 _) (wpAny_pure (wpAny_bind (collect_set (A := A.in1) hh ⟨_, ho, rfl, rfl⟩ F.fit (by rw [fz]; exact hb) ris led fun s1 vs k1 hs g1 o1 pm => ?_)))
  have el : ∀ v ∈ vs, ∃ k, IsTx v k := fun v hv => by
    obtain ⟨e, he, rfl⟩ := List.mem_map.mp (pm.mem_iff.mp hv)
    obtain ⟨⟨k, hk, _⟩, _⟩ := F.el e he
    exact ⟨k, Value.isStrOf_shape hk⟩
  have vl : vs.length = l.length := by rw [pm.length_eq, List.length_map, Array.length_toList]; exact fz
  have pl : l.Perm (vs.map txV) := perm_cover nd (by rw [List.length_map, vl]) fun k hk => by
    obtain ⟨e, he, q⟩ := (F.mem k).mp hk
    obtain ⟨u, eu⟩ := Value.isStrOf_shape q
    refine List.mem_map.mpr ⟨e.2, pm.mem_iff.mpr (List.mem_map.mpr ⟨e, he, rfl⟩), ?_⟩
    rw [eu]; rfl
  have ev := each_tx el
  have hv : vs.length ≤ sizeLine := by rw [vl]; exact hz
  apply wpAny_bind
  refine wpAny_newList ?_ hv
  have at_ : (s1.heap.push (seqObj "list" vs.toArray 0)).get? s1.heap.objs.size = some (seqObj "list" vs.toArray 0) := Heap.get?_push_size _ rfl
  have er' : PySem.W.EachIs (fun v b => ∃ as, Reads (PySem.W.sortingHeap (s1.heap.push (seqObj "list" vs.toArray 0)) s1.heap.objs.size vs) v (PyData.str b) as) vs (vs.map txV) := ev.mono fun v b ⟨u, e⟩ => by
    subst e
    exact ⟨[], .str b u⟩
  have hal : PySem.W.AllAlike ((vs.map txV).map PyData.str) := fun d hd e he => by
    obtain ⟨x, _, rfl⟩ := List.mem_map.mp hd
    obtain ⟨y, _, rfl⟩ := List.mem_map.mp he
    rfl
  have hk : PySem.W.Sortable ((vs.map txV).map PyData.str) := .inr fun d hd => by
    obtain ⟨x, _, rfl⟩ := List.mem_map.mp hd
    exact ⟨fun z => (by cases z), fun xs z => (by cases z)⟩
  refine wpAny_bind (wpAny_holding (wpAny_call_entry_kw slot_list_sort ⟨_, at_, rfl⟩ entry_list_sort ?_ (args_list_sort _)))
  refine PySem.W.list_sort_vals (s := { s1 with heap := s1.heap.push (seqObj "list" vs.toArray 0) }) at_ (PySem.W.SortsAt.data (s := { s1 with heap := PySem.W.sortingHeap (s1.heap.push (seqObj "list" vs.toArray 0)) s1.heap.objs.size vs }) (PySem.W.each_map (R := fun v d => ∃ as, Reads (PySem.W.sortingHeap (s1.heap.push (seqObj "list" vs.toArray 0)) s1.heap.objs.size vs) v d as) PyData.str er') hal hk (PySem.W.bound_map (A := A.in1.in1) fun b _ => ?_)) hv ?_
  · have e : PyData.depth (.str b) = 0 := rfl
    rw [e]
    exact hu
  · refine ⟨_, rfl, wpAny_pure ⟨_, rfl, ?_⟩⟩
    obtain ⟨c, hc⟩ := sortedHeap_at (vs := vs) (out := (PySem.W.sortVals (PySem.W.dataKind (PySem.W.sortingHeap (s1.heap.push (seqObj "list" vs.toArray 0)) s1.heap.objs.size vs) ((vs.map txV).map PyData.str)) false vs vs).toArray) at_
    have eo := PySem.W.sortVals_data false ev er' hal
    rw [leT_data] at eo
    have es' : (vs.map txV).mergeSort leT = l.mergeSort leT := List.Perm.eq_of_pairwise (fun x y _ _ h1 h2 => leT_anti h1 h2) (List.pairwise_mergeSort leT_trans leT_total _) (List.pairwise_mergeSort leT_trans leT_total _) ((List.mergeSort_perm _ _).trans (pl.symm.trans (List.mergeSort_perm _ _).symm))
    rw [es'] at eo
    refine hQ _ _ _ c (fun b o q => ?_) g1 o1 hs hc (vals_tx eo)
    have q1 := k1 b o q
    have lb := Heap.lt_size q1
    show (sortedHeap _ _ _ _).get? b = some o
    rw [sortedHeap_old (Nat.ne_of_lt lb) (by rw [size_push']; exact Nat.lt_succ_of_lt lb)]
    exact Heap.get?_push_of_some _ q1
end
section
variable {X : Cx}
def SetX (P : Program) (w : World) (a : Addr) (l : List Str) : HO := .ext fun h => TxAt P w h a l
theorem setX_new {P : Program} {w : World} {H : Hp} {h : Heap} {a : Addr} {l : List Str} (x : TxAt P w h a l) : ObjOk P w H h a (SetX P w a l) := by
  have ⟨B, e, _⟩ := x
  exact ⟨x, ⟨_, e⟩, fun h1 h2 p k => TxAt.at p k⟩
def rSetX (K : PySem.W.Frag) (P : Program) (w : World) : List V → Hp → VK → Prop := fun xs H Q => ∃ (a : Addr) (l : List Str), xs = [.ref a] ∧ SqL K H a (l.map V.str) ∧ l.Nodup ∧ l.length + 1 < scanBound ∧ ∀ p, H p = none → Q (.ref p) (upd H p (SetX P w p l.reverse))
theorem cr_setX (hc : X.calm = true) : CallR X (.type "set") (rSetX X.K X.prog X.w) := by
  rintro pins s σ H xs us Q I r ⟨a, l, rfl, hl, nd, hb, q⟩
  rw [Vals.ref1 r]
  obtain ⟨its, rv, pl, hz⟩ := I.list hl
  refine call_set_txs (P := X.prog) (w := X.w) (its := its.toArray) (xs := l) (I.ok.hd hc) pl.isList rv.strs nd hb fun h' tk x k => ?_
  exact ⟨.ref s.heap.objs.size, _, I.laid (t' := tk) (o := SetX X.prog X.w s.heap.objs.size l.reverse) k (Nat.le_refl _) (setX_new x), rfl, q _ (I.hok.fresh (Nat.le_refl _))⟩
def rSortX (P : Program) (w : World) : List V → Hp → VK → Prop := fun xs H Q => ∃ (a : Addr) (l : List Str), xs = [.ref a] ∧ H a = some (SetX P w a l) ∧ l.Nodup ∧ l.length < scanBound ∧ l.length ≤ sizeLine ∧ ∀ p, H p = none → Q (.ref p) (upd H p (.lst ((l.mergeSort leT).map V.str)))
theorem cr_sortX {k : Nat} (hr : Room k X.A) (hc : X.calm = true) : CallR X (.builtin "sorted") (rSortX X.prog X.w) := by
  rintro pins s σ H xs us Q I r ⟨a, l, rfl, ha, nd, hb, hz, q⟩
  rw [Vals.ref1 r]
  have x : TxAt X.prog X.w s.heap a l := (I.hok a _ ha).1
  refine sorted_txs x nd hb hz (I.ok.hd hc) (by have := hr.un; omega) fun s' p out c k g o hp hg hv => ?_
  have hlen : ((l.mergeSort leT).map V.str).length ≤ sizeLine := by rw [List.length_map, List.length_mergeSort]; exact hz
  have hn : H p = none := I.hok.fresh hp
  have J : Inv X pins σ (upd H p (.lst ((l.mergeSort leT).map V.str))) { s with heap := s'.heap, gens := s'.gens, drawn := s'.drawn, toks := s'.toks } :=
    I.call (ch := []) (Un.laid k hp hn) (I.hok.laid k hp ⟨hlen, out, c, hv, hg⟩) (by rw [g]; exact I.bare) (fun _ z => nomatch z)
  have e : s' = { s with heap := s'.heap, gens := s'.gens, drawn := s'.drawn, toks := s'.toks } := by
    cases s'
    cases s
    cases o
    rfl
  rw [e]
  exact ⟨.ref p, _, J, rfl, q p hn⟩
noncomputable def sortSW (m : Bool) (ws : List W) (h : Hh) : Option (W × Hh) := match ws with
  | [w] => match deref h w with
    | some (.list ds) => match rowS ds with
      | some l => if (decide l.Nodup && decide (l.length < 1000)) = true then mkL m ((l.mergeSort leT).map .str) h else none
      | none => none
    | _ => none
  | _ => none
theorem sort_rev (l : List Str) : l.reverse.mergeSort leT = l.mergeSort leT :=
  List.Perm.eq_of_pairwise (fun x y _ _ h1 h2 => leT_anti h1 h2) (List.pairwise_mergeSort leT_trans leT_total _) (List.pairwise_mergeSort leT_trans leT_total _) ((List.mergeSort_perm _ _).trans ((List.reverse_perm l).trans (List.mergeSort_perm _ _).symm))
theorem d_sortS {k : Nat} (hr : RG k X.A) (hc : X.calm = true) (m : Bool) (hm : X.mg "sorted" = none) (hm2 : X.mg "set" = none) {e : Expr} {p p2 q pos : Pos} {g : AM} (ha : DA X [e] g) (hg : Gl X "sorted" := by rfl) (hg2 : Gl X "set" := by rfl)
    (he : starEach [.Call (.Name "set" p2) [e] [] q] X.env = (false, eval (.Call (.Name "set" p2) [e] [] q) X.env) :: starEach [] X.env := by rfl) (hpl : (backTo pos (starEach [] X.env)).any (·.1) = false := by rfl) (he2 : starEach [e] X.env = (false, eval e X.env) :: starEach [] X.env := by rfl) (hpl2 : (backTo q (starEach [] X.env)).any (·.1) = false := by rfl) :
    DE X (.Call (.Name "sorted" p) [.Call (.Name "set" p2) [e] [] q] [] pos) (fA (sortSW m) g) :=
  (pe_callB (cr_sortX hr.room hc) hg hm (by decide +kernel) (pa_cons (pe_callTy (cr_setX hc) hg2 hm2 (by decide +kernel) ha (by decide) (by decide) he2 hpl2) pa_nil) (by decide) (by decide) he hpl).weak fun σ H Q => by
    rintro ⟨M, h, ρ, r, rs, c⟩
    obtain ⟨w, h1, e1, c1⟩ := Cont.bind (δ := Unit) c
    refine ⟨M, h, ρ, r, rs, w, h1, e1, fun M1 H1 v x1 r1 v1 => ?_⟩
    have c2 := c1 M1 H1 x1
    unfold sortSW at c2
    split at c2
    · obtain ⟨v, rfl, rv⟩ := rvs1 v1
      split at c2
      · rename_i ds ed
        obtain ⟨a, xs, rfl, ha, qa⟩ := deref_rr r1 rv ed
        split at c2
        · rename_i l el
          split at c2
          · rename_i hz
            rw [Bool.and_eq_true, decide_eq_true_eq, decide_eq_true_eq] at hz
            have := rowS_map el
            subst this
            have := rds_strs qa
            subst this
            have sb : l.length + 1 < scanBound := by have : scanBound = 4096 := rfl; omega
            refine ⟨a, l, rfl, .of ha, hz.1, sb, fun p np => ?_⟩
            refine ⟨p, l.reverse, rfl, upd_same, (List.reverse_perm l).nodup_iff.mpr hz.1, by rw [List.length_reverse]; omega, by rw [List.length_reverse, sizeLine_eq]; omega, fun p' np' => ?_⟩
            rw [sort_rev]
            have x2 := ext_new (M := M1) (o := SetX X.prog X.w p l.reverse) np
            have c3 : Cont RV (mkL m ((l.mergeSort leT).map .str) h1) M1 (upd H1 p (SetX X.prog X.w p l.reverse)) Q := by
              obtain ⟨w', h', ee, kk⟩ := c2
              exact ⟨w', h', ee, fun M' H' v' xx => kk M' H' v' (x2.trans xx)⟩
            exact mkL_fin (r1.upd_new np) np' (rds_ofS _) c3
          · exact c2.no.elim
        · exact c2.no.elim
      · exact c2.no.elim
    · exact c2.no.elim
def isS : W → Bool
  | .dat (.str _) => true
  | _ => false
def joinW (x y : W) (h : Hh) : Option (W × Hh) := match x, deref h y with
  | .dat (.str a), some (.list ds) => match rowS ds with
    | some l => if (l.map (·.length)).sum + l.length * a.length ≤ 16777216 then ok (.str (Txt.join a l)) h else none
    | none => none
  | _, _ => none
def fJoin (fo fe : EM) : EM := fun ρ h => obnd (fo ρ h) fun x h1 => if isS x = true then obnd (fe ρ h1) fun y h2 => joinW x y h2 else none
theorem d_join {o e : Expr} {apos pos : Pos} {fo fe : EM} (ho : DE X o fo) (he : DE X e fe) (hs : starEach [e] X.env = [(false, eval e X.env)] := by rfl) (hb : attributeBase o "join" X.env (eval o X.env) = eval o X.env := by rfl) (hl : (apos.endLine == pos.line) = true := by rfl) :
    DE X (.Call (.Attribute o "join" apos) [e] [] pos) (fJoin fo fe) := (pe_join ho he hs hb hl).weak fun σ H Q => by
  rintro ⟨M, h, ρ, r, rs, c⟩
  obtain ⟨w, h1, e1, c1⟩ := Cont.bind (δ := Unit) c
  refine ⟨M, h, ρ, r, rs, w, h1, e1, fun M1 H1 v x1 r1 v1 => ?_⟩
  have c2 := c1 M1 H1 x1
  split at c2
  · rename_i ht
    have hw : ∃ a, w = .dat (.str a) := by
      unfold isS at ht
      split at ht
      · exact ⟨_, rfl⟩
      · cases ht
    obtain ⟨a, rfl⟩ := hw
    cases (show RD M1 H1 v (.str a) from v1)
    refine ⟨⟨a, rfl⟩, M1, h1, ρ, r1, rs.mono x1, ?_⟩
    obtain ⟨w2, h2, e2, c3⟩ := Cont.bind (δ := Unit) c2
    refine ⟨w2, h2, e2, fun M2 H2 v2 x2 r2 q2 => ?_⟩
    have c4 := c3 M2 H2 x2
    unfold joinW at c4
    split at c4
    · rename_i a' ds ea ed
      cases ea
      obtain ⟨p, xs, rfl, hp, qp⟩ := deref_rr r2 q2 ed
      split at c4
      · rename_i l el
        split at c4
        · rename_i hz
          have := rowS_map el
          subst this
          have := rds_strs qp
          subst this
          exact ⟨a, p, l, rfl, rfl, .inl (.of hp), hz, c4.here r2 (.str _)⟩
        · exact c4.no.elim
      · exact c4.no.elim
    · exact c4.no.elim
  · exact c2.no.elim
end
end DL
set_option maxRecDepth 100000
set_option maxHeartbeats 1000000
namespace DL
open PySem PySem.Spec PyProof.Rows L2
end DL
set_option maxRecDepth 100000
set_option maxHeartbeats 1000000
namespace DL
open PySem PySem.Spec PyProof.Rows L2
end DL
set_option maxRecDepth 100000
set_option maxHeartbeats 4000000
namespace DL
open PySem PySem.Spec PyProof.Rows L2
section
variable {X : Cx}
def gAdd (i j : Int) : Option Int := some (i + j)
def gSub (i j : Int) : Option Int := some (i - j)
def gMul (i j : Int) : Option Int := if ((-18446744073709551616 < i && i < 18446744073709551616) || (-18446744073709551616 < j && j < 18446744073709551616)) = true then some (i * j) else none
def ipG (g : Int → Int → Option Int) : TIp := fun x y H Q => ∃ i j k, x = .int i ∧ y = .int j ∧ g i j = some k ∧ Q (.int k) H
theorem ip_gAdd : PIp X .Add (ipG gAdd) := by
  rintro pins s σ H x y v u Q I r1 r2 ⟨i, j, k, rfl, rfl, e, q⟩
  cases e
  exact ip_add pins s σ H _ _ v u Q I r1 r2 ⟨i, j, rfl, rfl, q⟩
theorem ip_gSub : PIp X .Sub (ipG gSub) := by
  rintro pins s σ H x y v u Q I r1 r2 ⟨i, j, k, rfl, rfl, e, q⟩
  cases e
  exact ip_sub pins s σ H _ _ v u Q I r1 r2 ⟨i, j, rfl, rfl, q⟩
def sAug (g : Int → Int → Option Int) (i : Nat) (f : EM) : SM := fun ρ h => match ρ[i]? with
  | some (some (.dat (.int a))) => sbnd (f ρ h) fun w h1 => match w with
    | .dat (.int b) => match g a b with
      | some c => some (.nx (ρ.set i (some (.dat (.int c)))), h1)
      | none => none
    | _ => none
  | _ => none
theorem ds_aug {g : Int → Int → Option Int} {i : Nat} {x : Str} {e : Expr} {op : Operator} {pos pos' : Pos} {f : EM} (h : PS X (.AugAssign (.Name x pos') op e pos) (tAug i (tE f) (ipG g))) : DS X (.AugAssign (.Name x pos') op e pos) (sAug g i f) := h.weak fun D σ H => by
  rintro ⟨M, h, ρ, r, rs, p⟩
  unfold sAug at p
  split at p
  · rename_i a ea
    obtain ⟨v, ev, rv⟩ := rs.2 i _ ea
    cases (show RD M H v (.int a) from rv)
    refine ⟨_, ev, ?_⟩
    obtain ⟨w, h1, e1, p1⟩ := p.bind
    refine ⟨M, h, ρ, r, rs, w, h1, e1, fun M1 H1 v x1 r1 v1 => ?_⟩
    split at p1
    · rename_i b
      split at p1
      · rename_i c ec
        cases (show RD M1 H1 v (.int b) from v1)
        exact ⟨a, b, c, rfl, rfl, ec, p1 M1 H1 _ x1.same x1.ext r1 ((rs.mono x1).set (.int c))⟩
      · exact p1.elim
    · exact p1.elim
  · exact p.elim
end
end DL
set_option maxRecDepth 100000
set_option maxHeartbeats 1000000
namespace DL
open PySem PySem.Spec PyProof.Rows L2
section
variable {X : Cx}
def mnI (ns : List Int) : Int := match ns with
  | [] => 0
  | n :: ns => ns.foldl min n
theorem fold_min : ∀ (ns : List Int) (n : Int), (ns.foldl min n = n ∨ ns.foldl min n ∈ ns) ∧ ns.foldl min n ≤ n ∧ ∀ y ∈ ns, ns.foldl min n ≤ y
  | [], n => ⟨.inl rfl, Int.le_refl _, fun y h => by cases h⟩
  | a :: ns, n => by
    obtain ⟨h1, h2, h3⟩ := fold_min ns (min n a)
    rw [List.foldl_cons]
    refine ⟨?_, by omega, fun y hy => ?_⟩
    · rcases h1 with h1 | h1
      · rw [h1]
        rcases Int.le_total n a with c | c
        · left; exact Int.min_eq_left c
        · right; rw [Int.min_eq_right c]; exact List.mem_cons_self
      · exact .inr (List.mem_cons_of_mem _ h1)
    · rcases List.mem_cons.mp hy with rfl | hy
      · omega
      · exact h3 y hy
theorem mn_spec {ns : List Int} (h : 0 < ns.length) {m : Int} (hm : m ∈ ns) (hl : ∀ y ∈ ns, m ≤ y) : m = mnI ns := by
  cases ns with
  | nil => cases hm
  | cons n ns =>
    obtain ⟨h1, h2, h3⟩ := fold_min ns n
    have hmem : ns.foldl min n ∈ n :: ns := h1.elim (fun e => by rw [e]; exact List.mem_cons_self) fun e => List.mem_cons_of_mem _ e
    have a1 := hl _ hmem
    have a2 : ns.foldl min n ≤ m := (List.mem_cons.mp hm).elim (fun e => e ▸ h2) fun e => h3 m e
    show m = ns.foldl min n
    omega
def mxW (g : List Int → Int) (ws : List W) (h : Hh) : Option (W × Hh) := match ws with
  | [w] => match deref h w with
    | some (.list ds) => match intsD ds with
      | some ns => if 0 < ns.length then ok (.int (g ns)) h else none
      | none => none
    | _ => none
  | _ => none
theorem s_minL : SemA (rMin X.K) (mxW mnI) := by
  intro M H h vs ws Q rep rv c
  unfold mxW at c
  split at c
  · obtain ⟨v, rfl, r⟩ := rvs1 rv
    split at c
    · rename_i ds e
      obtain ⟨a, xs, rfl, ha, q⟩ := deref_rr rep r e
      split at c
      · rename_i ns e2
        split at c
        · rename_i hz
          have e3 := rds_ints q e2
          subst e3
          exact ⟨a, ns, rfl, .of ha, hz, fun m hm hl => by rw [mn_spec hz hm hl]; exact c.here rep (.int _)⟩
        · exact c.no.elim
      · exact c.no.elim
    · exact c.no.elim
  · exact c.no.elim
theorem d_minL {e : Expr} {p pos : Pos} {g : AM} (hc : X.calm = true) (hm : X.mg "min" = none) (ha : DA X [e] g) (hg : Gl X "min" := by rfl) (he : starEach [e] X.env = (false, eval e X.env) :: starEach [] X.env := by rfl) (hpl : (backTo pos (starEach [] X.env)).any (·.1) = false := by rfl) : DE X (.Call (.Name "min" p) [e] [] pos) (fA (mxW mnI) g) :=
  d_callB (cr_min hc) s_minL hm (by decide +kernel) ha hg (by decide) (by decide) he hpl
end
end DL
set_option maxRecDepth 100000
set_option maxHeartbeats 400000
namespace DL
open PySem PySem.Spec PyProof.Rows L2
mutual
def noL : D → Bool
  | .tuple ds => noLs ds
  | .list _ => false
  | .dict _ => false
  | _ => true
def noLs : List D → Bool
  | [] => true
  | d :: ds => noL d && noLs ds
end
def okM : Option MO → Bool
  | some (.lst ds) => noLs ds
  | some (.tab _ _) => true
  | none => true
  | _ => false
def killG {α : Type} (ns : List Nat) (l : List (Option α)) : List (Option α) := ns.foldl (fun l n => l.set n none) l
theorem killG_len {α : Type} : ∀ (ns : List Nat) (l : List (Option α)), (killG ns l).length = l.length
  | [], l => rfl
  | n :: ns, l => by show (killG ns (l.set n none)).length = _; rw [killG_len ns]; simp
theorem killG_get {α : Type} : ∀ (ns : List Nat) (l : List (Option α)) (i : Nat), i < l.length → (killG ns l)[i]? = if i ∈ ns then some none else l[i]?
  | [], l, i, h => by simp [killG]
  | n :: ns, l, i, h => by
    show (killG ns (l.set n none))[i]? = _
    rw [killG_get ns _ i (by simpa using h)]
    by_cases hi : i ∈ ns
    · simp [hi]
    · by_cases hn : n = i
      · subst hn; simp [hi, List.getElem?_set_self h]
      · simp [hi, Ne.symm hn, List.getElem?_set_ne hn]
def openP (h : Hh) : List (Sum Nat D) → Option (List D × List Nat)
  | [] => some ([], [])
  | .inr d :: its => match openP h its with
    | some (ds, ns) => some (d :: ds, ns)
    | none => none
  | .inl n :: its => match h[n]?, openP h its with
    | some (some (.lst l)), some (ds, ns) => some (.list l :: ds, n :: ns)
    | _, _ => none
section
variable {M : Mm} {H : Hp} {h : Hh}
theorem killM_has {ns : List Nat} : ∀ b, Mm.Has ⟨M.u, killG ns M.m⟩ b → M.Has b := fun b z => by
  rcases z with z | z
  · exact .inl z
  · obtain ⟨i, hi, q⟩ := List.getElem_of_mem z
    have hi' : i < M.m.length := by simpa [killG_len] using hi
    have q' : (killG ns M.m)[i]? = some (some b) := by rw [List.getElem?_eq_getElem hi]; exact congrArg some q
    rw [killG_get ns M.m i hi'] at q'
    split at q'
    · cases q'
    · exact .inr (List.mem_of_getElem? q')
theorem killM_get {ns : List Nat} {i : Nat} {a : Addr} (q : (killG ns M.m)[i]? = some (some a)) : i ∉ ns ∧ M.m[i]? = some (some a) := by
  have hi : i < M.m.length := by have := lt_of_get q; rwa [killG_len] at this
  rw [killG_get ns M.m i hi] at q
  split at q
  · cases q
  · rename_i hn; exact ⟨hn, q⟩
theorem Rep.kill (rep : Rep M H h) (ns : List Nat) : Rep ⟨M.u, killG ns M.m⟩ H (killG ns h) := by
  refine ⟨fun b z => ⟨fun y => ?_, (rep.us b z).2⟩, by rw [killG_len, killG_len]; exact rep.len, fun i j b q1 q2 => ?_, fun i b q => ?_, fun i q => ?_⟩
  · obtain ⟨i, hi, q⟩ := List.getElem_of_mem y
    have q' : (killG ns M.m)[i]? = some (some b) := by rw [List.getElem?_eq_getElem hi]; exact congrArg some q
    exact (rep.us b z).1 (List.mem_of_getElem? (killM_get q').2)
  · exact rep.inj i j b (killM_get q1).2 (killM_get q2).2
  · obtain ⟨hn, q'⟩ := killM_get q
    obtain ⟨o, ho, ro⟩ := rep.at_ i b q'
    refine ⟨o, ?_, ro.sub killM_has⟩
    rw [killG_get ns h i (by rw [← rep.len]; exact lt_of_get q'), if_neg hn]
    exact ho
  · have q' : (killG ns M.m)[i]? = some none := q
    have hi : i < M.m.length := by have := lt_of_get q'; rwa [killG_len] at this
    rw [killG_get ns h i (by rw [← rep.len]; exact hi)]
    rw [killG_get ns M.m i hi] at q'
    split at q'
    · rename_i hn; rw [if_pos hn]
    · rename_i hn; rw [if_neg hn]; exact rep.dead i q'
theorem killM_not (rep : Rep M H h) {ns : List Nat} {n : Nat} {a : Addr} (hn : n ∈ ns) (q : M.m[n]? = some (some a)) : ¬ Mm.Has ⟨M.u, killG ns M.m⟩ a := fun z => by
  rcases z with z | z
  · exact (rep.us a z).1 (List.mem_of_getElem? q)
  · obtain ⟨i, hi, e⟩ := List.getElem_of_mem z
    have q' : (killG ns M.m)[i]? = some (some a) := by rw [List.getElem?_eq_getElem hi]; exact congrArg some e
    obtain ⟨h1, h2⟩ := killM_get q'
    exact h1 (rep.inj i n a h2 q ▸ hn)
theorem openP_rds (rep : Rep M H h) {ns0 : List Nat} : ∀ {its : List (Sum Nat D)} {xs : List V} {ds : List D} {ns : List Nat}, RPs M H xs its → openP h its = some (ds, ns) → (∀ n ∈ ns, n ∈ ns0) → RDs ⟨M.u, killG ns0 M.m⟩ H xs ds
  | _, _, _, _, .nil, e, _ => by cases e; exact .nil
  | _, _, _, _, .dat (ds := its) q r, e, hs => by
    simp only [openP] at e
    split at e
    · rename_i ds ns e1
      cases e
      exact .cons (q.sub killM_has) (openP_rds rep r e1 hs)
    · cases e
  | _, _, _, _, .ref (ds := its) q r, e, hs => by
    simp only [openP] at e
    split at e
    · rename_i l ds ns e0 e1
      cases e
      obtain ⟨o, ho, ro⟩ := rep.at_ _ _ q
      rw [e0] at ho
      cases ho
      obtain ⟨xs, hx, rx⟩ := ro
      exact .cons (.lst (killM_not rep (hs _ (by simp)) q) hx (rx.sub killM_has)) (openP_rds rep r e1 fun n z => hs n (List.mem_cons_of_mem _ z))
    · cases e
theorem RS.kill {ρ : Env} {σ : L2.St} {i : Nat} {its : List (Sum Nat D)} {ds : List D} {ns : List Nat} (rep : Rep M H h) (rs : RS M H ρ σ) (er : ρ[i]? = some (some (.pack its))) (eo : openP h its = some (ds, ns)) (hn : ¬ ns.any (fun n => (ρ.set i none).any (isR n)) = true) (h0 : ns ≠ []) :
    RS ⟨M.u, killG ns M.m⟩ H (ρ.set i (some (.dat (.list ds)))) σ := by
  refine ⟨by simp [rs.1], fun j w q => ?_⟩
  by_cases hj : i = j
  · subst hj
    rw [List.getElem?_set_self (lt_of_get er)] at q
    cases q
    obtain ⟨v, ev, a, xs, rfl, na, ha, rp⟩ := rs.2 i _ er
    exact ⟨_, ev, RD.lst (fun z => na (killM_has _ z)) ha (openP_rds rep rp eo fun _ z => z)⟩
  · rw [List.getElem?_set_ne hj] at q
    obtain ⟨v, ev, rv⟩ := rs.2 j w q
    refine ⟨v, ev, ?_⟩
    have hm : some w ∈ ρ.set i none := List.mem_of_getElem? (i := j) (by rw [List.getElem?_set_ne hj]; exact q)
    cases w with
    | dat d => exact RD.sub killM_has rv
    | ins C fs =>
      obtain ⟨b, u, gs, e1, n1, q1, r1⟩ := rv
      exact ⟨b, u, gs, e1, fun z => n1 (killM_has b z), q1, r1.to fun _ _ => RD.sub killM_has⟩
    | row ds =>
      obtain ⟨b, o, xs, e1, n1, dn, q1, r1⟩ := rv
      exact ⟨b, o, xs, e1, fun z => n1 (killM_has b z), dn, q1, RDs.sub killM_has r1⟩
    | exc k C fs =>
      obtain ⟨b, d, gs, e1, r1⟩ := rv
      exact ⟨b, d, gs, e1, r1.to (fun c _ _ n z => n (killM_has c z)) (fun _ _ q _ _ => q) fun _ _ => RD.sub killM_has⟩
    | lock es =>
      obtain ⟨b, u, kvs, e1, n1, q1, r1⟩ := rv
      exact ⟨b, u, kvs, e1, fun z => n1 (killM_has b z), q1, r1.sub killM_has⟩
    | scr ns =>
      obtain ⟨b, u, e1, n1, q1⟩ := rv
      exact ⟨b, u, e1, fun z => n1 (killM_has b z), q1⟩
    | pack its' =>
      obtain ⟨n, hn0⟩ := List.exists_mem_of_ne_nil _ h0
      exact absurd (List.any_eq_true.mpr ⟨n, hn0, List.any_eq_true.mpr ⟨_, hm, rfl⟩⟩) hn
    | ref k =>
      obtain ⟨b, eb, rfl⟩ := rv
      have hk : k ∉ ns := fun z => hn (List.any_eq_true.mpr ⟨k, z, List.any_eq_true.mpr ⟨_, hm, by simp [isR]⟩⟩)
      exact ⟨b, by show (killG ns M.m)[k]? = _; rw [killG_get ns M.m k (lt_of_get eb), if_neg hk]; exact eb, rfl⟩
end
section
variable {X : Cx}
def packs : List W → Option (List (Sum Nat D))
  | [] => some []
  | .dat d :: ws => (packs ws).map (.inr d :: ·)
  | .ref n :: ws => (packs ws).map (.inl n :: ·)
  | _ :: _ => none
@[simp] theorem packs_nil : packs [] = some [] := rfl
@[simp] theorem packs_dat (d : D) (ws : List W) : packs (.dat d :: ws) = (packs ws).map (.inr d :: ·) := rfl
@[simp] theorem packs_ref (n : Nat) (ws : List W) : packs (.ref n :: ws) = (packs ws).map (.inl n :: ·) := rfl
theorem RPs.length {M : Mm} {H : Hp} : ∀ {vs : List V} {ws : List (Sum Nat D)}, RPs M H vs ws → vs.length = ws.length
  | _, _, .nil => rfl
  | _, _, .ref _ r => by rw [List.length_cons, List.length_cons, r.length]
  | _, _, .dat _ r => by rw [List.length_cons, List.length_cons, r.length]
theorem RPs.get {M : Mm} {H : Hp} : ∀ {xs : List V} {its : List (Sum Nat D)} {i : Nat} {z : Sum Nat D}, RPs M H xs its → its[i]? = some z → ∃ v, xs[i]? = some v ∧ RV M H v (match z with | .inl n => .ref n | .inr d => .dat d)
  | _, _, _, _, .nil, e => by simp at e
  | _, _, 0, _, .ref (a := a) q r, e => by simp at e; subst e; exact ⟨_, rfl, a, q, rfl⟩
  | _, _, 0, _, .dat q r, e => by simp at e; subst e; exact ⟨_, rfl, q⟩
  | _, _, i + 1, z, .ref (vs := vs) (ds := ds) q r, e => by
    obtain ⟨v, e1, e2⟩ := RPs.get (i := i) r (by simpa using e)
    exact ⟨v, by simpa using e1, e2⟩
  | _, _, i + 1, z, .dat (vs := vs) (ds := ds) q r, e => by
    obtain ⟨v, e1, e2⟩ := RPs.get (i := i) r (by simpa using e)
    exact ⟨v, by simpa using e1, e2⟩
end
end DL
set_option maxRecDepth 100000
set_option maxHeartbeats 1000000
namespace DL
open PySem PySem.Spec PyProof.Rows L2
mutual
def noD : D → Bool
  | .tuple ds => noDs ds
  | .list ds => noDs ds
  | .dict _ => false
  | _ => true
def noDs : List D → Bool
  | [] => true
  | d :: ds => noD d && noDs ds
end
def noDk : List (D × D) → Bool
  | [] => true
  | (_, d) :: es => noD d && noDk es
def noDM : Option MO → Bool
  | some (.lst ds) => noDs ds
  | some (.dic es) => noDk es
  | some (.dit es) => noDk es
  | some (.ins _ _) => false
  | _ => true
section
variable {M : Mm} {H : Hp} {d : Addr} {o : Obj} {u : HO} {kvs0 : List (Key × V)}
mutual
theorem RD.lock (hd : H d = some (.dK kvs0)) : ∀ {v : V} {x : D}, RD M H v x → noD x = true → RD M (upd H d u) v x
  | _, _, .non, _ => .non
  | _, _, .bl b, _ => .bl b
  | _, _, .int i, _ => .int i
  | _, _, .str s, _ => .str s
  | _, _, .tup n e r, h => .tup n (e.to fun _ q => by
      rw [upd_ne]; exact q
      rintro rfl
      rcases e with ⟨_, e⟩ | ⟨_, o, _, e⟩ <;> rw [hd] at e <;> cases e) (RDs.lock hd r (by simpa [noD] using h))
  | _, _, .lst n e r, h => .lst n (by
      rw [upd_ne]; exact e
      rintro rfl
      rw [hd] at e; cases e) (RDs.lock hd r (by simpa [noD] using h))
  | _, _, .dic n e r, h => by simp [noD] at h
  | _, _, .dit n e r, h => by simp [noD] at h
theorem RDs.lock (hd : H d = some (.dK kvs0)) : ∀ {v : List V} {x : List D}, RDs M H v x → noDs x = true → RDs M (upd H d u) v x
  | _, _, .nil, _ => .nil
  | _, _, .cons a r, h => by
    simp only [noDs, Bool.and_eq_true] at h
    exact .cons (RD.lock hd a h.1) (RDs.lock hd r h.2)
end
theorem RDk.lock (hd : H d = some (.dK kvs0)) : ∀ {v : List (Key × V)} {x : List (D × D)}, RDk M H v x → noDk x = true → RDk M (upd H d u) v x
  | _, _, .nil, _ => .nil
  | _, _, .cons a r, h => by
    simp only [noDk, Bool.and_eq_true] at h
    exact .cons (RD.lock hd a h.1) (RDk.lock hd r h.2)
theorem RDt.lock (hd : H d = some (.dK kvs0)) : ∀ {v : List (List Key × V)} {x : List (D × D)}, RDt M H v x → noDk x = true → RDt M (upd H d u) v x
  | _, _, .nil, _ => .nil
  | _, _, .cons a r, h => by
    simp only [noDk, Bool.and_eq_true] at h
    exact .cons (RD.lock hd a h.1) (RDt.lock hd r h.2)
theorem RO.lock (hd : H d = some (.dK kvs0)) (hn : ¬ M.Has d) {a : Addr} (ha : M.Has a) {m : MO} (r : RO M H a m) (h : noDM (some m) = true) : RO M (upd H d u) a m := by
  have ne : a ≠ d := fun z => hn (z ▸ ha)
  cases m with
  | lst ds => obtain ⟨xs, e, r⟩ := r; exact ⟨xs, by rw [upd_ne ne]; exact e, r.lock hd h⟩
  | dic ds => obtain ⟨xs, e, r⟩ := r; exact ⟨xs, by rw [upd_ne ne]; exact e, r.lock hd h⟩
  | dit ds => obtain ⟨xs, e, r⟩ := r; exact ⟨xs, by rw [upd_ne ne]; exact e, r.lock hd h⟩
  | ins C fs => cases h
  | tab q P =>
    obtain ⟨z, ps, e, t, r⟩ := r
    refine ⟨z, ps, by rw [upd_ne ne]; exact e, t, fun pos cv hc => ?_⟩
    obtain ⟨c, e1, n, e2⟩ := r pos cv hc
    refine ⟨c, e1, n, ?_⟩
    rw [upd_ne]; exact e2
    rintro rfl
    rw [hd] at e2; cases e2
theorem Rep.lock {h : Hh} (r : Rep M H h) (hd : H d = some (.dK kvs0)) (hn : ¬ M.Has d) (hk : h.all noDM = true) : Rep M (upd H d u) h :=
  ⟨fun a m => ⟨(r.us a m).1, let ⟨w, e, ht⟩ := (r.us a m).2; ⟨w, by rw [upd_ne (fun z => hn (.inl (by rw [← z]; exact m)))]; exact e, ht⟩⟩, r.len, r.inj, fun i a e => by
    obtain ⟨m, hm, ro⟩ := r.at_ i a e
    exact ⟨m, hm, ro.lock hd hn (.inr (List.mem_of_getElem? e)) (List.all_eq_true.mp hk _ (List.mem_of_getElem? hm))⟩, r.dead⟩
end
section
variable {X : Cx}
theorem RDk.get {M : Mm} {H : Hp} : ∀ {kvs : List (Key × V)} {es : List (D × D)} {i : Nat} {e : D × D}, RDk M H kvs es → es[i]? = some e → ∃ k v, kvs[i]? = some (k, v) ∧ e.1 = kP k ∧ RD M H v e.2
  | _, _, _, _, .nil, e => by simp at e
  | _, _, 0, _, .cons r t, e => by simp at e; subst e; exact ⟨_, _, rfl, rfl, r⟩
  | _, _, i + 1, _, .cons r t, e => by
    obtain ⟨k, v, h1, h2⟩ := RDk.get (i := i) t (by simpa using e)
    exact ⟨k, v, by simpa using h1, h2⟩
def gNs : List Nat → TGs
  | [] => gNil
  | i :: is => gCons (gName i) (gNs is)
theorem gNs_run {M : Mm} {H : Hp} : ∀ {is : List Nat} {vs : List V} {ws : List W} {ρ : Env} {σ : L2.St} {Q : L2.St → Hp → Prop}, RVs M H vs ws → ws.length = is.length → RS M H ρ σ → (∀ σ', RS M H ((is.zip ws).foldl (fun ρ p => ρ.set p.1 (some p.2)) ρ) σ' → Q σ' H) → gNs is vs σ H Q
  | [], _, _, ρ, σ, Q, .nil, _, rs, q => ⟨rfl, q σ rs⟩
  | [], _, _, ρ, σ, Q, .cons a t, e, rs, q => by simp at e
  | i :: is, _, _, ρ, σ, Q, .nil, e, rs, q => by simp at e
  | i :: is, _, _, ρ, σ, Q, .cons a t, e, rs, q => ⟨_, _, rfl, gNs_run t (by simpa using e) (rs.set a) fun σ' rs' => q σ' (by simpa using rs')⟩
theorem ds_unp {tgs es : List Expr} {k : Nat} {x1} {p1 p2 pos : Pos} {g : AM} {is : List Nat} {n : Nat} (hc : X.calm = true) (he : DA X es g) (ht : PGs X tgs (gNs is)) (hl : is.length = n) (hz : n ≤ 15 := by decide) (hn : (assignEach tgs X.env).length = n := by rfl) (hst : (assignEach tgs X.env).findIdx? (·.1) = none := by rfl)
    (hs : swapsWithSole [Expr.Tuple tgs k p1] (.Tuple es x1 p2) pos.line X.env = pure false := by rfl) (hw : swappedStores [Expr.Tuple tgs k p1] (.Tuple es x1 p2) X.env = pure none := by rfl) (h1 : (assignEach [Expr.Tuple tgs k p1] X.env).map (·.2) = [assign (.Tuple tgs k p1) X.env] := by rfl) :
    DS X (.Assign [.Tuple tgs k p1] (.Tuple es x1 p2) pos) (sPar g is) := (ps_asg (pe_tupB he) (pg_tup hc ht hn hst) hs hw h1).weak fun D σ H => by
  rintro ⟨M, h, ρ, r, rs, p⟩
  obtain ⟨ws, h1, e1, p1⟩ := p.bind
  refine ⟨M, h, ρ, r, rs, ws, h1, e1, fun M1 H1 vs x1 r1 v1 => ?_⟩
  split at p1
  · rename_i hl'
    have hvl : vs.length = n := by rw [v1.length, hl', hl]
    refine ⟨by rw [hvl, show sizeLine = 16777216 from rfl]; omega, false, fun q o nq _ => ?_⟩
    have xn := ext_new (M := M1) (o := .tup vs) nq
    refine ⟨q, vs, rfl, .inl (.inl upd_same), hvl, gNs_run (v1.mono xn) hl' ((rs.mono x1).mono xn) fun σ' rs' => ?_⟩
    have xx := x1.trans xn
    exact p1 M1 _ σ' xx.same xx.ext (r1.upd_new nq) rs'
  · exact p1.elim
end
end DL
set_option maxRecDepth 100000
set_option maxHeartbeats 1000000
namespace DL
open PySem PySem.Spec PyProof.Rows L2
end DL
set_option maxRecDepth 100000
set_option maxHeartbeats 1000000
namespace DL
open PySem PySem.Spec PyProof.Rows L2
section
variable {X : Cx}
def extendW (w : W) (ws : List W) (h : Hh) : Option (W × Hh) := match w, ws with
  | .ref n, [.dat (.list zs)] => match lstAt h n with
    | some ds => if ds.length + zs.length ≤ sizeLine then setL h n (ds ++ zs) .none else none
    | none => none
  | _, _ => none
theorem s_extend : SemM rExtend extendW := by
  intro M H h x w vs ws Q rep rx rv c
  unfold extendW at c
  split at c
  · rename_i n zs
    obtain ⟨a, ea, rfl⟩ := rx
    obtain ⟨v, rfl, r⟩ := rvs1 rv
    split at c
    · rename_i ds e
      obtain ⟨xs, ha, q⟩ := lstAt_ok rep e ea
      split at c
      · rename_i hz
        cases (show RD M H v _ from r) with
        | lst nb hb qb => exact ⟨a, _, xs, _, rfl, rfl, ha, hb, by rw [q.length, qb.length]; exact hz, setL_fin rep ea (q.app qb) .non c⟩
      · exact c.no.elim
    · exact c.no.elim
  · exact c.no.elim
end
end DL
set_option maxRecDepth 100000
set_option maxHeartbeats 1000000
namespace DL
open PySem PySem.Spec PyProof.Rows L2
end DL
set_option maxRecDepth 100000
set_option maxHeartbeats 1000000
namespace DL
open PySem PySem.Spec PyProof.Rows L2
section
variable {X : Cx}
def rngC (i c : Int) (n : Nat) : List D := (List.range n).map fun k => .int (i + (k : Nat) * c)
theorem itd_rngC {M : Mm} {H : Hp} {lo c : Int} {n : Nat} : ItD M H (Itc lo c n) (rngC lo c n) := fun M1 H1 x tr => by
  refine ⟨fun i d e => ?_, ?_⟩
  · unfold rngC at e
    rw [List.getElem?_map] at e
    obtain ⟨k, ek, rfl⟩ := Option.map_eq_some_iff.mp e
    obtain ⟨h1, h2⟩ := List.getElem?_eq_some_iff.mp ek
    rw [List.length_range] at h1
    rw [List.getElem_range] at h2
    subst h2
    exact ⟨h1, fun y H2 hy => by obtain ⟨e1, e2⟩ := hy; subst e1 e2; exact ⟨same_refl', .int _⟩⟩
  · show n ≤ _
    simp [rngC]
def rng3I (g : AM) : IM := fun ρ h => obnd (g ρ h) fun ws h1 => match ws with
  | [.dat (.int i), .dat (.int j), .dat (.int c)] => if c ≠ 0 ∧ c.natAbs < 1073741824 ∧ Builtin.Range.small i j c = true ∧ 0 ≤ Builtin.Range.rangeSize i j c then some (rngC i c (Builtin.Range.rangeSize i j c).toNat, h1) else none
  | _ => none
theorem di_rng3 {tg : Expr} (hm : X.mg "range" = none) {a b c : Expr} {p pos : Pos} {g : AM} (ha : DA X [a, b, c] g) (hg : Gl X "range" := by rfl) (hs : starEach [a, b, c] X.env = (false, eval a X.env) :: starEach [b, c] X.env := by rfl) (hpl : (backTo pos (starEach [b, c] X.env)).any (·.1) = false := by rfl) : DI X tg (.Call (.Name "range" p) [a, b, c] [] pos) (rng3I g) := (pi_range3 hg hm ha hs hpl).weak fun σ H R => by
  rintro ⟨M, h, ρ, ds, h', r, rs, e, q⟩
  unfold rng3I at e
  cases ef : g ρ h with
  | none => rw [ef] at e; cases e
  | some p =>
    obtain ⟨ws, h1⟩ := p
    rw [ef] at e
    simp only [obnd_some] at e
    split at e
    · split at e
      · rename_i hz
        cases e
        refine ⟨M, h, ρ, r, rs, _, _, ef, fun M1 H1 v x1 r1 v1 => ?_⟩
        cases v1 with
        | cons rv t =>
          obtain ⟨v', v'', rfl, rv', rv''⟩ := rvs2 t
          cases (show RD M1 H1 _ _ from rv)
          cases (show RD M1 H1 v' _ from rv')
          cases (show RD M1 H1 v'' _ from rv'')
          exact ⟨_, _, _, _, rfl, ⟨hz.1, hz.2.1, hz.2.2.1, by rw [Int.toNat_of_nonneg hz.2.2.2]⟩, q M1 H1 _ x1 r1 itd_rngC⟩
      · cases e
    · cases e
end
end DL
set_option maxRecDepth 100000
set_option maxHeartbeats 1000000
namespace DL
open PySem PySem.Spec PyProof.Rows L2
end DL
set_option maxRecDepth 100000
namespace DL
open PySem PySem.Spec PyProof.Rows L2
end DL
set_option maxRecDepth 100000
set_option maxHeartbeats 1000000
namespace DL
open PySem PySem.Spec PyProof.Rows L2
end DL
set_option maxRecDepth 100000
set_option maxHeartbeats 1000000
namespace DL
open PySem PySem.Spec PyProof.Rows L2
end DL
set_option maxRecDepth 100000
set_option maxHeartbeats 1000000
namespace DL
open PySem PySem.Spec PyProof.Rows L2
section
variable {X : Cx} {M : Mm} {H : Hp}
def insF (C : Addr) (w : W) (h : Hh) : Option (List (Str × D)) := match w with
  | .ins C' fs => if C' = C then some fs else none
  | .ref n => match h[n]? with
    | some (some (.ins C' fs)) => if C' = C then some fs else none
    | _ => none
  | _ => none
def fFld (C : Addr) (f : Str) (g : EM) : EM := fun ρ h => obnd (g ρ h) fun w h1 => match insF C w h1 with
  | some fs => match fs.lookup f with
    | some d => some (.dat d, h1)
    | none => none
  | none => none
def fMeth (C : Addr) (m : Str) (mm : FM) (go : EM) (ga : AM) : EM := fun ρ h => obnd (go ρ h) fun w h1 => match insF C w h1 with
  | some fs => match fs.lookup m with
    | some _ => none
    | none => obnd (ga ρ h1) fun ws h2 => mm (w :: ws) h2
  | none => none
def fMk (C : Addr) (mi : FM) (ga : AM) : EM := fun ρ h => obnd (ga ρ h) fun ws h1 => match mi (.ref h1.length :: ws) (h1 ++ [some (.ins C [])]) with
  | some (.dat .none, h2) => match h2[h1.length]? with
    | some (some (.ins C' fs)) => if C' = C then some (.ins C fs, h2.set h1.length none) else none
    | _ => none
  | _ => none
end
end DL
set_option maxRecDepth 100000
set_option maxHeartbeats 1000000
namespace DL
open PySem PySem.Spec PyProof.Rows L2
end DL
set_option maxRecDepth 100000
set_option maxHeartbeats 1000000
namespace DL
open PySem PySem.Spec PyProof.Rows L2
end DL
set_option maxRecDepth 100000
set_option maxHeartbeats 1000000
namespace DL
open PySem PySem.Spec PyProof.Rows L2
end DL
set_option maxRecDepth 100000
set_option maxHeartbeats 1000000
namespace DL
open PySem PySem.W PySem.Calls PyProof.Rows PyProof.V PySem.Spec
end DL
set_option maxRecDepth 100000
set_option maxHeartbeats 1000000
namespace DL
open PySem PySem.Spec PyProof.Rows L2
end DL
set_option maxRecDepth 100000
set_option maxHeartbeats 1000000
namespace DL
open PySem PySem.Spec PyProof.Rows L2
section
variable {M : Mm} {H : Hp}
theorem tupAt_inj {a : Addr} {xs ys : List V} {ds es : List D} (t : TupAt H a xs ds) (u : TupAt H a ys es) : xs = ys := by
  rcases t with ⟨_, e⟩ | ⟨_, o, _, e⟩ <;> rcases u with ⟨_, e'⟩ | ⟨_, o', _, e'⟩ <;> rw [e] at e' <;> cases e' <;> rfl
mutual
theorem RD.one : ∀ {v : V} {d e : D}, RD M H v d → RD M H v e → d = e
  | _, _, _, .non, r => by cases r; rfl
  | _, _, _, .bl b, r => by cases r; rfl
  | _, _, _, .int b, r => by cases r; rfl
  | _, _, _, .str b, r => by cases r; rfl
  | _, _, _, .tup _ t q, r => by
    cases r with
    | tup _ t' q' =>
      have := tupAt_inj t t'
      subst this
      rw [RDs.one q q']
    | lst _ h _ => rcases t with ⟨_, e⟩ | ⟨_, o, _, e⟩ <;> rw [e] at h <;> cases h
    | dic _ h _ => rcases t with ⟨_, e⟩ | ⟨_, o, _, e⟩ <;> rw [e] at h <;> cases h
    | dit _ h _ => rcases t with ⟨_, e⟩ | ⟨_, o, _, e⟩ <;> rw [e] at h <;> cases h
  | _, _, _, .lst _ h q, r => by
    cases r with
    | tup _ t' _ => rcases t' with ⟨_, e⟩ | ⟨_, o, _, e⟩ <;> rw [e] at h <;> cases h
    | lst _ h' q' => rw [h] at h'; cases h'; rw [RDs.one q q']
    | dic _ h' _ => rw [h] at h'; cases h'
    | dit _ h' _ => rw [h] at h'; cases h'
  | _, _, _, .dic _ h q, r => by
    cases r with
    | tup _ t' _ => rcases t' with ⟨_, e⟩ | ⟨_, o, _, e⟩ <;> rw [e] at h <;> cases h
    | lst _ h' _ => rw [h] at h'; cases h'
    | dic _ h' q' => rw [h] at h'; cases h'; rw [RDk.one q q']
    | dit _ h' _ => rw [h] at h'; cases h'
  | _, _, _, .dit _ h q, r => by
    cases r with
    | tup _ t' _ => rcases t' with ⟨_, e⟩ | ⟨_, o, _, e⟩ <;> rw [e] at h <;> cases h
    | lst _ h' _ => rw [h] at h'; cases h'
    | dic _ h' _ => rw [h] at h'; cases h'
    | dit _ h' q' => rw [h] at h'; cases h'; rw [RDt.one q q']
theorem RDs.one : ∀ {v : List V} {d e : List D}, RDs M H v d → RDs M H v e → d = e
  | _, _, _, .nil, r => by cases r; rfl
  | _, _, _, .cons a t, r => by
    cases r with
    | cons a' t' => rw [RD.one a a', RDs.one t t']
theorem RDk.one : ∀ {v : List (Key × V)} {d e : List (D × D)}, RDk M H v d → RDk M H v e → d = e
  | _, _, _, .nil, r => by cases r; rfl
  | _, _, _, .cons a t, r => by
    cases r with
    | cons a' t' => rw [RD.one a a', RDk.one t t']
theorem RDt.one : ∀ {v : List (List Key × V)} {d e : List (D × D)}, RDt M H v d → RDt M H v e → d = e
  | _, _, _, .nil, r => by cases r; rfl
  | _, _, _, .cons a t, r => by
    cases r with
    | cons a' t' => rw [RD.one a a', RDt.one t t']
end
end
end DL
set_option maxRecDepth 100000
set_option maxHeartbeats 1000000
namespace DL
open PySem PySem.Spec PyProof.Rows L2
end DL
set_option maxRecDepth 100000
set_option maxHeartbeats 1000000
namespace DL
open PySem PySem.Spec PyProof.Rows L2
section
variable {X : Cx}
def divBW := intW (fun _ j => decide (0 < j ∧ j < 1000000000000000000)) fun i j => i / j
theorem divBW_e (x y : W) (h : Hh) : divBW x y h = intW (fun _ j => decide (0 < j ∧ j < 1000000000000000000)) (fun i j => i / j) x y h := rfl
end
end DL
set_option maxRecDepth 100000
set_option maxHeartbeats 1000000
namespace DL
open PySem PySem.Spec PyProof.Rows L2
end DL
set_option maxRecDepth 100000
set_option maxHeartbeats 1000000
namespace DL
open PySem PySem.Spec PyProof.Rows L2
end DL
set_option maxRecDepth 100000
set_option maxHeartbeats 1000000
namespace DL
open PySem PySem.Spec PyProof.Rows L2
end DL
set_option maxRecDepth 100000
set_option maxHeartbeats 400000
namespace DL
open PySem PySem.Spec PyProof.Rows L2
abbrev Xc := Nat × Addr × List (Str × D)
def XR (M : Mm) (H : Hp) (cls : Value) (d : Option Addr) (x : Xc) : Prop := ∃ gs, cls = .ref x.2.1 ∧ XD M H d gs ∧ RF M H gs x.2.2
theorem XR.mono {M M' : Mm} {H H' : Hp} {cls : Value} {d : Option Addr} {x : Xc} (e : Ext M M' H H') : XR M H cls d x → XR M' H' cls d x
  | ⟨gs, q, y, z⟩ => ⟨gs, q, y.to (fun _ _ q n => e.out n q) fun _ _ q _ n => e.st n q, z.to fun _ _ => RD.mono e⟩
abbrev RE := Env → Hh → Option (Xc × Hh)
abbrev RM := Env → Hh → Option ((Env × Xc) × Hh)
def RPost (W : WX) (M0 : Mm) (H0 : Hp) : Option ((Env × Xc) × Hh) → Prop
  | some ((ρ, x), h) => ∀ M H σ cls d, M.u = M0.u → Ext M0 M H0 H → Rep M H h → RS M H ρ σ → XR M H cls d x → W cls d σ H
  | none => False
theorem RPost.mono {W : WX} {M0 M1 : Mm} {H0 H1 : Hp} {r : Option ((Env × Xc) × Hh)} (p : RPost W M0 H0 r) (u : M1.u = M0.u) (x : Ext M0 M1 H0 H1) : RPost W M1 H1 r := by
  match r, p with
  | some ((ρ, y), h), p => exact fun M H σ cls d e z => p M H σ cls d (e.trans u) (x.trans z)
end DL
set_option maxRecDepth 100000
set_option maxHeartbeats 400000
namespace DL
open PySem PySem.Spec PyProof.Rows L2
abbrev FR := List W → Hh → Option (Xc × Hh)
theorem XR.sub {M M' : Mm} {H : Hp} {cls : Value} {d : Option Addr} {x : Xc} (s : ∀ b, M'.Has b → M.Has b) : XR M H cls d x → XR M' H cls d x
  | ⟨gs, q, y, z⟩ => ⟨gs, q, y.to (fun b _ _ n m => n (s b m)) (fun _ _ q _ _ => q), z.to fun _ _ => RD.sub s⟩
end DL
set_option maxRecDepth 100000
set_option maxHeartbeats 400000
namespace DL
open PySem PySem.Spec PyProof.Rows L2
theorem all_cons {α : Type} {P : α → Prop} {a : α} {l : List α} (h : P a) (t : ∀ x ∈ l, P x) : ∀ x ∈ a :: l, P x := fun x m => by
  rcases List.mem_cons.mp m with rfl | m
  · exact h
  · exact t x m
end DL
set_option maxRecDepth 100000
set_option maxHeartbeats 400000
namespace DL
open PySem PySem.Spec PyProof.Rows L2
section
variable {X : Cx} {a : Addr} {pn pins : List (Addr × Obj)} {σ : L2.St} {H : Hp} {s : Shared} {E : Value → Shared → Prop}
structure EC (K : PySem.W.Frag) (C : Addr) : Prop where
  hg : PySem.W.findIn K (.ref C) "__getattribute__" = some (some (.builtin "BaseException.__getattribute__"))
  hk : PySem.W.findIn K (.ref C) "__getattr__" = some none
  hs : PySem.W.subIn K (.ref C) (.type "BaseException") = some true
  hd : PySem.W.hasDictIn K C = true
  ha : PySem.W.findIn K (.ref C) "__class__" = some (some (.builtin "object.__class__"))
  hn : PySem.W.specialIn K (.builtin "object.__class__") "__get__" = some (some (.builtin "getset_descriptor.__get__"))
  ht : PySem.W.takesIn K (.builtin "object.__class__") = some true
  hm : PySem.W.mroIn K C (.type "object") = some true
theorem EC.cl {K : PySem.W.Frag} {C : Addr} (e : EC K C) : (PySem.W.clsIn K C).isSome = true := by
  obtain ⟨cd, hc, _⟩ := PySem.W.any_some e.hd
  rw [hc]; rfl
end
section
variable {X : Cx} {e : Expr} {f : EM} {p pt pos : Pos} {ks : List (Nat × Addr)} {ys : List Nat}
inductive ClsPA (X : Cx) : List Expr → List V → List Value → Prop
  | nil : ClsPA X [] [] []
  | cons {x : Str} {np : Pos} {C : Addr} {es : List Expr} {cs : List V} {us : List Value} : X.mg x = some (.ref C) → ClsPA X es cs us → (hg : Gl X x := by rfl) → (hd : (x == ("__debug__" : Str)) = false := by decide) →
      (hs : starEach (.Name x np :: es) X.env = (false, eval (.Name x np) X.env) :: starEach es X.env := by rfl) → ClsPA X (.Name x np :: es) (.ref C :: cs) (.ref C :: us)
  | consB {x : Str} {np : Pos} {T : String} {es : List Expr} {cs : List V} {us : List Value} : X.mg x = none → bootBuiltins x = some (.type T) → ClsPA X es cs us → (hg : Gl X x := by rfl) → (hn : x ≠ "__name__" := by decide) → (hd : (x == ("__debug__" : Str)) = false := by decide) →
      (hs : starEach (.Name x np :: es) X.env = (false, eval (.Name x np) X.env) :: starEach es X.env := by rfl) → ClsPA X (.Name x np :: es) (.ty T :: cs) (.type T :: us)
theorem ClsPA.cv : ∀ {es : List Expr} {cs : List V} {us : List Value}, ClsPA X es cs us → Paired ClsV cs us
  | _, _, _, .nil => .nil
  | _, _, _, .cons _ t _ _ _ => .cons (.own _) t.cv
  | _, _, _, .consB _ _ t _ _ _ _ => .cons (.ty _) t.cv
end
end DL
set_option maxRecDepth 100000
set_option maxHeartbeats 400000
namespace DL
open PySem PySem.Spec PyProof.Rows L2
end DL
set_option maxRecDepth 100000
set_option maxHeartbeats 4000000
namespace DL
open PySem PySem.Spec PyProof.Rows L2
section
variable {prog : Program} {w : World}
structure Gives (prog : Program) (w : World) (it l : Addr) (xs : Array Value) (I : Nat → Heap → Prop) : Prop where
  own : ∀ {k : Nat} {h : Heap}, I k h → (∃ o, h.get? it = some o) ∧ ∃ o, h.get? l = some o
  at_ : ∀ {k : Nat} {h h' : Heap}, I k h → (∀ o, h.get? it = some o → h'.get? it = some o) → (∀ o, h.get? l = some o → h'.get? l = some o) → I k h'
  item : ∀ {A : Around} {E : Value → Shared → Prop} {s : Shared} {k : Nat} {x : Value} {Q : Value → Shared → Prop}, I k s.heap → xs[k]? = some x → (∀ h', I (k + 1) h' → Heap.SameBut it s.heap h' → Q x { s with heap := h' }) → wpAny (model prog w) A (Builtin.SmallTypes.nextOf (.ref it)) Q E s
  stop : ∀ {A : Around} {E : Value → Shared → Prop} {s : Shared} {k : Nat} {Q : Value → Shared → Prop}, A.handled = none → I k s.heap → xs[k]? = none → (∀ h' e, Heap.ExtBut it s.heap h' → (∃ o, h'.get? e = some o ∧ o.cls = .type "StopIteration") → E (.ref e) { s with heap := h' }) → wpAny (model prog w) A (Builtin.SmallTypes.nextOf (.ref it)) Q E s
theorem gives_list {it l : Addr} {xs : Array Value} (ne : l ≠ it) : Gives prog w it l xs fun k h => h.IsListIter it l k ∧ h.IsList l xs where
  own := fun {k h} q => by
    obtain ⟨⟨_, e, _⟩, ⟨_, e2, _⟩⟩ := q
    exact ⟨⟨_, e⟩, ⟨_, e2⟩⟩
  at_ := fun q f g => ⟨q.1.at f, q.2.at g⟩
  item := fun q hx hQ => wpAny_nextOf_list_item q.1 q.2 hx fun h' a b => hQ h' ⟨a, q.2.extBut b.extBut ne⟩ b
  stop := fun hh q hx hE => wpAny_nextOf_list_end hh q.1 q.2 hx hE
theorem gives_tup {it l : Addr} {xs : Array Value} (ne : l ≠ it) : Gives prog w it l xs fun k h => h.IsTupleIter it l k ∧ h.IsTuple l xs where
  own := fun {k h} q => by
    obtain ⟨⟨_, e, _⟩, ⟨_, e2, _⟩⟩ := q
    exact ⟨⟨_, e⟩, ⟨_, e2⟩⟩
  at_ := fun q f g => ⟨q.1.at f, q.2.at g⟩
  item := fun q hx hQ => RZ.nextOf_tuple_item q.1 q.2 hx fun h' a b => hQ h' ⟨a, q.2.extBut b.extBut ne⟩ b
  stop := fun hh q hx hE => RZ.nextOf_tuple_end hh q.1 q.2 hx hE
variable {it l : Addr} {xs ys : Array Value} {I I1 I2 : Nat → Heap → Prop} {z TI TO T i1 i2 l1 l2 : Addr} {A : Around} {E : Value → Shared → Prop} {s : Shared} {k : Nat}
theorem Gives.but (G : Gives prog w it l xs I) {h h' : Heap} {c : Addr} (q : I k h) (e : Heap.ExtBut c h h') (n1 : it ≠ c) (n2 : l ≠ c) : I k h' := G.at_ q (fun o r => e _ o n1 r) fun o r => e _ o n2 r
end
end DL
set_option maxRecDepth 100000
set_option maxHeartbeats 4000000
namespace DL
open PySem PySem.Spec PyProof.Rows L2
end DL
set_option maxRecDepth 100000
set_option maxHeartbeats 4000000
namespace DL
open PySem PySem.Spec PyProof.Rows L2
end DL
set_option maxRecDepth 100000
set_option maxHeartbeats 4000000
namespace DL
open PySem PySem.Spec PyProof.Rows L2
end DL
set_option maxRecDepth 100000
set_option maxHeartbeats 4000000
namespace DL
open PySem PySem.Spec PyProof.Rows L2
end DL
set_option maxRecDepth 100000
set_option maxHeartbeats 4000000
namespace DL
open PySem PySem.Spec PyProof.Rows L2
end DL
set_option maxRecDepth 100000
set_option maxHeartbeats 4000000
namespace DL
open PySem PySem.Spec PyProof.Rows L2
section
variable {X : Cx} {C : Addr} {k : Nat} {ps : List Str} {qual : Str} {st : Stmt} {mm : FM} {pos : Pos}
theorem RG.one {A : Around} (hr : RG (k + 1) A) : RG k A.in1 := ⟨hr.room.in1, hr.gd⟩
end
end DL
set_option maxRecDepth 100000
set_option maxHeartbeats 400000
namespace DL
open PySem PySem.Spec PyProof.Rows L2
end DL
set_option maxRecDepth 100000
set_option maxHeartbeats 1000000
namespace DL
open PySem PySem.Spec PyProof.Rows L2
end DL
set_option maxRecDepth 100000
set_option maxHeartbeats 1000000
namespace DL
open PySem PySem.Spec PyProof.Rows L2
end DL
set_option maxRecDepth 100000
set_option maxHeartbeats 4000000
namespace DL
open PySem PySem.Spec PyProof.Rows L2
abbrev IsZipS (h : Heap) (z TI TO : Addr) (f0 : Value) : Prop :=
  h.get? z = some { cls := .type "zip", dict := none, data := .fields #[f0, .bool false, .bool true, .ref TI, .ref TO], slots := #[] }
section
variable {prog : Program} {w : World} {it l : Addr} {xs ys : Array Value} {I I1 I2 : Nat → Heap → Prop} {z TI TO T i1 i2 l1 l2 : Addr} {A : Around} {E : Value → Shared → Prop} {s : Shared} {k : Nat}
theorem Gives.itemE (G : Gives prog w it l xs I) {x : Value} {Q : Option Value → Shared → Prop} (q : I k s.heap) (hx : xs[k]? = some x) (hQ : ∀ h', I (k + 1) h' → Heap.SameBut it s.heap h' → Q (some x) { s with heap := h' }) : wpAny (model prog w) A (Builtin.SmallTypes.nextOrEnd (.ref it)) Q E s := by
  unfold Builtin.SmallTypes.nextOrEnd
  exact wpAny_bind (wpAny_attempt (G.item q hx fun h' a b => wpAny_pure (hQ h' a b)))
theorem Gives.stopE (G : Gives prog w it l xs I) {Q : Option Value → Shared → Prop} (hh : A.handled = none) (q : I k s.heap) (hx : xs[k]? = none) (hQ : ∀ h', Heap.ExtBut it s.heap h' → Q none { s with heap := h' }) : wpAny (model prog w) A (Builtin.SmallTypes.nextOrEnd (.ref it)) Q E s := by
  unfold Builtin.SmallTypes.nextOrEnd
  refine wpAny_bind (wpAny_attempt (G.stop hh q hx fun h' e k he => ?_))
  obtain ⟨o, ho, hc⟩ := he
  exact wpAny_bind (wpAny_isInstance (T := "StopIteration") (b := true) ⟨o, ho, hc⟩ isSubtype_stop (wpAny_pure (hQ h' k)))
theorem stop_raises {α : Type} {Q : α → Shared → Prop} (hh : A.handled = none) (hE : ∀ h' e, (∀ c o, s.heap.get? c = some o → h'.get? c = some o) → (∃ o, h'.get? e = some o ∧ o.cls = .type "StopIteration") → E (.ref e) { s with heap := h' }) : wpAny (model prog w) A (Builtin.SmallTypes.stopIteration : Sem α) Q E s := by
  unfold Builtin.SmallTypes.stopIteration
  refine wpAny_bind ?_
  simp only [newExc, newTuple]
  refine wpAny_bind (wpAny_newObj_type ?_ (by size_fits))
  refine wpAny_bind (m := firstArgMember _ _) (wpAny_of_eq (a := Value.none) (by first | rfl | (simp only [firstArgMember]; rfl)) ?_)
  refine wpAny_newObj_type ?_ (by size_fits)
  simp only [raiseNew]
  refine wpAny_bind (wpAny_handled ?_)
  rw [hh]
  refine wpAny_bind (wpAny_pure (wpAny_throw ?_))
  exact hE _ _ (fun c o q => Heap.get?_push_of_some _ (Heap.get?_push_of_some _ q)) ⟨_, Heap.get?_push_size _ rfl, rfl⟩
theorem zs_item (G1 : Gives prog w i1 l1 xs I1) (G2 : Gives prog w i2 l2 ys I2) (D : ZipApart z TI TO i1 i2 l1 l2) {x y a b : Value} {Q : Value → Shared → Prop}
    (hz : IsZipS s.heap z TI TO .none) (hTI : IsPair s.heap TI (.ref i1) (.ref i2)) (hTO : IsPair s.heap TO a b) (h1 : I1 k s.heap) (h2 : I2 k s.heap) (hx : xs[k]? = some x) (hy : ys[k]? = some y)
    (hQ : ∀ h', IsZipS h' z TI TO (rawInt s.heap.objs.size) → IsPair h' TO x y → I1 (k + 1) h' → I2 (k + 1) h' → IsPair h' s.heap.objs.size x y →
      (∀ c o, c ≠ z → c ≠ TO → c ≠ i1 → c ≠ i2 → s.heap.get? c = some o → h'.get? c = some o) → Q (.ref s.heap.objs.size) { s with heap := h' }) :
    wpAny (model prog w) A (Builtin.«zip.__next__» ⟨[.ref z], []⟩) (fun fin s' => ∃ v, fin = .done (.ret v) ∧ Q v s') E s := by
  show wpAny _ _ (field (.ref z) 2 >>= _) _ _ _
  refine wpAny_bind (wpAny_field hz rfl (x := .bool true) rfl ?_)
  show wpAny _ _ (field (.ref z) 3 >>= _) _ _ _
  refine wpAny_bind (wpAny_field hz rfl (x := .ref TI) rfl (wpAny_bind (wpAny_seqItems hTI rfl ?_)))
  show wpAny _ _ (Builtin.SmallTypes.ownedTupleIsFree (.ref z) >>= _) _ _ _
  refine wpAny_bind ?_
  unfold Builtin.SmallTypes.ownedTupleIsFree
  refine wpAny_bind (wpAny_field hz rfl (x := .none) rfl (wpAny_pure ?_))
  simp only [if_true]
  refine wpAny_bind (wpAny_rule (wpAny_bind (wpAny_field hz rfl (x := .ref TO) rfl (wpAny_bind (wpAny_setField_rec hz (by simp) fun g1 z1 e1 => ?_)))))
  replace z1 : IsZipS g1 z TI TO .ellipsis := z1
  refine wpAny_bind ?_
  simp only [List.zipIdx_cons, List.zipIdx_nil, List.forIn_cons, List.forIn_nil]
  refine wpAny_bind (wpAny_bind (wpAny_onRaise ?_))
  show wpAny _ _ (Builtin.SmallTypes.nextOrEnd (.ref i1)) _ _ _
  refine G1.itemE (G1.but h1 e1.extBut D.i1z D.l1z) hx fun g2 p2 e2 => ?_
  have t2 : IsPair g2 TO a b := e2.extBut _ _ D.TOi1 (e1.extBut _ _ D.TOz hTO)
  refine wpAny_bind (wpAny_seqItems t2 rfl (wpAny_bind (wpAny_updateSeq_pair t2 fun g3 t3 e3 => ?_)))
  replace t3 : IsPair g3 TO x b := t3
  refine wpAny_bind (wpAny_letGo (wpAny_pure ?_))
  refine wpAny_bind (wpAny_bind (wpAny_onRaise ?_))
  show wpAny _ _ (Builtin.SmallTypes.nextOrEnd (.ref i2)) _ _ _
  refine G2.itemE (G2.but (G2.but (G2.but h2 e1.extBut D.i2z D.l2z) e2.extBut D.i12.symm D.l2i1) e3.extBut D.TOi2.symm D.l2TO) hy fun g4 p4 e4 => ?_
  have t4 : IsPair g4 TO x b := e4.extBut _ _ D.TOi2 t3
  refine wpAny_bind (wpAny_seqItems t4 rfl (wpAny_bind (wpAny_updateSeq_pair t4 fun g5 t5 e5 => ?_)))
  replace t5 : IsPair g5 TO x y := t5
  refine wpAny_bind (wpAny_letGo (wpAny_pure (wpAny_pure ?_)))
  refine wpAny_bind (wpAny_seqItems t5 rfl (wpAny_bind (wpAny_newTuple ?_)))
  have sz : g5.objs.size = s.heap.objs.size := by rw [e5.1, e4.1, e3.1, e2.1, e1.1]
  have z5 : IsZipS g5 z TI TO .ellipsis := e5.extBut _ _ D.TOz.symm (e4.extBut _ _ D.i2z.symm (e3.extBut _ _ D.TOz.symm (e2.extBut _ _ D.i1z.symm z1)))
  have f5 : ∀ c o, c ≠ z → c ≠ TO → c ≠ i1 → c ≠ i2 → s.heap.get? c = some o → g5.get? c = some o := fun c o c1 c2 c3 c4 q =>
    e5.extBut _ _ c2 (e4.extBut _ _ c4 (e3.extBut _ _ c2 (e2.extBut _ _ c3 (e1.extBut _ _ c1 q))))
  have q1 := G1.but (G1.but (G1.but p2 e3.extBut D.TOi1.symm D.l1TO) e4.extBut D.i12 D.l1i2) e5.extBut D.TOi1.symm D.l1TO
  have q2 := G2.but p4 e5.extBut D.TOi2.symm D.l2TO
  have zl : z < g5.objs.size := Heap.lt_size z5
  have tl : TO < g5.objs.size := Heap.lt_size t5
  show wpAny _ _ (Builtin.SmallTypes.ownedTupleHandOut (.ref z) (.ref g5.objs.size) >>= _) _ _ _
  refine wpAny_bind ?_
  unfold Builtin.SmallTypes.ownedTupleHandOut
  have z6 : IsZipS (g5.push { cls := .type "tuple", data := .seq #[x, y] }) z TI TO .ellipsis := Heap.get?_push_of_some _ z5
  refine wpAny_bind (wpAny_setField_rec z6 (by simp) fun g7 z7 e7 => ?_)
  replace z7 : IsZipS g7 z TI TO (rawInt g5.objs.size) := z7
  refine wpAny_setField_rec z7 (by simp) fun g8 z8 e8 => ?_
  replace z8 : IsZipS g8 z TI TO (rawInt g5.objs.size) := z8
  have up : ∀ c o, c ≠ z → g5.get? c = some o → g8.get? c = some o := fun c o c1 q => e8.extBut _ _ c1 (e7.extBut _ _ c1 (Heap.get?_push_of_some _ q))
  have t8 : IsPair g8 g5.objs.size x y := e8.extBut _ _ (Nat.ne_of_gt zl) (e7.extBut _ _ (Nat.ne_of_gt zl) (Heap.get?_push_size _ rfl))
  rw [sz] at z8 t8
  refine wpAny_pure ⟨_, rfl, ?_⟩
  show Q (.ref g5.objs.size) _
  rw [sz]
  exact hQ g8 z8 (up _ _ D.TOz t5) (G1.at_ q1 (fun o => up _ o D.i1z) fun o => up _ o D.l1z) (G2.at_ q2 (fun o => up _ o D.i2z) fun o => up _ o D.l2z) t8 fun c o c1 c2 c3 c4 q => up c o c1 (f5 c o c1 c2 c3 c4 q)
theorem zs_end (hh : A.handled = none) (G1 : Gives prog w i1 l1 xs I1) (G2 : Gives prog w i2 l2 ys I2) (D : ZipApart z TI TO i1 i2 l1 l2) {a b : Value} {Q : Fin → Shared → Prop}
    (hz : IsZipS s.heap z TI TO .none) (hTI : IsPair s.heap TI (.ref i1) (.ref i2)) (hTO : IsPair s.heap TO a b) (h1 : I1 k s.heap) (h2 : I2 k s.heap) (hx : xs[k]? = none) (hy : ys[k]? = none)
    (hE : ∀ h' e, (∀ c o, c ≠ z → c ≠ TO → c ≠ i1 → c ≠ i2 → s.heap.get? c = some o → h'.get? c = some o) → (∃ o, h'.get? e = some o ∧ o.cls = .type "StopIteration") → E (.ref e) { s with heap := h' }) :
    wpAny (model prog w) A (Builtin.«zip.__next__» ⟨[.ref z], []⟩) Q E s := by
  show wpAny _ _ (field (.ref z) 2 >>= _) _ _ _
  refine wpAny_bind (wpAny_field hz rfl (x := .bool true) rfl ?_)
  show wpAny _ _ (field (.ref z) 3 >>= _) _ _ _
  refine wpAny_bind (wpAny_field hz rfl (x := .ref TI) rfl (wpAny_bind (wpAny_seqItems hTI rfl ?_)))
  show wpAny _ _ (Builtin.SmallTypes.ownedTupleIsFree (.ref z) >>= _) _ _ _
  refine wpAny_bind ?_
  unfold Builtin.SmallTypes.ownedTupleIsFree
  refine wpAny_bind (wpAny_field hz rfl (x := .none) rfl (wpAny_pure ?_))
  simp only [if_true]
  refine wpAny_bind (wpAny_rule (wpAny_bind (wpAny_field hz rfl (x := .ref TO) rfl (wpAny_bind (wpAny_setField_rec hz (by simp) fun g1 z1 e1 => ?_)))))
  replace z1 : IsZipS g1 z TI TO .ellipsis := z1
  refine wpAny_bind ?_
  simp only [List.zipIdx_cons, List.zipIdx_nil, List.forIn_cons, List.forIn_nil]
  refine wpAny_bind (wpAny_bind (wpAny_onRaise ?_))
  show wpAny _ _ (Builtin.SmallTypes.nextOrEnd (.ref i1)) _ _ _
  refine G1.stopE hh (G1.but h1 e1.extBut D.i1z D.l1z) hx fun g2 e2 => ?_
  have z2 : IsZipS g2 z TI TO .ellipsis := e2 _ _ D.i1z.symm z1
  refine wpAny_bind (wpAny_setField_rec z2 (by simp) fun g3 z3 e3 => ?_)
  refine wpAny_bind ?_
  show wpAny _ _ (forIn [((Value.ref i2), 1)] PUnit.unit _ >>= _) _ _ _
  refine wpAny_bind ?_
  simp only [List.forIn_cons, List.forIn_nil]
  refine wpAny_bind (wpAny_bind (G2.stopE (s := { s with heap := g3 }) hh (G2.but (G2.at_ (G2.but h2 e1.extBut D.i2z D.l2z) (fun o => e2 _ o D.i12.symm) fun o => e2 _ o D.l2i1) e3.extBut D.i2z D.l2z) hy fun g4 e4 => ?_))
  simp only [Option.isSome_none, Bool.false_eq_true, if_false]
  refine wpAny_pure ?_
  show wpAny _ _ (pure _) _ _ _
  refine wpAny_pure ?_
  refine wpAny_bind (wpAny_rule ?_)
  exact stop_raises hh fun h' e kk he => hE h' e (fun c o c1 c2 c3 c4 q => kk c o (e4 _ _ c4 (e3.extBut _ _ c1 (e2 _ _ c3 (e1.extBut _ _ c1 q))))) he
theorem pyNext_zs_item (G1 : Gives prog w i1 l1 xs I1) (G2 : Gives prog w i2 l2 ys I2) (D : ZipApart z TI TO i1 i2 l1 l2) {x y a b : Value} {Q : Option Value → Shared → Prop}
    (hz : IsZipS s.heap z TI TO .none) (hTI : IsPair s.heap TI (.ref i1) (.ref i2)) (hTO : IsPair s.heap TO a b) (h1 : I1 k s.heap) (h2 : I2 k s.heap) (hx : xs[k]? = some x) (hy : ys[k]? = some y)
    (hQ : ∀ h', IsZipS h' z TI TO (rawInt s.heap.objs.size) → IsPair h' TO x y → I1 (k + 1) h' → I2 (k + 1) h' → IsPair h' s.heap.objs.size x y →
      (∀ c o, c ≠ z → c ≠ TO → c ≠ i1 → c ≠ i2 → s.heap.get? c = some o → h'.get? c = some o) → Q (some (.ref s.heap.objs.size)) { s with heap := h' }) : wpAny (model prog w) A (pyNext (.ref z)) Q E s := by
  have hT : s.TypeIs (.ref z) "zip" := ⟨_, hz, rfl⟩
  unfold pyNext
  exact wpAny_bind (wpAny_attempt (wpAny_callSpecial?_slot (name := Str.ofString "__next__") hT F.slot_zip_next
    (wpAny_call_entry F.slot_zip_next hT F.entry_zip_next (zs_item G1 G2 D hz hTI hTO h1 h2 hx hy fun h' a1 a2 a3 a4 a5 a6 => wpAny_pure (hQ h' a1 a2 a3 a4 a5 a6)) (F.args_zip_next_1 _))))
theorem pyNext_zs_end (hh : A.handled = none) (G1 : Gives prog w i1 l1 xs I1) (G2 : Gives prog w i2 l2 ys I2) (D : ZipApart z TI TO i1 i2 l1 l2) {a b : Value} {Q : Option Value → Shared → Prop}
    (hz : IsZipS s.heap z TI TO .none) (hTI : IsPair s.heap TI (.ref i1) (.ref i2)) (hTO : IsPair s.heap TO a b) (h1 : I1 k s.heap) (h2 : I2 k s.heap) (hx : xs[k]? = none) (hy : ys[k]? = none)
    (hQ : ∀ h', (∀ c o, c ≠ z → c ≠ TO → c ≠ i1 → c ≠ i2 → s.heap.get? c = some o → h'.get? c = some o) → Q none { s with heap := h' }) : wpAny (model prog w) A (pyNext (.ref z)) Q E s := by
  have hT : s.TypeIs (.ref z) "zip" := ⟨_, hz, rfl⟩
  unfold pyNext
  refine wpAny_bind (wpAny_attempt (wpAny_callSpecial?_slot (name := Str.ofString "__next__") hT F.slot_zip_next
    (wpAny_call_entry F.slot_zip_next hT F.entry_zip_next (zs_end (show A.in1.handled = none from hh) G1 G2 D hz hTI hTO h1 h2 hx hy fun h' e hk he => ?_) (F.args_zip_next_1 _))))
  obtain ⟨o, ho, hc⟩ := he
  refine wpAny_bind (wpAny_isInstance (T := "StopIteration") (b := true) ⟨o, ho, hc⟩ isSubtype_stop ?_)
  exact wpAny_pure (hQ _ hk)
theorem own_go_zs {elts : List Expr} {x1} {pos : Pos} {Q : Unit → Shared → Prop} (hz : IsZipS s.heap z TI TO (rawInt T)) (hQ : ∀ h', IsZipS h' z TI TO .none → Heap.SameBut z s.heap h' → Q () { s with heap := h' }) :
    wpAny (model prog w) A (letOwnedTupleGo (.Tuple elts x1 pos) (.ref z) (.ref T)) Q E s := by
  unfold letOwnedTupleGo
  refine wpAny_bind (wpAny_load hz ?_)
  show wpAny _ _ (if (_ && (#[rawInt T, .bool false, .bool true, .ref TI, .ref TO] : Array Value)[0]? == some (rawInt T)) = true then _ else _) Q E s
  rw [if_pos (by simp)]
  refine wpAny_bind (wpAny_rule ?_)
  show wpAny _ _ (setField (.ref z) 0 .none) Q E s
  exact wpAny_setField_rec hz (by simp) fun h' hz' hs' => hQ h' hz' hs'
theorem pyIter_zs {f0 : Value} {Q : Value → Shared → Prop} (hz : IsZipS s.heap z TI TO f0) (h : Q (.ref z) s) : wpAny (model prog w) A (pyIter (.ref z)) Q E s := by
  have hT : s.TypeIs (.ref z) "zip" := ⟨_, hz, rfl⟩
  refine wpAny_pyIter_slot hT F.slot_zip_iter (wpAny_call_entry F.slot_zip_iter hT F.entry_zip_iter ?_ (F.args_zip_iter_1 _))
  show wpAny _ _ (ret (.ref z)) _ _ s
  exact wpAny_pure ⟨_, rfl, "zip", _, hT, F.slot_zip_next.lookup, h⟩
end
abbrev kwS : List (Str × Value) := [(Str.ofString "strict", .bool true)]
abbrev sz1 (h : Heap) (l1 : Addr) : Heap := h.push { cls := .type "tuple_iterator", data := .fields #[.ref l1, .int 0 0] }
abbrev sz2 (h : Heap) (l1 l2 : Addr) : Heap := (sz1 h l1).push { cls := .type "list_iterator", data := .fields #[.ref l2, .int 0 0] }
abbrev sz3 (h : Heap) (l1 l2 : Addr) : Heap := (sz2 h l1 l2).push { cls := .type "tuple", data := .seq #[.ref h.objs.size, .ref (sz1 h l1).objs.size] }
abbrev sz4 (h : Heap) (l1 l2 : Addr) : Heap := (sz3 h l1 l2).push { cls := .type "tuple", data := .seq #[.none, .none] }
abbrev sz5 (h : Heap) (l1 l2 : Addr) : Heap := (sz4 h l1 l2).push { cls := .type "zip", data := .fields #[.none, .bool false, .bool true, .ref (sz2 h l1 l2).objs.size, .ref (sz3 h l1 l2).objs.size] }
theorem meets_zipS (l1 l2 : Addr) (xs ys : Array Value) :
    Meets (Builtin.«zip.__new__» ⟨[.type "zip", .ref l1, .ref l2], kwS⟩) (fun _ R s => s.heap.IsTuple l1 xs ∧ s.heap.IsList l2 ys ∧ R (.ok (.ret (.ref (sz4 s.heap l1 l2).objs.size))) { s with heap := sz5 s.heap l1 l2 }) :=
  .of_wp fun prog w A R s h => by
    obtain ⟨hp, g, d, tk, os⟩ := s
    obtain ⟨a1, a2, h⟩ := h
    have hsub := sub_zip
    have b1 : Heap.IsTuple (Shared.heap ⟨hp, g, d, tk, os⟩) l1 xs := a1
    have b2 : Heap.IsList (Shared.heap ⟨sz1 hp l1, g, d, tk, os⟩) l2 ys := Heap.IsList.push a2 _
    wp_walk using wpAny_pyIter_list b2, wpAny_pyIter_tuple b1
    exact ⟨_, rfl, h⟩
theorem nc_zipS (a b : Value) : checkBuiltinCall "zip.__new__" ⟨[.type "zip", a, b], kwS⟩ = pure () := by kernel_rfl
theorem ao_zipS (o a b : Value) : argsOk "object.__init__" ⟨[o, a, b], kwS⟩ := by
  unfold argsOk
  rw [signature?_of (id := "object.__init__") (n := ['_', '_', 't', 'i', 'n', 'i', '_', '_']) (o := ['t', 'c', 'e', 'j', 'b', 'o']) (by kernel_rfl) (by first | exact owner_object | exact F.owner_object)]
  kernel_rfl
theorem init_zipS (o : Value) (rest : List Value) : Meets (Builtin.«object.__init__» ⟨o :: rest, kwS⟩) (fun _ R s => s.TypeIs o "zip" ∧ R (.ok (.ret .none)) s) := by
  refine Meets.of_wp fun prog w A R s hs => ?_
  obtain ⟨hT, hq⟩ := hs
  have hl := F.called_zip.init.lookup
  have hm := F.called_zip.made
  have hne : (some "zip.__new__" != some "object.__new__") = true := by decide
  repeat (any_goals (first | assumption | wp_step))
  all_goals exact ⟨_, rfl, hq⟩
section
variable {prog : Program} {w : World} {A : Around} {E : Value → Shared → Prop} {s : Shared} {l1 l2 : Addr} {xs ys : Array Value} {Q : Value → Shared → Prop}
theorem call_zipS0 (a1 : s.heap.IsTuple l1 xs) (a2 : s.heap.IsList l2 ys) (h : Q (.ref (sz4 s.heap l1 l2).objs.size) { s with heap := sz5 s.heap l1 l2 }) : wpAny (model prog w) A (call (.type "zip") [.ref l1, .ref l2] kwS) Q E s := by
  have ft := F.called_zip
  obtain ⟨c, tl, hmro⟩ := ft.mro
  have hmade := ft.made
  have hsub := ft.sub
  refine wpAny_call (codeAny_of_tree ?_)
  show wpAny _ _ (callAny (.type "zip") _) _ _ _
  refine wpAny_pure ⟨Code.quiet_builtin _ (by decide +kernel), codeAny_builtin F.entry_type_call ?_⟩
  rw [Around.under_plain (weight_type_call_type "zip" _ kwS) (units_type_call_type "zip" _ kwS)]
  have h1 := ft.notType
  have h2 := ft.canCreate
  repeat (any_goals (first | assumption | wp_step))
  refine codeAny_mono (codeAny_call_builtin ft.plain F.entry_zip_new (wpAny_of_eq (nc_zipS _ _) (meets_zipS l1 l2 xs ys prog w A.in1 (wants (fun obj s₁ => s₁.TypeIs obj "zip" ∧ ∃ a, obj = .ref a ∧ Q obj s₁) E) s ⟨a1, a2, ⟨_, Heap.get?_push_size _ rfl, rfl⟩, _, rfl, h⟩))) fun r s₁ hr => ?_
  cases r with
  | error e => exact hr
  | ok fl =>
    cases fl with
    | ret obj =>
      obtain ⟨hT, oa, rfl, hq⟩ := hr
      have hli := ft.init.lookup
      have hbi := ft.init.bind (.ref oa)
      repeat (any_goals (first | assumption | wp_step))
      refine codeAny_mono (codeAny_call_builtin ft.init.plain F.entry_object_init (ft.init.check _ _ _ _ _ _ _ _ hT (ao_zipS _ _ _) (init_zipS _ _ prog w A.in1 (wants (fun r s₂ => r = .none ∧ Q (.ref oa) s₂) E) s₁ ⟨hT, rfl, hq⟩))) fun r₂ s₂ hr₂ => ?_
      cases r₂ with
      | error e => exact hr₂
      | ok fl₂ =>
        cases fl₂ with
        | ret r =>
          obtain ⟨rfl, hq⟩ := hr₂
          repeat (any_goals (first | assumption | wp_step))
        | _ => exact hr₂.elim
    | _ => exact hr.elim
end
end DL
set_option maxRecDepth 100000
set_option maxHeartbeats 4000000
namespace DL
open PySem PySem.Spec PyProof.Rows L2
section
variable {prog : Program} {w : World} {A : Around} {E : Value → Shared → Prop} {s : Shared} {l1 l2 : Addr} {xs ys : Array Value} {Q : Value → Shared → Prop}
theorem call_zipS (a1 : s.heap.IsTuple l1 xs) (a2 : s.heap.IsList l2 ys)
    (h : ∀ h', IsZipS h' (s.heap.objs.size + 4) (s.heap.objs.size + 2) (s.heap.objs.size + 3) .none → IsPair h' (s.heap.objs.size + 2) (.ref s.heap.objs.size) (.ref (s.heap.objs.size + 1)) →
      IsPair h' (s.heap.objs.size + 3) .none .none → h'.IsTupleIter s.heap.objs.size l1 0 → h'.IsListIter (s.heap.objs.size + 1) l2 0 → h'.objs.size = s.heap.objs.size + 5 →
      (∀ c o, s.heap.get? c = some o → h'.get? c = some o) → Q (.ref (s.heap.objs.size + 4)) { s with heap := h' }) :
    wpAny (model prog w) A (call (.type "zip") [.ref l1, .ref l2] kwS) Q E s := by
  refine call_zipS0 a1 a2 ?_
  have n1 : (sz1 s.heap l1).objs.size = s.heap.objs.size + 1 := Heap.size_push ..
  have n2 : (sz2 s.heap l1 l2).objs.size = s.heap.objs.size + 2 := by rw [Heap.size_push, n1]
  have n3 : (sz3 s.heap l1 l2).objs.size = s.heap.objs.size + 3 := by rw [Heap.size_push, n2]
  have n4 : (sz4 s.heap l1 l2).objs.size = s.heap.objs.size + 4 := by rw [Heap.size_push, n3]
  have n5 : (sz5 s.heap l1 l2).objs.size = s.heap.objs.size + 5 := by rw [Heap.size_push, n4]
  have u5 : ∀ {c o}, (sz4 s.heap l1 l2).get? c = some o → (sz5 s.heap l1 l2).get? c = some o := Heap.get?_push_of_some _
  have u4 : ∀ {c o}, (sz3 s.heap l1 l2).get? c = some o → (sz5 s.heap l1 l2).get? c = some o := fun q => u5 (Heap.get?_push_of_some _ q)
  have u3 : ∀ {c o}, (sz2 s.heap l1 l2).get? c = some o → (sz5 s.heap l1 l2).get? c = some o := fun q => u4 (Heap.get?_push_of_some _ q)
  have u2 : ∀ {c o}, (sz1 s.heap l1).get? c = some o → (sz5 s.heap l1 l2).get? c = some o := fun q => u3 (Heap.get?_push_of_some _ q)
  have g5 : (sz5 s.heap l1 l2).get? (sz4 s.heap l1 l2).objs.size = some _ := Heap.get?_push_size _ rfl
  have g4 : (sz5 s.heap l1 l2).get? (sz3 s.heap l1 l2).objs.size = some _ := u5 (Heap.get?_push_size _ rfl)
  have g3 : (sz5 s.heap l1 l2).get? (sz2 s.heap l1 l2).objs.size = some _ := u4 (Heap.get?_push_size _ rfl)
  have g2 : (sz5 s.heap l1 l2).get? (sz1 s.heap l1).objs.size = some _ := u3 (Heap.get?_push_size _ rfl)
  have g1 : (sz5 s.heap l1 l2).get? s.heap.objs.size = some _ := u2 (Heap.get?_push_size _ rfl)
  rw [n2, n3, n4] at g5
  rw [n1, n2] at g3
  rw [n3] at g4
  rw [n1] at g2
  rw [n4]
  exact h _ g5 g3 g4 ⟨_, g1, rfl, rfl⟩ ⟨_, g2, rfl, rfl⟩ n5 fun c o q => u2 (Heap.get?_push_of_some _ q)
end
def ItzS (K : PySem.W.Frag) (a b : Addr) : It :=
  ⟨fun i H => ∃ (xs ys : List V) (x y : V), SqT K H a xs ∧ SqL K H b ys ∧ xs[i]? = some x ∧ ys[i]? = some y,
    fun i H v H' => ∃ T x y, v = .ref T ∧ H T = none ∧ H' = upd H T (.tup [x, y]) ∧ (∀ xs, SqT K H a xs → xs[i]? = some x) ∧ ∀ ys, SqL K H b ys → ys[i]? = some y,
    fun i H => ∃ xs ys : List V, SqT K H a xs ∧ SqL K H b ys ∧ xs.length = i ∧ ys.length = i⟩
theorem turn_zipS {P : Program} {w : World} {K : PySem.W.Frag} {elts : List Expr} {kk : Nat} {tpos : Pos} {a b z TI TO i1 i2 : Addr} (D : ZipApart z TI TO i1 i2 a b) :
    Turn P w K (.Tuple elts kk tpos) (ItzS K a b) [z, TI, TO, i1, i2] z (fun i h => IsZipS h z TI TO .none ∧ IsPair h TI (.ref i1) (.ref i2) ∧ (∃ x y, IsPair h TO x y) ∧ h.IsTupleIter i1 a i ∧ h.IsListIter i2 b i) where
  mem := by simp
  obj := fun i h st c hc => by
    obtain ⟨hz, hTI, ⟨x, y, hTO⟩, ⟨o1, e1, _, d1⟩, ⟨o2, e2, _, d2⟩⟩ := st
    have e' : c = z ∨ c = TI ∨ c = TO ∨ c = i1 ∨ c = i2 := by simpa using hc
    rcases e' with q | q | q | q | q
    · rw [q]; exact ⟨_, hz, fun v q => nomatch q⟩
    · rw [q]; exact ⟨_, hTI, fun v q => nomatch q⟩
    · rw [q]; exact ⟨_, hTO, fun v q => nomatch q⟩
    · rw [q]; exact ⟨o1, e1, fun v q => by rw [d1] at q; cases q⟩
    · rw [q]; exact ⟨o2, e2, fun v q => by rw [d2] at q; cases q⟩
  keep := fun i h h' st k => by
    obtain ⟨hz, hTI, ⟨x, y, hTO⟩, h1, h2⟩ := st
    exact ⟨k z (by simp) _ hz, k TI (by simp) _ hTI, ⟨x, y, k TO (by simp) _ hTO⟩, h1.at fun o q => k i1 (by simp) o q, h2.at fun o q => k i2 (by simp) o q⟩
  item := by
    intro X hP hw hK hc i pins s σ H E I hf st hg
    subst hP hw hK
    obtain ⟨hz, hTI, ⟨x0, y0, hTO⟩, h1, h2⟩ := st
    obtain ⟨xs, ys, x, y, hqx, hqy, hx, hy⟩ := hg
    obtain ⟨its, rv, p, _⟩ := I.tuple hqx
    obtain ⟨its2, rv2, p2, _⟩ := I.list hqy
    obtain ⟨u, hu, ru⟩ := rv.get hx
    obtain ⟨u2, hu2, ru2⟩ := rv2.get hy
    have hzl : z < s.heap.objs.size := Heap.lt_size hz
    have pt : s.heap.IsTuple a its.toArray := p
    refine pyNext_zs_item (gives_tup (xs := its.toArray) D.l1i1) (gives_list (xs := its2.toArray) D.l2i2) D hz hTI hTO ⟨h1, pt⟩ ⟨h2, p2.isList⟩ (x := u) (y := u2) (by simpa using hu) (by simpa using hu2) fun h' z' TO' h1' h2' hT hk => ?_
    refine ⟨_, rfl, own_go_zs (s := { s with heap := h' }) z' fun h'' z'' sb => ?_⟩
    have hT2 : h''.get? s.heap.objs.size = some { cls := .type "tuple", data := .seq #[u, u2] } := (sb.2 _ (Nat.ne_of_gt hzl)).trans hT
    have new : ObjOk X.prog X.w (upd H s.heap.objs.size (.tup [x, y])) h'' s.heap.objs.size (.tup [x, y]) :=
      ⟨by show 2 ≤ sizeLine; decide, [u, u2], .cons ru (.cons ru2 .nil), ⟨_, hT2, rfl, _, rfl⟩⟩
    have I1 : Inv X pins σ (upd H s.heap.objs.size (.tup [x, y])) { s with heap := h'' } :=
      I.turnedNew (t' := s.toks) (ch := [z, TI, TO, i1, i2]) (fun c o hb q => (sb.2 c (fun q' => hb (by simp [q']))).trans (hk c o (fun q' => hb (by simp [q'])) (fun q' => hb (by simp [q'])) (fun q' => hb (by simp [q'])) (fun q' => hb (by simp [q'])) q)) hf (Nat.le_refl _) new
    refine ⟨.ref s.heap.objs.size, _, I1, rfl, ⟨_, x, y, rfl, I.hok.fresh (Nat.le_refl _), rfl, fun l hl => by rw [I.tuple_inj hl hqx]; exact hx, fun l hl => by rw [I.list_inj hl hqy]; exact hy⟩, ⟨z'', ?_, ⟨u, u2, ?_⟩, ?_, ?_⟩, fun c hcm => ?_⟩
    · exact (sb.2 _ D.TIz).trans (hk _ _ D.TIz D.TITO D.TIi1 D.TIi2 hTI)
    · exact (sb.2 _ D.TOz).trans TO'
    · exact h1'.1.at fun o q => (sb.2 _ D.i1z).trans q
    · exact h2'.1.at fun o q => (sb.2 _ D.i2z).trans q
    · have hlt : c < s.heap.objs.size := by
        have e' : c = z ∨ c = TI ∨ c = TO ∨ c = i1 ∨ c = i2 := by simpa using hcm
        rcases e' with q | q | q | q | q
        · rw [q]; exact hzl
        · rw [q]; exact Heap.lt_size hTI
        · rw [q]; exact Heap.lt_size hTO
        · rw [q]; obtain ⟨_, e1, _⟩ := h1; exact Heap.lt_size e1
        · rw [q]; obtain ⟨_, e2, _⟩ := h2; exact Heap.lt_size e2
      rw [upd_ne (Nat.ne_of_lt hlt)]
      exact (hf c hcm).1
  done := by
    intro X hP hw hK hc i pins s σ H E I hf st hg
    subst hP hw hK
    obtain ⟨hz, hTI, ⟨x0, y0, hTO⟩, h1, h2⟩ := st
    obtain ⟨xs, ys, hqx, hqy, e1, e2⟩ := hg
    obtain ⟨its, rv, p, _⟩ := I.tuple hqx
    obtain ⟨its2, rv2, p2, _⟩ := I.list hqy
    have l1 := rv.length
    have l2 := rv2.length
    have pt : s.heap.IsTuple a its.toArray := p
    exact pyNext_zs_end (I.ok.hd hc) (gives_tup (xs := its.toArray) D.l1i1) (gives_list (xs := its2.toArray) D.l2i2) D hz hTI hTO ⟨h1, pt⟩ ⟨h2, p2.isList⟩ (by simp; omega) (by simp; omega) fun h' hk => ⟨rfl, I.turnedL (t' := s.toks) (ch := [z, TI, TO, i1, i2]) (fun c o hb q =>
      hk c o (fun q' => hb (by simp [q'])) (fun q' => hb (by simp [q'])) (fun q' => hb (by simp [q'])) (fun q' => hb (by simp [q'])) q) hf⟩
  self := fun A i s Q E st h => pyIter_zs st.1 h
theorem callWith_typeK {M : Model} {A : Around} {E : Value → Shared → Prop} {s : Shared} {pos : Pos} {T : String} {first : List Value} {args : List (Bool × Sem Value)} {keywords : List (Option Str × Sem Value)} {Q : Value → Shared → Prop}
    (hplain : args.any (·.1) = false) (hkw : keywords.any (·.1.isNone) = false)
    (h : wpAny M A (evalArgs (.type T) true args keywords) (fun a s₁ => wpAny M A (call (.type T) (first ++ a.pos) a.kw) Q E s₁) E s) :
    wpAny M A (callWith pos (.type T) first args keywords) Q E s := by
  unfold callWith
  refine wpAny_bind (wpAny_holding (wpAny_mono h (fun a s₁ h₁ => wpAny_bind (wpAny_standAt ?_)) fun _ _ x => x))
  simp only [hplain, hkw, Bool.or_false]
  refine wpAny_bind (wpAny_pure ?_)
  exact wpAny_bind (wpAny_mono h₁ (fun r s₂ hr => wpAny_bind (wpAny_holding (wpAny_point (wpAny_pure hr)))) fun _ _ x => x)
def iZipS (K : PySem.W.Frag) (ta : TA) : TI := fun σ H R => ta σ H fun vs H1 => ∃ a b xs ys, vs = [.ref a, .ref b] ∧ SqT K H1 a xs ∧ SqL K H1 b ys ∧ R (ItzS K a b) H1
theorem pi_zipS {X : Cx} {e e2 : Expr} {ta : TA} {p pos tpos cp kp : Pos} {k0 : Nat} {elts : List Expr} {kk : Nat} (hg : Gl X "zip") (hm : X.mg "zip" = none) (ha : PA X [e, e2] ta)
    (hs : starEach [e, e2] X.env = (false, eval e X.env) :: starEach [e2] X.env := by rfl) (hpl : (backTo pos (starEach [e2] X.env)).any (·.1) = false := by rfl) :
    PI X (.Tuple elts kk tpos) (.Call (.Name "zip" p) [e, e2] [⟨some "strict", .Constant (.bool true) k0 cp, kp⟩] pos) (iZipS X.K ta) := by
  refine ⟨fun pins s σ H R I h => ?_⟩
  refine wpAny_Call_Name_kw (ld_blt I hg hm PyProof.Rows.boot_zip ?_)
  refine callWith_typeK (by rw [hs]; exact hpl) rfl ?_
  have hall : (backToKw pos (keywordEach [⟨some (Str.ofString "strict"), Expr.Constant (Const.bool true) k0 cp, kp⟩] X.env)).all (·.1.isSome) = true := rfl
  have hr := thn (ha.run pos pins s σ H _ I h) (Q' := fun us s1 => wpAny (model X.prog X.w) X.A (evalAll ((backToKw pos (keywordEach [⟨some (Str.ofString "strict"), Expr.Constant (Const.bool true) k0 cp, kp⟩] X.env)).map (·.2))) (fun kvs s2 => wpAny (model X.prog X.w) X.A (call (.type "zip") us (((backToKw pos (keywordEach [⟨some (Str.ofString "strict"), Expr.Constant (Const.bool true) k0 cp, kp⟩] X.env)).filterMap (·.1)).zip kvs)) (fun v s1 => wpAny (model X.prog X.w) X.A (pyIter v) (PIE X pins σ (Expr.Tuple elts kk tpos) R) X.xe s1) X.xe s2) X.xe s1) fun us s1 ⟨vs, H1, I1, r1, q1⟩ => ?_
  · rw [hs] at hr ⊢
    exact evalArgs_kwB hall hr
  obtain ⟨a, b, xs, ys, ex, hqx, hqy, q⟩ := q1
  subst ex
  cases r1 with
  | cons r rr =>
    cases rr with
    | cons r' rr =>
      cases rr
      cases r
      cases r'
      show wpAny _ _ (evalAll [do let v ← eval (Expr.Constant (Const.bool true) k0 cp) X.env; standAt pos; pure v]) _ _ _
      refine wpAny_evalAll_cons (wpAny_bind ?_)
      refine Constant_bool ?_
      refine wpAny_bind (wpAny_standAt (wpAny_pure ?_))
      refine wpAny_evalAll_nil ?_
      show wpAny _ _ (call (.type "zip") [.ref a, .ref b] kwS) _ _ _
      obtain ⟨its, rv, p1, _⟩ := I1.tuple hqx
      obtain ⟨its2, rv2, p2, _⟩ := I1.list hqy
      have pt : s1.heap.IsTuple a its.toArray := p1
      refine call_zipS pt p2.isList fun h' hz hTI hTO h1 h2 hsz hk => pyIter_zs hz ?_
      have I2 : Inv X pins σ H1 { s1 with heap := h' } := I1.kept (t' := s1.toks) hk
      obtain ⟨o1, ho1, _⟩ := id pt
      refine ⟨s1.heap.objs.size + 4, [s1.heap.objs.size + 4, s1.heap.objs.size + 2, s1.heap.objs.size + 3, s1.heap.objs.size, s1.heap.objs.size + 1], _, _, H1, rfl, I2, turn_zipS (PySem.W.ktu_apart s1.heap.objs.size a b (Heap.lt_size ho1) p2.lt), ⟨hz, hTI, ⟨_, _, hTO⟩, h1, h2⟩, fun c hcm => ?_, q⟩
      have e' : c = s1.heap.objs.size + 4 ∨ c = s1.heap.objs.size + 2 ∨ c = s1.heap.objs.size + 3 ∨ c = s1.heap.objs.size ∨ c = s1.heap.objs.size + 1 := by simpa using hcm
      have hle : s1.heap.objs.size ≤ c := by
        rcases e' with z | z | z | z | z
        · rw [z]; exact Nat.le_add_right _ _
        · rw [z]; exact Nat.le_add_right _ _
        · rw [z]; exact Nat.le_add_right _ _
        · rw [z]; exact Nat.le_refl _
        · rw [z]; exact Nat.le_add_right _ _
      exact I1.fpOk hle (I1.hok.fresh hle)
theorem itd_zipS {K : PySem.W.Frag} {M : Mm} {H : Hp} {a b : Addr} {xs ys : List V} {ds es : List D} (n : ¬ M.Has a) (ha : TupAt H a xs ds) (q : RDs M H xs ds) (n' : ¬ M.Has b) (hb : H b = some (.lst ys)) (q' : RDs M H ys es) (hl : ds.length = es.length) (ok : zipOk ds es = true) : ItD M H (ItzS K a b) (zipD ds es) := fun M1 H1 x tr => by
  have ha1 := (ha.to fun _ z => x.st n z).sq (K := K)
  have hb1 := x.st n' hb
  refine ⟨fun i d e => ?_, ⟨xs, ys, ha1, .of hb1, by rw [q.length, zipD_len, ← hl, Nat.min_self], by rw [q'.length, zipD_len, ← hl, Nat.min_self]⟩⟩
  obtain ⟨d1, d2, e1, e2, rfl⟩ := zipD_get e
  obtain ⟨v, ev, rv⟩ := (q.mono x).get e1
  obtain ⟨v', ev', rv'⟩ := (q'.mono x).get e2
  refine ⟨⟨xs, ys, v, v', ha1, .of hb1, ev, ev'⟩, fun y H2 hy => ?_⟩
  obtain ⟨T, z, z', rfl, nT, rfl, hz, hz'⟩ := hy
  have t1 := hz xs ha1
  rw [ev] at t1; cases t1
  have t2 := hz' ys (.of hb1)
  rw [ev'] at t2; cases t2
  exact ⟨same_new nT, .tup (fun z => new_out tr nT z) (.inl ⟨zipOk_get ok e, upd_same⟩) (.cons (rv.mono (grow_ext (same_new nT))) (.cons (rv'.mono (grow_ext (same_new nT))) .nil))⟩
end DL
set_option maxRecDepth 100000
set_option maxHeartbeats 4000000
namespace DL
open PySem PySem.Spec PyProof.Rows L2
end DL
set_option maxRecDepth 100000
set_option maxHeartbeats 400000
namespace DL
open PySem PySem.Spec PyProof.Rows L2
def isVal : D → Bool
  | .none => false
  | _ => true
section
variable {X : Cx}
def tupRW (ws : List W) (h : Hh) : Option (W × Hh) := match ws with
  | [w] => match deref h w with
    | some (.list ds) => some (.row ds, h)
    | _ => none
  | _ => none
theorem s_tupR : SemA (rTupB X.K) tupRW := by
  intro M H h vs ws Q rep rv c
  unfold tupRW at c
  split at c
  · obtain ⟨v, rfl, r⟩ := rvs1 rv
    split at c
    · rename_i ds e
      obtain ⟨a, xs, rfl, ha, q⟩ := deref_rr rep r e
      exact ⟨a, xs, rfl, .inl ⟨.of ha, true, fun l o nl ho => c.fin (ext_new nl) (rep.upd_new nl) ⟨l, o, xs, rfl, rep.new nl, ho, upd_same, q.mono (ext_new nl).ext⟩⟩⟩
    · exact c.no.elim
  · exact c.no.elim
theorem d_tupR {e : Expr} {p pos : Pos} {g : AM} (hm : X.mg "tuple" = none) (ha : DA X [e] g) (hg : Gl X "tuple" := by rfl) (he : starEach [e] X.env = (false, eval e X.env) :: starEach [] X.env := by rfl) (hpl : (backTo pos (starEach [] X.env)).any (·.1) = false := by rfl) : DE X (.Call (.Name "tuple" p) [e] [] pos) (fA tupRW g) :=
  d_callT call_tupB s_tupR hm bt_tuple ha hg (by decide) (by decide) he hpl
def fAsT (f : EM) : EM := fun ρ h => obnd (f ρ h) fun w h1 => match w with
  | .row ds => some (.dat (.tuple ds), h1)
  | w => some (w, h1)
theorem d_asT {e : Expr} {f : EM} (he : DE X e f) : DE X e (fAsT f) := he.weak fun σ H Q => by
  rintro ⟨M, h, ρ, r, rs, c⟩
  obtain ⟨w, h1, e1, c1⟩ := Cont.bind (δ := Unit) c
  refine ⟨M, h, ρ, r, rs, w, h1, e1, fun M1 H1 v x1 r1 v1 => ?_⟩
  have c2 := c1 M1 H1 x1
  cases w with
  | row ds =>
    obtain ⟨a, o, xs, rfl, na, od, oa, q⟩ := v1
    exact c2.here r1 (RD.tup na (.inr ⟨trivial, o, od, oa⟩) q)
  | dat d => exact (show Cont RV (some (W.dat d, h1)) M1 H1 Q from c2).fin (ExtE.refl M1 H1) r1 v1
  | ref n => exact (show Cont RV (some (W.ref n, h1)) M1 H1 Q from c2).fin (ExtE.refl M1 H1) r1 v1
  | scr ns => exact (show Cont RV (some (W.scr ns, h1)) M1 H1 Q from c2).fin (ExtE.refl M1 H1) r1 v1
  | pack its => exact (show Cont RV (some (W.pack its, h1)) M1 H1 Q from c2).fin (ExtE.refl M1 H1) r1 v1
  | lock es => exact (show Cont RV (some (W.lock es, h1)) M1 H1 Q from c2).fin (ExtE.refl M1 H1) r1 v1
  | ins C fs => exact (show Cont RV (some (W.ins C fs, h1)) M1 H1 Q from c2).fin (ExtE.refl M1 H1) r1 v1
  | exc k C fs => exact (show Cont RV (some (W.exc k C fs, h1)) M1 H1 Q from c2).fin (ExtE.refl M1 H1) r1 v1
def isRow (w : W) (h : Hh) : Bool := match w with
  | .row _ => true
  | _ => false
def indexR (w : W) (ws : List W) (h : Hh) : Option (W × Hh) := match w, ws with
  | .row ds, [.dat (.str z)] => match rowS ds with
    | some l => if z ∈ l then ok (.int (l.idxOf z)) h else none
    | none => none
  | _, _ => none
theorem d_indexR {o e : Expr} {apos cpos : Pos} {f : EM} {g : AM} (ho : DE X o f) (ha : DA X [e] g) (hb : attributeBase o "index" X.env (eval o X.env) = eval o X.env := by rfl)
    (hf : ((backTo cpos (starEach [e] X.env)).all (fun x => !x.1) && (backToKw cpos (keywordEach [] X.env)).all (fun x => x.1.isSome) && decide (([e] : List Expr).length + ([] : List Keyword).length + (if ([] : List Keyword).isEmpty then 0 else 1) < 30)) = true := by rfl)
    (hl : (apos.endLine == cpos.line) = true := by rfl) (hs : starEach [e] X.env = [(false, eval e X.env)] := by rfl) : DE X (.Call (.Attribute o "index" apos) [e] [] cpos) (fM isRow indexR f g) :=
  (pe_bt (r := rIxT X.K) PySem.F.slot_tuple_index PySem.F.type_tuple_index mt_tup_index ho ha hb hf hl hs).weak fun σ H Q => by
    rintro ⟨M, h, ρ, r, rs, c⟩
    obtain ⟨w, h1, e1, c1⟩ := Cont.bind (δ := Unit) c
    refine ⟨M, h, ρ, r, rs, w, h1, e1, fun M1 H1 v x1 r1 v1 => ?_⟩
    have c2 := c1 M1 H1 x1
    split at c2
    · rename_i ht
      cases w with
      | row ds =>
        obtain ⟨a, ob, xs, rfl, na, z1, z2, qa⟩ := v1
        refine ⟨⟨a, ob, xs, rfl, z1, z2⟩, M1, h1, ρ, r1, rs.mono x1, ?_⟩
        obtain ⟨w2, h2, e2, c3⟩ := Cont.bind (δ := Unit) c2
        refine ⟨w2, h2, e2, fun M2 H2 v2 x2 r2 q2 => ?_⟩
        have c4 := c3 M2 H2 x2
        have hb' : H2 a = some (.frz ob (.tup xs)) := x2.ext.st na z2
        have qb := RDs.mono x2.ext qa
        unfold indexR at c4
        split at c4
        · rename_i ds' z hq
          cases hq
          obtain ⟨y, rfl, ry⟩ := rvs1 q2
          split at c4
          · rename_i l hl'
            split at c4
            · rename_i hm
              have := rowS_map hl'
              subst this
              have := rds_strs qb
              subst this
              obtain ⟨f1, f2⟩ := first_at hm
              cases (show RD M2 H2 y (.str z) from ry)
              exact ⟨a, l, z, _, rfl, rfl, .inl (.inr ⟨ob, hb'⟩), f1, f2, c4.here r2 (.int _)⟩
            · exact c4.no.elim
          · exact c4.no.elim
        · exact c4.no.elim
      | _ => cases ht
    · exact c2.no.elim
end
end DL
set_option maxRecDepth 100000
set_option maxHeartbeats 400000
namespace DL
open PySem PySem.Spec PyProof.Rows L2
section
variable {prog : Program} {w : World} {A : Around} {E : Value → Shared → Prop} {s : Shared}
theorem min_at {l : Addr} {vs : Array Value} {x : D} {xs : List D} {as : List Addr} {Q : Value → Shared → Prop} (hh : A.handled = none) (hl : s.heap.IsList l vs) (hr : ReadsAll s.heap vs.toList (x :: xs) as) (ha : PySem.W.AlikeAll (x :: xs)) (hu : A.units + 1 + PyData.depthAll (x :: xs) < cLine)
    (h : ∀ (i : Nat) (v : Value) (h' : Heap) (tk : Nat), vs[i]? = some v → (x :: xs).getD i .none = PySem.W.minD x xs → (∀ b o, s.heap.get? b = some o → h'.get? b = some o) → Q v { s with heap := h', toks := tk }) : wpAny (model prog w) A (call (.builtin "min") [.ref l]) Q E s := by
  have hn : vs.size = xs.length + 1 := PySem.W.readsAll_len hr
  refine call_min_walkH (PySem.W.iter_listW (A := A.in1) hh hl fun s2 e wk st hfp hw hk => ⟨_, _, _, _, _, _, _, s.heap, _, rfl, wk, st, hfp, by omega, hw, hk, PySem.W.cmpIn_lt (A := A.in1) hr ha (by show A.units + 1 + _ < _; exact hu), fun v s' hP m => ?_⟩)
  obtain ⟨h', tk, rfl, hk'⟩ := PySem.W.moved_old e rfl m
  have e1 : vs.size - 1 = xs.length := by omega
  have e2 := (PySem.W.argBest_fold PySem.W.dataLt PyData.none x xs xs.length (Nat.le_refl _)).2
  rw [List.take_length] at e2
  rw [e1] at hP
  exact h _ v h' tk hP (by unfold PySem.W.minD; exact e2) hk'
end
def rMinD (K : PySem.W.Frag) : List V → Hp → VK → Prop := fun vs H Q => ∃ (a : Addr) (bs : List (V × D)) (d0 : D) (ds : List D), vs = [.ref a] ∧ SqL K H a (bs.map (·.1)) ∧ (∀ b ∈ bs, Dp K H b.1 b.2) ∧ bs.map (·.2) = d0 :: ds ∧ PySem.W.AlikeAll (d0 :: ds) ∧ PyData.depthAll (d0 :: ds) ≤ 64 ∧ ∀ b ∈ bs, b.2 = PySem.W.minD d0 ds → Q b.1 H
theorem dpAll_of {K : PySem.W.Frag} {H : Hp} : ∀ {bs : List (V × D)}, (∀ b ∈ bs, Dp K H b.1 b.2) → DpAll K H (bs.map (·.1)) (bs.map (·.2))
  | [], _ => .nil
  | b :: bs, q => .cons (q b List.mem_cons_self) (dpAll_of fun c hc => q c (List.mem_cons_of_mem _ hc))
section
variable {X : Cx}
theorem cr_minD {k : Nat} (hr : RG k X.A) : CallR X (.builtin "min") (rMinD X.K) := by
  intro pins s σ H vs us Q I rv q
  obtain ⟨a, bs, d0, ds, rfl, hs, hd, hb, hal, hdep, q⟩ := q
  obtain rfl := Vals.ref1 rv
  obtain ⟨its, vl, pl, hz⟩ := I.list hs
  obtain ⟨as, ra⟩ := Dp.readsAll I _ _ its (dpAll_of hd) vl
  rw [hb] at ra
  have hu := hr.room.un
  refine min_at (vs := its.toArray) hr.room.hd pl.isList ra hal (by omega) fun i v h' tk hv e kp => ?_
  have hv' : its[i]? = some v := by simpa using hv
  have li : i < bs.length := by
    have h1 := (List.getElem?_eq_some_iff.mp hv').1
    have h2 := vl.length
    rw [List.length_map] at h2
    omega
  obtain ⟨u, e1, r1⟩ := Vals.get (i := i) (x := bs[i].1) vl (by rw [List.getElem?_map, List.getElem?_eq_getElem li]; rfl)
  rw [hv'] at e1
  cases e1
  have e2 : bs[i].2 = PySem.W.minD d0 ds := by
    rw [← e, ← hb, List.getD_eq_getElem?_getD, List.getElem?_map, List.getElem?_eq_getElem li]; rfl
  exact ⟨bs[i].1, H, I.kept (t' := tk) kp, r1, q _ (List.getElem_mem li) e2⟩
def minDW (ws : List W) (h : Hh) : Option (W × Hh) := match ws with
  | [w] => match deref h w with
    | some (.list (d :: ds)) => if (((d :: ds).all fun x => (d :: ds).all fun y => PySem.W.alike x y) && ((d :: ds).all isVal && (d :: ds).all shp)) = true then ok (PySem.W.minD d ds) h else none
    | _ => none
  | _ => none
theorem depthAll_le : ∀ {ds : List D}, (∀ d ∈ ds, shp d = true) → PyData.depthAll ds ≤ 64
  | [], _ => by simp [PyData.depthAll]
  | d :: ds, h => by
    have h1 := SeqAt.depth_of_shaped (h d List.mem_cons_self)
    have h2 := depthAll_le (ds := ds) fun e he => h e (List.mem_cons_of_mem _ he)
    rw [PyData.depthAll]
    omega
theorem s_minD : SemA (rMinD X.K) minDW := by
  intro M H h vs ws Q rep rv c
  unfold minDW at c
  split at c
  · obtain ⟨v, rfl, r⟩ := rvs1 rv
    split at c
    · rename_i d ds e
      obtain ⟨a, xs, rfl, ha, q⟩ := deref_rr rep r e
      split at c
      · rename_i hz
        simp only [Bool.and_eq_true, List.all_eq_true] at hz
        obtain ⟨z1, z2, z3⟩ := hz
        obtain ⟨bs, rfl, hb, qb⟩ := rds_zip q
        refine ⟨a, bs, d, ds, rfl, .of ha, fun b hb' => RD.dp (qb b hb') (SeqAt.canLay_of_shaped (z3 _ (by rw [hb]; exact List.mem_map.mpr ⟨b, hb', rfl⟩))), hb.symm, ⟨fun x hx y hy => z1 x hx y hy, fun x hx e => ?_⟩, depthAll_le z3, fun b hb' e => ?_⟩
        · have := z2 x hx
          rw [e] at this
          cases this
        · exact c.here rep (e ▸ qb b hb')
      · exact c.no.elim
    · exact c.no.elim
  · exact c.no.elim
theorem d_minD {k : Nat} (hr : RG k X.A) {e : Expr} {p pos : Pos} {g : AM} (hm : X.mg "min" = none) (ha : DA X [e] g) (hg : Gl X "min" := by rfl) (he : starEach [e] X.env = (false, eval e X.env) :: starEach [] X.env := by rfl) (hpl : (backTo pos (starEach [] X.env)).any (·.1) = false := by rfl) : DE X (.Call (.Name "min" p) [e] [] pos) (fA minDW g) :=
  d_callB (cr_minD hr) s_minD hm (by decide +kernel) ha hg (by decide) (by decide) he hpl
def indexI (w : W) (ws : List W) (h : Hh) : Option (W × Hh) := match deref h w, ws with
  | some (.list ds), [.dat (.int z)] => match intsD ds with
    | some ns => if z ∈ ns then ok (.int (ns.idxOf z)) h else none
    | none => none
  | _, _ => none
theorem first_atI {l : List Int} {z : Int} (h : z ∈ l) : l[l.idxOf z]? = some z ∧ ∀ m : Nat, m < l.idxOf z → l[m]? ≠ some z := by
  have h1 := List.idxOf_lt_length_of_mem h
  refine ⟨by rw [List.getElem?_eq_getElem h1, List.getElem_idxOf h1], fun m hm e => ?_⟩
  obtain ⟨h2, e2⟩ := List.getElem?_eq_some_iff.mp e
  have := List.not_of_lt_findIdx (p := (· == z)) (xs := l) (i := m) hm
  simp [e2] at this
theorem s_indexI : SemM (rIndex X.K) indexI := by
  intro M H h x w vs ws Q rep rx rv c
  unfold indexI at c
  split at c
  · rename_i ds wz z e
    obtain ⟨a, xs, rfl, ha, q⟩ := deref_rr rep rx e
    obtain ⟨y, rfl, ry⟩ := rvs1 rv
    cases (show RD M H y (.int z) from ry)
    split at c
    · rename_i ns el
      split at c
      · rename_i hm
        have := rds_ints q el
        subst this
        obtain ⟨f1, f2⟩ := first_atI hm
        refine ⟨a, _, _, ns.idxOf z, .int z, rfl, rfl, .of ha, rfl, ?_, by rw [List.getElem?_map, f1]; rfl, by simp [eqV], fun m z' hm' ez => ?_, c.here rep (.int _)⟩
        · rw [List.all_eq_true]
          intro d hd
          obtain ⟨i, _, rfl⟩ := List.mem_map.mp hd
          rfl
        · rw [List.getElem?_map] at ez
          obtain ⟨i, es, rfl⟩ := Option.map_eq_some_iff.mp ez
          have ne : i ≠ z := fun q => f2 m hm' (by rw [es, q])
          simp [eqV, ne]
      · exact c.no.elim
    · exact c.no.elim
  · exact c.no.elim
end
end DL
set_option maxRecDepth 100000
set_option maxHeartbeats 4000000
namespace DL
open PySem PySem.Spec PyProof.Rows L2
abbrev lz1 (h : Heap) (l1 : Addr) : Heap := h.push { cls := .type "list_iterator", data := .fields #[.ref l1, .int 0 0] }
abbrev lz2 (h : Heap) (l1 l2 : Addr) : Heap := (lz1 h l1).push { cls := .type "list_iterator", data := .fields #[.ref l2, .int 0 0] }
abbrev lz3 (h : Heap) (l1 l2 : Addr) : Heap := (lz2 h l1 l2).push { cls := .type "tuple", data := .seq #[.ref h.objs.size, .ref (lz1 h l1).objs.size] }
abbrev lz4 (h : Heap) (l1 l2 : Addr) : Heap := (lz3 h l1 l2).push { cls := .type "tuple", data := .seq #[.none, .none] }
abbrev lz5 (h : Heap) (l1 l2 : Addr) : Heap := (lz4 h l1 l2).push { cls := .type "zip", data := .fields #[.none, .bool false, .bool true, .ref (lz2 h l1 l2).objs.size, .ref (lz3 h l1 l2).objs.size] }
theorem meets_zipL2 (l1 l2 : Addr) (xs ys : Array Value) :
    Meets (Builtin.«zip.__new__» ⟨[.type "zip", .ref l1, .ref l2], kwS⟩) (fun _ R s => s.heap.IsList l1 xs ∧ s.heap.IsList l2 ys ∧ R (.ok (.ret (.ref (lz4 s.heap l1 l2).objs.size))) { s with heap := lz5 s.heap l1 l2 }) :=
  .of_wp fun prog w A R s h => by
    obtain ⟨hp, g, d, tk, os⟩ := s
    obtain ⟨a1, a2, h⟩ := h
    have hsub := sub_zip
    have b1 : Heap.IsList (Shared.heap ⟨hp, g, d, tk, os⟩) l1 xs := a1
    have b2 : Heap.IsList (Shared.heap ⟨lz1 hp l1, g, d, tk, os⟩) l2 ys := Heap.IsList.push a2 _
    wp_walk using wpAny_pyIter_list b2, wpAny_pyIter_list b1
    exact ⟨_, rfl, h⟩
section
variable {prog : Program} {w : World} {A : Around} {E : Value → Shared → Prop} {s : Shared} {l1 l2 : Addr} {xs ys : Array Value} {Q : Value → Shared → Prop}
theorem call_zipL20 (a1 : s.heap.IsList l1 xs) (a2 : s.heap.IsList l2 ys) (h : Q (.ref (lz4 s.heap l1 l2).objs.size) { s with heap := lz5 s.heap l1 l2 }) : wpAny (model prog w) A (call (.type "zip") [.ref l1, .ref l2] kwS) Q E s := by
  have ft := F.called_zip
  obtain ⟨c, tl, hmro⟩ := ft.mro
  have hmade := ft.made
  have hsub := ft.sub
  refine wpAny_call (codeAny_of_tree ?_)
  show wpAny _ _ (callAny (.type "zip") _) _ _ _
  refine wpAny_pure ⟨Code.quiet_builtin _ (by decide +kernel), codeAny_builtin F.entry_type_call ?_⟩
  rw [Around.under_plain (weight_type_call_type "zip" _ kwS) (units_type_call_type "zip" _ kwS)]
  have h1 := ft.notType
  have h2 := ft.canCreate
  repeat (any_goals (first | assumption | wp_step))
  refine codeAny_mono (codeAny_call_builtin ft.plain F.entry_zip_new (wpAny_of_eq (nc_zipS _ _) (meets_zipL2 l1 l2 xs ys prog w A.in1 (wants (fun obj s₁ => s₁.TypeIs obj "zip" ∧ ∃ a, obj = .ref a ∧ Q obj s₁) E) s ⟨a1, a2, ⟨_, Heap.get?_push_size _ rfl, rfl⟩, _, rfl, h⟩))) fun r s₁ hr => ?_
  cases r with
  | error e => exact hr
  | ok fl =>
    cases fl with
    | ret obj =>
      obtain ⟨hT, oa, rfl, hq⟩ := hr
      have hli := ft.init.lookup
      have hbi := ft.init.bind (.ref oa)
      repeat (any_goals (first | assumption | wp_step))
      refine codeAny_mono (codeAny_call_builtin ft.init.plain F.entry_object_init (ft.init.check _ _ _ _ _ _ _ _ hT (ao_zipS _ _ _) (init_zipS _ _ prog w A.in1 (wants (fun r s₂ => r = .none ∧ Q (.ref oa) s₂) E) s₁ ⟨hT, rfl, hq⟩))) fun r₂ s₂ hr₂ => ?_
      cases r₂ with
      | error e => exact hr₂
      | ok fl₂ =>
        cases fl₂ with
        | ret r =>
          obtain ⟨rfl, hq⟩ := hr₂
          repeat (any_goals (first | assumption | wp_step))
        | _ => exact hr₂.elim
    | _ => exact hr.elim
end
section
variable {prog : Program} {w : World} {A : Around} {E : Value → Shared → Prop} {s : Shared} {l1 l2 : Addr} {xs ys : Array Value} {Q : Value → Shared → Prop}
theorem call_zipL2 (a1 : s.heap.IsList l1 xs) (a2 : s.heap.IsList l2 ys)
    (h : ∀ h', IsZipS h' (s.heap.objs.size + 4) (s.heap.objs.size + 2) (s.heap.objs.size + 3) .none → IsPair h' (s.heap.objs.size + 2) (.ref s.heap.objs.size) (.ref (s.heap.objs.size + 1)) →
      IsPair h' (s.heap.objs.size + 3) .none .none → h'.IsListIter s.heap.objs.size l1 0 → h'.IsListIter (s.heap.objs.size + 1) l2 0 → h'.objs.size = s.heap.objs.size + 5 →
      (∀ c o, s.heap.get? c = some o → h'.get? c = some o) → Q (.ref (s.heap.objs.size + 4)) { s with heap := h' }) :
    wpAny (model prog w) A (call (.type "zip") [.ref l1, .ref l2] kwS) Q E s := by
  refine call_zipL20 a1 a2 ?_
  have n1 : (lz1 s.heap l1).objs.size = s.heap.objs.size + 1 := Heap.size_push ..
  have n2 : (lz2 s.heap l1 l2).objs.size = s.heap.objs.size + 2 := by rw [Heap.size_push, n1]
  have n3 : (lz3 s.heap l1 l2).objs.size = s.heap.objs.size + 3 := by rw [Heap.size_push, n2]
  have n4 : (lz4 s.heap l1 l2).objs.size = s.heap.objs.size + 4 := by rw [Heap.size_push, n3]
  have n5 : (lz5 s.heap l1 l2).objs.size = s.heap.objs.size + 5 := by rw [Heap.size_push, n4]
  have u5 : ∀ {c o}, (lz4 s.heap l1 l2).get? c = some o → (lz5 s.heap l1 l2).get? c = some o := Heap.get?_push_of_some _
  have u4 : ∀ {c o}, (lz3 s.heap l1 l2).get? c = some o → (lz5 s.heap l1 l2).get? c = some o := fun q => u5 (Heap.get?_push_of_some _ q)
  have u3 : ∀ {c o}, (lz2 s.heap l1 l2).get? c = some o → (lz5 s.heap l1 l2).get? c = some o := fun q => u4 (Heap.get?_push_of_some _ q)
  have u2 : ∀ {c o}, (lz1 s.heap l1).get? c = some o → (lz5 s.heap l1 l2).get? c = some o := fun q => u3 (Heap.get?_push_of_some _ q)
  have g5 : (lz5 s.heap l1 l2).get? (lz4 s.heap l1 l2).objs.size = some _ := Heap.get?_push_size _ rfl
  have g4 : (lz5 s.heap l1 l2).get? (lz3 s.heap l1 l2).objs.size = some _ := u5 (Heap.get?_push_size _ rfl)
  have g3 : (lz5 s.heap l1 l2).get? (lz2 s.heap l1 l2).objs.size = some _ := u4 (Heap.get?_push_size _ rfl)
  have g2 : (lz5 s.heap l1 l2).get? (lz1 s.heap l1).objs.size = some _ := u3 (Heap.get?_push_size _ rfl)
  have g1 : (lz5 s.heap l1 l2).get? s.heap.objs.size = some _ := u2 (Heap.get?_push_size _ rfl)
  rw [n2, n3, n4] at g5
  rw [n1, n2] at g3
  rw [n3] at g4
  rw [n1] at g2
  rw [n4]
  exact h _ g5 g3 g4 ⟨_, g1, rfl, rfl⟩ ⟨_, g2, rfl, rfl⟩ n5 fun c o q => u2 (Heap.get?_push_of_some _ q)
end
def ItzL2 (K : PySem.W.Frag) (a b : Addr) : It :=
  ⟨fun i H => ∃ (xs ys : List V) (x y : V), SqL K H a xs ∧ SqL K H b ys ∧ xs[i]? = some x ∧ ys[i]? = some y,
    fun i H v H' => ∃ T x y, v = .ref T ∧ H T = none ∧ H' = upd H T (.tup [x, y]) ∧ (∀ xs, SqL K H a xs → xs[i]? = some x) ∧ ∀ ys, SqL K H b ys → ys[i]? = some y,
    fun i H => ∃ xs ys : List V, SqL K H a xs ∧ SqL K H b ys ∧ xs.length = i ∧ ys.length = i⟩
theorem turn_zipL2 {P : Program} {w : World} {K : PySem.W.Frag} {elts : List Expr} {kk : Nat} {tpos : Pos} {a b z TI TO i1 i2 : Addr} (D : ZipApart z TI TO i1 i2 a b) :
    Turn P w K (.Tuple elts kk tpos) (ItzL2 K a b) [z, TI, TO, i1, i2] z (fun i h => IsZipS h z TI TO .none ∧ IsPair h TI (.ref i1) (.ref i2) ∧ (∃ x y, IsPair h TO x y) ∧ h.IsListIter i1 a i ∧ h.IsListIter i2 b i) where
  mem := by simp
  obj := fun i h st c hc => by
    obtain ⟨hz, hTI, ⟨x, y, hTO⟩, ⟨o1, e1, _, d1⟩, ⟨o2, e2, _, d2⟩⟩ := st
    have e' : c = z ∨ c = TI ∨ c = TO ∨ c = i1 ∨ c = i2 := by simpa using hc
    rcases e' with q | q | q | q | q
    · rw [q]; exact ⟨_, hz, fun v q => nomatch q⟩
    · rw [q]; exact ⟨_, hTI, fun v q => nomatch q⟩
    · rw [q]; exact ⟨_, hTO, fun v q => nomatch q⟩
    · rw [q]; exact ⟨o1, e1, fun v q => by rw [d1] at q; cases q⟩
    · rw [q]; exact ⟨o2, e2, fun v q => by rw [d2] at q; cases q⟩
  keep := fun i h h' st k => by
    obtain ⟨hz, hTI, ⟨x, y, hTO⟩, h1, h2⟩ := st
    exact ⟨k z (by simp) _ hz, k TI (by simp) _ hTI, ⟨x, y, k TO (by simp) _ hTO⟩, h1.at fun o q => k i1 (by simp) o q, h2.at fun o q => k i2 (by simp) o q⟩
  item := by
    intro X hP hw hK hc i pins s σ H E I hf st hg
    subst hP hw hK
    obtain ⟨hz, hTI, ⟨x0, y0, hTO⟩, h1, h2⟩ := st
    obtain ⟨xs, ys, x, y, hqx, hqy, hx, hy⟩ := hg
    obtain ⟨its, rv, p, _⟩ := I.list hqx
    obtain ⟨its2, rv2, p2, _⟩ := I.list hqy
    obtain ⟨u, hu, ru⟩ := rv.get hx
    obtain ⟨u2, hu2, ru2⟩ := rv2.get hy
    have hzl : z < s.heap.objs.size := Heap.lt_size hz
    have pt : s.heap.IsList a its.toArray := p.isList
    refine pyNext_zs_item (gives_list (xs := its.toArray) D.l1i1) (gives_list (xs := its2.toArray) D.l2i2) D hz hTI hTO ⟨h1, pt⟩ ⟨h2, p2.isList⟩ (x := u) (y := u2) (by simpa using hu) (by simpa using hu2) fun h' z' TO' h1' h2' hT hk => ?_
    refine ⟨_, rfl, own_go_zs (s := { s with heap := h' }) z' fun h'' z'' sb => ?_⟩
    have hT2 : h''.get? s.heap.objs.size = some { cls := .type "tuple", data := .seq #[u, u2] } := (sb.2 _ (Nat.ne_of_gt hzl)).trans hT
    have new : ObjOk X.prog X.w (upd H s.heap.objs.size (.tup [x, y])) h'' s.heap.objs.size (.tup [x, y]) :=
      ⟨by show 2 ≤ sizeLine; decide, [u, u2], .cons ru (.cons ru2 .nil), ⟨_, hT2, rfl, _, rfl⟩⟩
    have I1 : Inv X pins σ (upd H s.heap.objs.size (.tup [x, y])) { s with heap := h'' } :=
      I.turnedNew (t' := s.toks) (ch := [z, TI, TO, i1, i2]) (fun c o hb q => (sb.2 c (fun q' => hb (by simp [q']))).trans (hk c o (fun q' => hb (by simp [q'])) (fun q' => hb (by simp [q'])) (fun q' => hb (by simp [q'])) (fun q' => hb (by simp [q'])) q)) hf (Nat.le_refl _) new
    refine ⟨.ref s.heap.objs.size, _, I1, rfl, ⟨_, x, y, rfl, I.hok.fresh (Nat.le_refl _), rfl, fun l hl => by rw [I.list_inj hl hqx]; exact hx, fun l hl => by rw [I.list_inj hl hqy]; exact hy⟩, ⟨z'', ?_, ⟨u, u2, ?_⟩, ?_, ?_⟩, fun c hcm => ?_⟩
    · exact (sb.2 _ D.TIz).trans (hk _ _ D.TIz D.TITO D.TIi1 D.TIi2 hTI)
    · exact (sb.2 _ D.TOz).trans TO'
    · exact h1'.1.at fun o q => (sb.2 _ D.i1z).trans q
    · exact h2'.1.at fun o q => (sb.2 _ D.i2z).trans q
    · have hlt : c < s.heap.objs.size := by
        have e' : c = z ∨ c = TI ∨ c = TO ∨ c = i1 ∨ c = i2 := by simpa using hcm
        rcases e' with q | q | q | q | q
        · rw [q]; exact hzl
        · rw [q]; exact Heap.lt_size hTI
        · rw [q]; exact Heap.lt_size hTO
        · rw [q]; obtain ⟨_, e1, _⟩ := h1; exact Heap.lt_size e1
        · rw [q]; obtain ⟨_, e2, _⟩ := h2; exact Heap.lt_size e2
      rw [upd_ne (Nat.ne_of_lt hlt)]
      exact (hf c hcm).1
  done := by
    intro X hP hw hK hc i pins s σ H E I hf st hg
    subst hP hw hK
    obtain ⟨hz, hTI, ⟨x0, y0, hTO⟩, h1, h2⟩ := st
    obtain ⟨xs, ys, hqx, hqy, e1, e2⟩ := hg
    obtain ⟨its, rv, p, _⟩ := I.list hqx
    obtain ⟨its2, rv2, p2, _⟩ := I.list hqy
    have l1 := rv.length
    have l2 := rv2.length
    have pt : s.heap.IsList a its.toArray := p.isList
    exact pyNext_zs_end (I.ok.hd hc) (gives_list (xs := its.toArray) D.l1i1) (gives_list (xs := its2.toArray) D.l2i2) D hz hTI hTO ⟨h1, pt⟩ ⟨h2, p2.isList⟩ (by simp; omega) (by simp; omega) fun h' hk => ⟨rfl, I.turnedL (t' := s.toks) (ch := [z, TI, TO, i1, i2]) (fun c o hb q =>
      hk c o (fun q' => hb (by simp [q'])) (fun q' => hb (by simp [q'])) (fun q' => hb (by simp [q'])) (fun q' => hb (by simp [q'])) q) hf⟩
  self := fun A i s Q E st h => pyIter_zs st.1 h
def iZipL2 (K : PySem.W.Frag) (ta : TA) : TI := fun σ H R => ta σ H fun vs H1 => ∃ a b xs ys, vs = [.ref a, .ref b] ∧ SqL K H1 a xs ∧ SqL K H1 b ys ∧ R (ItzL2 K a b) H1
theorem pi_zipL2 {X : Cx} {e e2 : Expr} {ta : TA} {p pos tpos cp kp : Pos} {k0 : Nat} {elts : List Expr} {kk : Nat} (hg : Gl X "zip") (hm : X.mg "zip" = none) (ha : PA X [e, e2] ta)
    (hs : starEach [e, e2] X.env = (false, eval e X.env) :: starEach [e2] X.env := by rfl) (hpl : (backTo pos (starEach [e2] X.env)).any (·.1) = false := by rfl) :
    PI X (.Tuple elts kk tpos) (.Call (.Name "zip" p) [e, e2] [⟨some "strict", .Constant (.bool true) k0 cp, kp⟩] pos) (iZipL2 X.K ta) := by
  refine ⟨fun pins s σ H R I h => ?_⟩
  refine wpAny_Call_Name_kw (ld_blt I hg hm PyProof.Rows.boot_zip ?_)
  refine callWith_typeK (by rw [hs]; exact hpl) rfl ?_
  have hall : (backToKw pos (keywordEach [⟨some (Str.ofString "strict"), Expr.Constant (Const.bool true) k0 cp, kp⟩] X.env)).all (·.1.isSome) = true := rfl
  have hr := thn (ha.run pos pins s σ H _ I h) (Q' := fun us s1 => wpAny (model X.prog X.w) X.A (evalAll ((backToKw pos (keywordEach [⟨some (Str.ofString "strict"), Expr.Constant (Const.bool true) k0 cp, kp⟩] X.env)).map (·.2))) (fun kvs s2 => wpAny (model X.prog X.w) X.A (call (.type "zip") us (((backToKw pos (keywordEach [⟨some (Str.ofString "strict"), Expr.Constant (Const.bool true) k0 cp, kp⟩] X.env)).filterMap (·.1)).zip kvs)) (fun v s1 => wpAny (model X.prog X.w) X.A (pyIter v) (PIE X pins σ (Expr.Tuple elts kk tpos) R) X.xe s1) X.xe s2) X.xe s1) fun us s1 ⟨vs, H1, I1, r1, q1⟩ => ?_
  · rw [hs] at hr ⊢
    exact evalArgs_kwB hall hr
  obtain ⟨a, b, xs, ys, ex, hqx, hqy, q⟩ := q1
  subst ex
  cases r1 with
  | cons r rr =>
    cases rr with
    | cons r' rr =>
      cases rr
      cases r
      cases r'
      show wpAny _ _ (evalAll [do let v ← eval (Expr.Constant (Const.bool true) k0 cp) X.env; standAt pos; pure v]) _ _ _
      refine wpAny_evalAll_cons (wpAny_bind ?_)
      refine Constant_bool ?_
      refine wpAny_bind (wpAny_standAt (wpAny_pure ?_))
      refine wpAny_evalAll_nil ?_
      show wpAny _ _ (call (.type "zip") [.ref a, .ref b] kwS) _ _ _
      obtain ⟨its, rv, p1, _⟩ := I1.list hqx
      obtain ⟨its2, rv2, p2, _⟩ := I1.list hqy
      have pt : s1.heap.IsList a its.toArray := p1.isList
      refine call_zipL2 pt p2.isList fun h' hz hTI hTO h1 h2 hsz hk => pyIter_zs hz ?_
      have I2 : Inv X pins σ H1 { s1 with heap := h' } := I1.kept (t' := s1.toks) hk
      obtain ⟨o1, ho1, _⟩ := id pt
      refine ⟨s1.heap.objs.size + 4, [s1.heap.objs.size + 4, s1.heap.objs.size + 2, s1.heap.objs.size + 3, s1.heap.objs.size, s1.heap.objs.size + 1], _, _, H1, rfl, I2, turn_zipL2 (PySem.W.ktu_apart s1.heap.objs.size a b (Heap.lt_size ho1) p2.lt), ⟨hz, hTI, ⟨_, _, hTO⟩, h1, h2⟩, fun c hcm => ?_, q⟩
      have e' : c = s1.heap.objs.size + 4 ∨ c = s1.heap.objs.size + 2 ∨ c = s1.heap.objs.size + 3 ∨ c = s1.heap.objs.size ∨ c = s1.heap.objs.size + 1 := by simpa using hcm
      have hle : s1.heap.objs.size ≤ c := by
        rcases e' with z | z | z | z | z
        · rw [z]; exact Nat.le_add_right _ _
        · rw [z]; exact Nat.le_add_right _ _
        · rw [z]; exact Nat.le_add_right _ _
        · rw [z]; exact Nat.le_refl _
        · rw [z]; exact Nat.le_add_right _ _
      exact I1.fpOk hle (I1.hok.fresh hle)
theorem itd_zipL2 {K : PySem.W.Frag} {M : Mm} {H : Hp} {a b : Addr} {xs ys : List V} {ds es : List D} (n : ¬ M.Has a) (ha : H a = some (.lst xs)) (q : RDs M H xs ds) (n' : ¬ M.Has b) (hb : H b = some (.lst ys)) (q' : RDs M H ys es) (hl : ds.length = es.length) (ok : zipOk ds es = true) : ItD M H (ItzL2 K a b) (zipD ds es) := fun M1 H1 x tr => by
  have ha1 : SqL K _ a xs := .of (x.st n ha)
  have hb1 := x.st n' hb
  refine ⟨fun i d e => ?_, ⟨xs, ys, ha1, .of hb1, by rw [q.length, zipD_len, ← hl, Nat.min_self], by rw [q'.length, zipD_len, ← hl, Nat.min_self]⟩⟩
  obtain ⟨d1, d2, e1, e2, rfl⟩ := zipD_get e
  obtain ⟨v, ev, rv⟩ := (q.mono x).get e1
  obtain ⟨v', ev', rv'⟩ := (q'.mono x).get e2
  refine ⟨⟨xs, ys, v, v', ha1, .of hb1, ev, ev'⟩, fun y H2 hy => ?_⟩
  obtain ⟨T, z, z', rfl, nT, rfl, hz, hz'⟩ := hy
  have t1 := hz xs ha1
  rw [ev] at t1; cases t1
  have t2 := hz' ys (.of hb1)
  rw [ev'] at t2; cases t2
  exact ⟨same_new nT, .tup (fun z => new_out tr nT z) (.inl ⟨zipOk_get ok e, upd_same⟩) (.cons (rv.mono (grow_ext (same_new nT))) (.cons (rv'.mono (grow_ext (same_new nT))) .nil))⟩
def zipSS (g : AM) : IM := fun ρ h => obnd (g ρ h) fun ws h1 => match ws with
  | [.dat (.tuple ds), .dat (.list es)] => if ds.length = es.length ∧ zipOk ds es = true then some (zipD ds es, h1) else none
  | [.dat (.list ds), .dat (.list es)] => if ds.length = es.length ∧ zipOk ds es = true then some (zipD ds es, h1) else none
  | _ => none
theorem di_zipSS {X : Cx} (hm : X.mg "zip" = none) {e e2 : Expr} {elts : List Expr} {kk : Nat} {p pos tpos cp kp : Pos} {k0 : Nat} {g : AM} (ha : DA X [e, e2] g) (hg : Gl X "zip" := by rfl) (hs : starEach [e, e2] X.env = (false, eval e X.env) :: starEach [e2] X.env := by rfl) (hpl : (backTo pos (starEach [e2] X.env)).any (·.1) = false := by rfl) :
    DI X (.Tuple elts kk tpos) (.Call (.Name "zip" p) [e, e2] [⟨some "strict", .Constant (.bool true) k0 cp, kp⟩] pos) (zipSS g) := ((pi_zipS hg hm ha hs hpl).or (pi_zipL2 hg hm ha hs hpl)).weak fun σ H R => by
  rintro ⟨M, h, ρ, ds, h', r, rs, e, q⟩
  unfold zipSS at e
  cases ef : g ρ h with
  | none => rw [ef] at e; cases e
  | some p =>
    obtain ⟨ws, h1⟩ := p
    rw [ef] at e
    simp only [obnd_some] at e
    split at e
    · split at e
      rotate_left
      · cases e
      rename_i ok
      cases e
      refine .inl ⟨M, h, ρ, r, rs, _, _, ef, fun M1 H1 v x1 r1 v1 => ?_⟩
      obtain ⟨v, v', rfl, rv, rv'⟩ := rvs2 v1
      cases (show RD M1 H1 v _ from rv) with
      | tup n ha qa =>
        cases (show RD M1 H1 v' _ from rv') with
        | lst n' hb qb => exact ⟨_, _, _, _, rfl, TupAt.sq ha, .of hb, q M1 H1 _ x1 r1 (itd_zipS n ha qa n' hb qb ok.1 ok.2)⟩
    · split at e
      rotate_left
      · cases e
      rename_i ok
      cases e
      refine .inr ⟨M, h, ρ, r, rs, _, _, ef, fun M1 H1 v x1 r1 v1 => ?_⟩
      obtain ⟨v, v', rfl, rv, rv'⟩ := rvs2 v1
      cases (show RD M1 H1 v _ from rv) with
      | lst n ha qa =>
        cases (show RD M1 H1 v' _ from rv') with
        | lst n' hb qb => exact ⟨_, _, _, _, rfl, .of ha, .of hb, q M1 H1 _ x1 r1 (itd_zipL2 n ha qa n' hb qb ok.1 ok.2)⟩
    · cases e
end DL
set_option maxRecDepth 100000
namespace DL
open PySem L2
noncomputable def m_places_of : FM := fnM false 1 3 (sRet (fDc false (enumA (fCons (fVar 0) (fNil))) (gT 2 (gC (gN 1) (gC (gN 2) (gE)))) (bYes) (fVar 2) (fVar 1) [1, 2]))
noncomputable def m_look_alike : FM := fnM false 2 2 (sIf (fB (f2 (eqW true) (fA (sortW false) (fCons (fVar 0) (fNil))) (fA (sortW false) (fCons (fVar 1) (fNil))))) (sNever) (sSkip))
noncomputable def m_place_of : FM := fnM false 2 3 (sSeq (sAsg (fA (m_places_of) (fCons (fVar 0) (fNil))) (gN 2))
    (sSeq (sIf (fB (f2 (inW true) (fVar 1) (fVar 2))) (sNever) (sSkip))
    (sRet (f2 idxW (fVar 2) (fVar 1)))))
noncomputable def m_falls : FM := fnM false 2 6 (sSeq (sExpr (fA (m_look_alike) (fCons (fVar 0) (fCons (fVar 1) (fNil)))))
    (sSeq (sAsg (fLc false (seqI (fVar 1)) (gN 3) (bYes) (fA (m_place_of) (fCons (fVar 0) (fCons (fVar 3) (fNil)))) [3]) (gN 2))
    (sRet (fA lenW (fCons (fLc false (zipI (fCons (fVar 2) (fCons (fSl false (fVar 2) (oSome (fC (.int 1))) (oNone)) (fNil)))) (gT 2 (gC (gN 4) (gC (gN 5) (gE)))) (fB (f2 gt_W (fVar 4) (fVar 5))) (fVar 4) [4, 5]) (fNil))))))
noncomputable def m__law_box : FM := fnM true 2 3 (sSeq (sAsg (fC (.int 0)) (gN 2))
    (sSeq (sIf (fB (f2 lt_W (fVar 1) (fA lenW (fCons (fVar 0) (fNil))))) (sAsg (f2 idxW (fVar 0) (fVar 1)) (gN 2)) (sSkip))
    (sRet (fA (lstW true) (fCons (f2 (mulW false) (fA absW (fCons (fVar 2) (fNil))) (fA intC (fCons (f2 ge_W (fA absW (fCons (fVar 2) (fNil))) (f2 powW (fC (.int 10)) (fC (.int 18)))) (fNil)))) (fCons (f2 (addW false) (f2 (addW false) (f2 modW (fVar 2) (fC (.int 2147483629))) (f2 (mulW false) (fC (.int 7919)) (fVar 1))) (fC (.int 11))) (fCons (fC (.int 0)) (fNil))))))))
noncomputable def m__law_take : FM := fnM false 2 4 (sSeq (sIf (fB (f2 gt_W (f2 idxW (fVar 0) (fC (.int 0))) (fC (.int 0)))) (sSeq (sAsg (f2 modW (f2 idxW (fVar 0) (fC (.int 0))) (fVar 1)) (gN 3))
    (sSeq (sSub (f2 divW (f2 idxW (fVar 0) (fC (.int 0))) (fVar 1)) (fVar 0) (fC (.int 0)))
    (sRet (fVar 3)))) (sSkip))
    (sSeq (sSub (f2 (addW false) (f2 idxW (fVar 0) (fC (.int 2))) (fC (.int 1))) (fVar 0) (fC (.int 2)))
    (sSeq (sAsg (f2 modW (f2 powW (f2 (addW false) (f2 idxW (fVar 0) (fC (.int 1))) (f2 (mulW false) (fC (.int 39373)) (f2 idxW (fVar 0) (fC (.int 2))))) (fC (.int 5))) (fC (.int 2147483647))) (gN 2))
    (sRet (f2 modW (f2 divW (f2 modW (f2 (addW false) (f2 (mulW false) (fVar 2) (f2 (addW false) (f2 modW (fVar 2) (fC (.int 40009))) (fC (.int 7)))) (f2 (mulW false) (f2 idxW (fVar 0) (fC (.int 2))) (fC (.int 7919)))) (fC (.int 2147483629))) (fC (.int 64))) (fVar 1))))))
noncomputable def m__law_same : Nat → FM
  | 0 => fun _ _ => none
  | n + 1 => fnM false 2 4 (sSeq (sIf (fB (f1 (isiW ["list", "tuple"]) (fVar 1))) (sSeq (sIf (bOr (fB (f2 (eqW true) (f1 (isiW ["list"]) (fVar 0)) (f1 (isiW ["list"]) (fVar 1)))) (fB (f2 (eqW true) (f1 (isiW ["tuple"]) (fVar 0)) (f1 (isiW ["tuple"]) (fVar 1))))) (sRet (fC (.bool false))) (sSkip))
    (sSeq (sIf (fB (f2 (eqW true) (fA lenW (fCons (fVar 0) (fNil))) (fA lenW (fCons (fVar 1) (fNil))))) (sRet (fC (.bool false))) (sSkip))
    (sRet (fA allW (fCons (fLc false (zipI (fCons (fVar 0) (fCons (fVar 1) (fNil)))) (gT 2 (gC (gN 2) (gC (gN 3) (gE)))) (bYes) (fA (m__law_same n) (fCons (fVar 2) (fCons (fVar 3) (fNil)))) [2, 3]) (fNil)))))) (sSkip))
    (sSeq (sIf (bOr (fB (f2 (isW false) (fVar 1) (fC .none))) (fB (f1 (isiW ["str"]) (fVar 1)))) (sRet (fAnd (f2 (eqW false) (fVar 0) (fVar 1)) (f2 (eqW false) (f1 (isiW ["str"]) (fVar 0)) (f1 (isiW ["str"]) (fVar 1))))) (sSkip))
    (sRet (fAnd (f1 (isiW ["int"]) (fVar 0)) (fAnd (f2 (eqW false) (f1 (isiW ["bool"]) (fVar 0)) (f1 (isiW ["bool"]) (fVar 1))) (f2 (eqW false) (fVar 0) (fVar 1)))))))
end DL
namespace DL
open PySem L2
noncomputable def m_by_names : FM := fnM false 1 3 (sRet (fDc false (seqI (fVar 0)) (gT 2 (gC (gN 1) (gC (gN 2) (gE)))) (bYes) (fVar 1) (fVar 2) [1, 2]))
noncomputable def m__law_of : FM := fnM false 2 2 (sRet (f2 idxW (fVar 1) (fA (m__law_take) (fCons (fVar 0) (fCons (fA lenW (fCons (fVar 1) (fNil))) (fNil))))))
end DL
namespace DL
open PySem L2
noncomputable def m_ways_back : FM := fnM false 1 2 (sRet (fLc false (revI (fVar 0)) (gN 1) (bYes) (fA (m_by_names) (fCons (fVar 1) (fNil))) [1]))
end DL
namespace DL
open PySem L2
end DL
namespace DL
open PySem L2
noncomputable def m__law_folded : FM := fnM false 2 5 (sSeq (sAsg (fA (listW true) (fCons (fSl false (fVar 0) (oNone) (oSome (fVar 1))) (fNil))) (gN 2))
    (sSeq (sFor (enumA (fCons (fSl false (fVar 0) (oSome (fVar 1)) (oSome (fC (.int 63)))) (fNil))) (gT 2 (gC (gN 3) (gC (gN 4) (gE))))
    (sSub (f2 (addW false) (f2 idxW (fVar 2) (f2 modW (fVar 3) (fVar 1))) (f2 (mulW false) (fVar 4) (f2 (addW false) (fVar 3) (fC (.int 2))))) (fVar 2) (f2 modW (fVar 3) (fVar 1))))
    (sFrz 2 (sRet (fIf (fB (f2 (eqW true) (fVar 2) (fA (lstW false) (fNil)))) (fVar 2) (fA (lstW false) (fCons (fC (.int 0)) (fNil))))))))
noncomputable def m__law_called : FM := fnM false 2 6 (sSeq (sAsg (fA (dictA false) (fCons (fVar 1) (fNil))) (gN 2))
    (sSeq (sAsg (fA (lstW false) (fNil)) (gN 3))
    (sSeq (sFor (seqI (fVar 0)) (gN 4)
    (sAsg (f2 (addW false) (fVar 3) (fLc false (seqI (fVar 0)) (gN 5) (fB (f2 (eqW false) (f2 idxW (fVar 2) (fVar 5)) (fVar 4))) (fVar 5) [5])) (gN 3)))
    (sRet (fA tupleW (fCons (fVar 3) (fNil)))))))
noncomputable def m__law_pick : FM := fnM false 2 2 (sRet (f2 idxW (fVar 1) (fA (m__law_take) (fCons (fVar 0) (fCons (fA lenW (fCons (fVar 1) (fNil))) (fNil))))))
noncomputable def m__law_names : FM := fnM false 2 6 (sSeq (sPar (fCons (f2 (addW false) (fC (.int 1)) (fA (m__law_take) (fCons (fVar 0) (fCons (fVar 1) (fNil))))) (fCons (fA (lstW false) (fNil)) (fNil))) [2, 3])
    (sSeq (sWhile 100000 (fB (f2 lt_W (fA lenW (fCons (fVar 3) (fNil))) (fVar 2)))
    (sSeq (sAsg (fJoin (fC (.str "")) (fLc false (rng1I (fCons (f2 (addW false) (fC (.int 1)) (fA (m__law_take) (fCons (fVar 0) (fCons (fC (.int 3)) (fNil))))) (fNil))) (gN 5) (bYes) (fA (m__law_pick) (fCons (fVar 0) (fCons (fC (.str "abkmxz")) (fNil)))) [5])) (gN 4))
    (sAsg (fA (sortSW false) (fCons (f2 (addW false) (fVar 3) (fA (lstW false) (fCons (f2 (addW false) (fVar 4) (f2 idxW (fC (.str "abcdefghijklmnopqrstuvwx")) (fA lenW (fCons (fVar 3) (fNil))))) (fNil)))) (fNil))) (gN 3))))
    (sRet (fVar 3))))
end DL
namespace DL
open PySem L2
end DL
namespace DL
open PySem L2
end DL
set_option maxRecDepth 100000
namespace DL
open PySem L2
end DL
set_option maxRecDepth 100000
namespace DL
open PySem L2
end DL
set_option maxRecDepth 100000
namespace DL
open PySem L2
end DL
set_option maxRecDepth 100000
namespace DL
open PySem L2
end DL
set_option maxRecDepth 100000
namespace DL
open PySem L2
end DL
set_option maxRecDepth 100000
namespace DL
open PySem L2
end DL
set_option maxRecDepth 100000
namespace DL
open PySem L2
end DL
namespace DL
open PySem L2
end DL
namespace DL
open PySem L2
noncomputable def m_digits_wanted : FM := fnM false 2 4 (sSeq (sAsg (fA tupW (fCons (fC (.int 0)) (fCons (fC (.int 1)) (fNil)))) (gT 2 (gC (gN 2) (gC (gN 3) (gE)))))
    (sSeq (sWhile 100000 (fB (f2 lt_W (fVar 3) (fVar 0)))
    (sSeq (sAug gMul 3 (fVar 1))
    (sAug gAdd 2 (fC (.int 1)))))
    (sRet (fVar 2))))
noncomputable def m_fewest_calls : FM := fnM false 3 3 (sRet (fA (m_digits_wanted) (fCons (f2 (addW false) (fA (m_falls) (fCons (fVar 0) (fCons (fVar 1) (fNil)))) (fC (.int 1))) (fCons (fVar 2) (fNil)))))
end DL
namespace DL
open PySem L2
end DL
namespace DL
open PySem L2
end DL
namespace DL
open PySem L2
end DL
set_option maxRecDepth 100000
set_option maxHeartbeats 400000
namespace DL
open PySem L2
@[reducible] def Dm {α : Sort u} (_ : α) : Type := Unit
def ob {α β : Type} (k : α → Hh → Option (β × Hh)) (u : Dm k) (r : Option (α × Hh)) : Option (β × Hh) := obnd r k
theorem obnd_x {α β : Type} (r : Option (α × Hh)) (k : α → Hh → Option (β × Hh)) : obnd r k = ob k () r := rfl
theorem ob_some {α β : Type} (k : α → Hh → Option (β × Hh)) (u : Dm k) (a : α) (h : Hh) : ob k u (some (a, h)) = k a h := rfl
def sb {α : Type} (k : α → Hh → Option (Out × Hh)) (u : Dm k) (r : Option (α × Hh)) : Option (Out × Hh) := sbnd r k
theorem sbnd_x {α : Type} (r : Option (α × Hh)) (k : α → Hh → Option (Out × Hh)) : sbnd r k = sb k () r := rfl
theorem sb_some {α : Type} (k : α → Hh → Option (Out × Hh)) (u : Dm k) (a : α) (h : Hh) : sb k u (some (a, h)) = k a h := rfl
def seqK (g : SM) (u : Dm g) (r : Option (Out × Hh)) : Option (Out × Hh) := match r with
  | some (.nx ρ1, h1) => g ρ1 h1
  | r => r
theorem sSeq_e (f g : SM) (ρ : Env) (h : Hh) : sSeq f g ρ h = seqK g () (f ρ h) := rfl
theorem seqK_nx (g : SM) (u : Dm g) (ρ : Env) (h : Hh) : seqK g u (some (.nx ρ, h)) = g ρ h := rfl
theorem seqK_rt (g : SM) (u : Dm g) (w : W) (h : Hh) : seqK g u (some (.rt w, h)) = some (.rt w, h) := rfl
theorem seqK_bk (g : SM) (u : Dm g) (ρ : Env) (h : Hh) : seqK g u (some (.bk ρ, h)) = some (.bk ρ, h) := rfl
theorem seqK_ct (g : SM) (u : Dm g) (ρ : Env) (h : Hh) : seqK g u (some (.ct ρ, h)) = some (.ct ρ, h) := rfl
def frK (g : SM) (u : Dm g) (r : Option (Env × Hh)) : Option (Out × Hh) := match r with
  | some (ρ, h) => g ρ h
  | none => none
theorem sFrz_e (i : Nat) (f : SM) (ρ : Env) (h : Hh) : sFrz i f ρ h = frK f () (frz i ρ h) := rfl
theorem frK_some (g : SM) (u : Dm g) (ρ : Env) (h : Hh) : frK g u (some (ρ, h)) = g ρ h := rfl
theorem isR_ref (n m : Nat) : isR n (some (.ref m)) = decide (m = n) := rfl
theorem isR_dat (n : Nat) (d : D) : isR n (some (.dat d)) = false := rfl
theorem isR_scr (n : Nat) (d : List Int) : isR n (some (.scr d)) = false := rfl
theorem isR_none (n : Nat) : isR n none = false := rfl
def retK (rm : Bool) (h : Hh) (r : Option (Out × Hh)) : Option (W × Hh) := match r with
    | some (.rt w, h') => leave rm h w h'
    | some (.nx _, h') => leave rm h (.dat .none) h'
    | _ => none
theorem retK_rt (rm : Bool) (h : Hh) (w : W) (h' : Hh) : retK rm h (some (.rt w, h')) = leave rm h w h' := rfl
theorem retK_nx (rm : Bool) (h : Hh) (ρ : Env) (h' : Hh) : retK rm h (some (.nx ρ, h')) = leave rm h (.dat .none) h' := rfl
def iteK {α : Type} (x y : α) (u : Dm (x, y)) (b : Bool) : α := if b = true then x else y
theorem ite_x {α : Type} (b : Bool) (x y : α) : (if b = true then x else y) = iteK x y () b := rfl
theorem iteK_t {α : Type} (x y : α) (u : Dm (x, y)) : iteK x y u true = x := rfl
theorem iteK_f {α : Type} (x y : α) (u : Dm (x, y)) : iteK x y u false = y := rfl
theorem subW_e (x y : W) (h : Hh) : subW x y h = intW (fun _ _ => true) (fun i j => i - j) x y h := rfl
theorem modW_e (x y : W) (h : Hh) : modW x y h = intW (fun _ j => decide (0 < j)) (fun i j => i % j) x y h := rfl
theorem divW_e (x y : W) (h : Hh) : divW x y h = intW (fun _ j => decide (0 < j ∧ j < 1073741824)) (fun i j => i / j) x y h := rfl
theorem powW_e (x y : W) (h : Hh) : powW x y h = intW (fun i j => decide (0 ≤ j ∧ j ≤ 1000000 ∧ i.natAbs < 18446744073709551616)) (fun i j => i ^ j.toNat) x y h := rfl
theorem lt_e (x y : W) (h : Hh) : lt_W x y h = ltW (fun i j => decide (i < j)) (fun i j => decide (i < j)) x y h := rfl
theorem gt_e (x y : W) (h : Hh) : gt_W x y h = ltW (fun i j => decide (j < i)) (fun i j => decide (j < i)) x y h := rfl
theorem le_e (x y : W) (h : Hh) : le_W x y h = ltW (fun i j => decide (i ≤ j)) (fun i j => !decide (j < i)) x y h := rfl
theorem ge_e (x y : W) (h : Hh) : ge_W x y h = ltW (fun i j => decide (j ≤ i)) (fun i j => !decide (i < j)) x y h := rfl
theorem allW_e (ws : List W) (h : Hh) : allW ws h = lW bools (fun bs => .bool (bs.all id)) ws h := rfl
theorem anyW_e (ws : List W) (h : Hh) : anyW ws h = lW bools (fun bs => .bool (bs.any id)) ws h := rfl
theorem sumW_e (ws : List W) (h : Hh) : sumW ws h = lW intsD (fun bs => .int bs.sum) ws h := rfl
theorem fnM_e (rm : Bool) (np nl : Nat) (body : SM) (ws : List W) (h : Hh) (e : ws.length = np) : fnM rm np nl body ws h = retK rm h (body (ws.map some ++ List.replicate (nl - np) none) h) := by
  unfold fnM
  rw [if_pos e]
  rfl
theorem iLT_none : (["list", "tuple"].any fun t => isT1 t (.none : D)) = false := by rfl
theorem iLT_bool (b : Bool) : (["list", "tuple"].any fun t => isT1 t (.bool b : D)) = false := by rfl
theorem iLT_int (i : Int) : (["list", "tuple"].any fun t => isT1 t (.int i : D)) = false := by rfl
theorem iLT_str (s : Str) : (["list", "tuple"].any fun t => isT1 t (.str s : D)) = false := by rfl
theorem iLT_list (ds : List D) : (["list", "tuple"].any fun t => isT1 t (.list ds : D)) = true := by rfl
theorem iLT_tup (ds : List D) : (["list", "tuple"].any fun t => isT1 t (.tuple ds : D)) = true := by rfl
theorem iL_none : (["list"].any fun t => isT1 t (.none : D)) = false := by rfl
theorem iL_bool (b : Bool) : (["list"].any fun t => isT1 t (.bool b : D)) = false := by rfl
theorem iL_int (i : Int) : (["list"].any fun t => isT1 t (.int i : D)) = false := by rfl
theorem iL_str (s : Str) : (["list"].any fun t => isT1 t (.str s : D)) = false := by rfl
theorem iL_list (ds : List D) : (["list"].any fun t => isT1 t (.list ds : D)) = true := by rfl
theorem iL_tup (ds : List D) : (["list"].any fun t => isT1 t (.tuple ds : D)) = false := by rfl
theorem iT_none : (["tuple"].any fun t => isT1 t (.none : D)) = false := by rfl
theorem iT_bool (b : Bool) : (["tuple"].any fun t => isT1 t (.bool b : D)) = false := by rfl
theorem iT_int (i : Int) : (["tuple"].any fun t => isT1 t (.int i : D)) = false := by rfl
theorem iT_str (s : Str) : (["tuple"].any fun t => isT1 t (.str s : D)) = false := by rfl
theorem iT_list (ds : List D) : (["tuple"].any fun t => isT1 t (.list ds : D)) = false := by rfl
theorem iT_tup (ds : List D) : (["tuple"].any fun t => isT1 t (.tuple ds : D)) = true := by rfl
theorem iS_none : (["str"].any fun t => isT1 t (.none : D)) = false := by rfl
theorem iS_bool (b : Bool) : (["str"].any fun t => isT1 t (.bool b : D)) = false := by rfl
theorem iS_int (i : Int) : (["str"].any fun t => isT1 t (.int i : D)) = false := by rfl
theorem iS_str (s : Str) : (["str"].any fun t => isT1 t (.str s : D)) = true := by rfl
theorem iS_list (ds : List D) : (["str"].any fun t => isT1 t (.list ds : D)) = false := by rfl
theorem iS_tup (ds : List D) : (["str"].any fun t => isT1 t (.tuple ds : D)) = false := by rfl
theorem iI_none : (["int"].any fun t => isT1 t (.none : D)) = false := by rfl
theorem iI_bool (b : Bool) : (["int"].any fun t => isT1 t (.bool b : D)) = true := by rfl
theorem iI_int (i : Int) : (["int"].any fun t => isT1 t (.int i : D)) = true := by rfl
theorem iI_str (s : Str) : (["int"].any fun t => isT1 t (.str s : D)) = false := by rfl
theorem iI_list (ds : List D) : (["int"].any fun t => isT1 t (.list ds : D)) = false := by rfl
theorem iI_tup (ds : List D) : (["int"].any fun t => isT1 t (.tuple ds : D)) = false := by rfl
theorem iB_none : (["bool"].any fun t => isT1 t (.none : D)) = false := by rfl
theorem iB_bool (b : Bool) : (["bool"].any fun t => isT1 t (.bool b : D)) = true := by rfl
theorem iB_int (i : Int) : (["bool"].any fun t => isT1 t (.int i : D)) = false := by rfl
theorem iB_str (s : Str) : (["bool"].any fun t => isT1 t (.str s : D)) = false := by rfl
theorem iB_list (ds : List D) : (["bool"].any fun t => isT1 t (.list ds : D)) = false := by rfl
theorem iB_tup (ds : List D) : (["bool"].any fun t => isT1 t (.tuple ds : D)) = false := by rfl
theorem lcL_map {k : TM} {t : BM} {f : EM} {ρ : Env} {h : Hh} (p : D → Bool) (g : D → D) : ∀ {ds : List D}, (∀ d ∈ ds, ∃ ρ1, k (.dat d) ρ h = some ρ1 ∧ t ρ1 h = some (p d, h) ∧ (p d = true → f ρ1 h = some (.dat (g d), h))) → lcL k t f ρ ds h = some ((ds.filter p).map g, h)
  | [], _ => rfl
  | d :: ds, H => by
    obtain ⟨ρ1, e1, e2, e3⟩ := H d List.mem_cons_self
    have ih := lcL_map (k := k) (t := t) (f := f) (ρ := ρ) (h := h) p g (ds := ds) fun e he => H e (List.mem_cons_of_mem _ he)
    unfold lcL
    simp only [e1, e2, obnd]
    cases hp : p d with
    | true =>
      simp only [if_true]
      rw [e3 hp]
      simp only [ih, List.filter_cons, hp, if_true, List.map_cons]
    | false => simp only [Bool.false_eq_true, if_false, ih, List.filter_cons, hp]
theorem lcL_all {k : TM} {t : BM} {f : EM} {ρ : Env} {h : Hh} (g : D → D) {ds : List D} (H : ∀ d ∈ ds, ∃ ρ1, k (.dat d) ρ h = some ρ1 ∧ t ρ1 h = some (true, h) ∧ f ρ1 h = some (.dat (g d), h)) : lcL k t f ρ ds h = some (ds.map g, h) := by
  have := lcL_map (k := k) (t := t) (f := f) (ρ := ρ) (h := h) (fun _ => true) g (ds := ds) fun d hd => by
    obtain ⟨ρ1, a, b, c⟩ := H d hd
    exact ⟨ρ1, a, b, fun _ => c⟩
  rwa [List.filter_eq_self.mpr (fun _ _ => rfl)] at this
theorem lcL_inv {k : TM} {f : EM} {ρ : Env} (I : Nat → Hh → Prop) (R : Nat → D → Prop) : ∀ {ds : List D} {n : Nat} {h : Hh}, I n h → (∀ (j : Nat) (d : D), ds[j]? = some d → ∀ h, I (n + j) h → ∃ ρ1 d' h', k (.dat d) ρ h = some ρ1 ∧ f ρ1 h = some (.dat d', h') ∧ R (n + j) d' ∧ I (n + j + 1) h') →
    ∃ rs h', lcL k bYes f ρ ds h = some (rs, h') ∧ rs.length = ds.length ∧ (∀ (j : Nat) (r : D), rs[j]? = some r → R (n + j) r) ∧ I (n + ds.length) h'
  | [], n, h, i, _ => ⟨[], h, rfl, rfl, (fun j r hr => by simp at hr), i⟩
  | d :: ds, n, h, i, H => by
    obtain ⟨ρ1, d', h1, e1, e2, r, i1⟩ := H 0 d rfl h i
    obtain ⟨rs, h2, e3, hl, hr, i2⟩ := lcL_inv (k := k) (f := f) (ρ := ρ) I R (ds := ds) (n := n + 1) i1 fun j e he h q => by
      have := H (j + 1) e (by simpa using he) h (by rw [← show n + 1 + j = n + (j + 1) by omega]; exact q)
      rw [show n + 1 + j = n + (j + 1) by omega]
      exact this
    refine ⟨d' :: rs, h2, ?_, by simp [hl], ?_, ?_⟩
    · unfold lcL
      simp only [e1, bYes, obnd, if_true, e2]
      rw [e3]
    · intro j x hx
      cases j with
      | zero => simp at hx; subst hx; exact r
      | succ j =>
        have := hr j x (by simpa using hx)
        rw [show n + 1 + j = n + (j + 1) by omega] at this
        exact this
    · rw [List.length_cons, show n + (ds.length + 1) = n + 1 + ds.length by omega]; exact i2
theorem forL_inv {k : TM} {body : SM} (I : Nat → Env → Hh → Prop) : ∀ {ds : List D} {n : Nat} {ρ : Env} {h : Hh}, I n ρ h → (∀ (j : Nat) (d : D), ds[j]? = some d → ∀ ρ h, I (n + j) ρ h → ∃ ρ1 ρ2 h2, k (.dat d) ρ h = some ρ1 ∧ body ρ1 h = some (.nx ρ2, h2) ∧ I (n + j + 1) ρ2 h2) →
    ∃ ρ' h', forL k body ds ρ h = some (.nx ρ', h') ∧ I (n + ds.length) ρ' h'
  | [], n, ρ, h, i, _ => ⟨ρ, h, rfl, i⟩
  | d :: ds, n, ρ, h, i, H => by
    obtain ⟨ρ1, ρ2, h2, e1, e2, i2⟩ := H 0 d rfl ρ h i
    obtain ⟨ρ', h', e3, i3⟩ := forL_inv (k := k) (body := body) I (ds := ds) (n := n + 1) i2 fun j e he ρ h q => by
      obtain ⟨a, b, c, x, y, z⟩ := H (j + 1) e (by simpa using he) ρ h (by rw [← show n + 1 + j = n + (j + 1) by omega]; exact q)
      exact ⟨a, b, c, x, y, by rw [show n + 1 + j + 1 = n + (j + 1) + 1 by omega]; exact z⟩
    refine ⟨ρ', h', ?_, by rw [List.length_cons, show n + (ds.length + 1) = n + 1 + ds.length by omega]; exact i3⟩
    unfold forL
    simp only [e1, e2, e3]
theorem getK_cons (e : D × D) (es : List (D × D)) (k : Key) : getK (e :: es) k = if dKey e.1 = some k then some e.2 else getK es k := by
  unfold getK
  rw [List.find?_cons]
  by_cases h : dKey e.1 = some k
  · simp [h]
  · simp [h]
def sdic (l : List (Str × D)) : List (D × D) := l.map fun p => (.str p.1, p.2)
theorem dKey_str (s : Str) : dKey (.str s) = some (.inr s) := rfl
theorem getK_sdic (s : Str) : ∀ l : List (Str × D), getK (sdic l) (.inr s) = l.lookup s
  | [] => rfl
  | (t, d) :: l => by
    show getK ((.str t, d) :: sdic l) (.inr s) = _
    rw [getK_cons, getK_sdic s l, List.lookup_cons, dKey_str]
    by_cases h : t = s
    · subst h; simp
    · have h1 : ¬ (some (Sum.inr t : Key) = some (Sum.inr s)) := fun z => h (by cases z; rfl)
      have h2 : (s == t) = false := by simpa using fun z => h z.symm
      rw [if_neg h1, h2]
theorem isT_sdic : ∀ l : List (Str × D), isT (sdic l) = false
  | [] => rfl
  | (t, d) :: l => rfl
theorem getD_sdic (l : List (Str × D)) (s : Str) : getD (sdic l) (.str s) = some (l.lookup s) := by
  unfold getD
  rw [isT_sdic, if_neg (by simp), dKey_str]
  simp [getK_sdic]
theorem sdic_snoc (l : List (Str × D)) (s : Str) (d : D) : sdic (l ++ [(s, d)]) = sdic l ++ [(.str s, d)] := by simp [sdic]
theorem putK_sdic {l : List (Str × D)} {s : Str} (d : D) (h : l.lookup s = none) : putK' (sdic l) (.inr s) d = sdic (l ++ [(s, d)]) := by
  unfold putK'
  rw [getK_sdic, h, sdic_snoc]
  rfl
theorem lookup_none {l : List (Str × D)} {s : Str} (h : s ∉ l.map (·.1)) : l.lookup s = none := by
  induction l with
  | nil => rfl
  | cons p l ih =>
    obtain ⟨t, d⟩ := p
    simp only [List.map_cons, List.mem_cons, not_or] at h
    rw [List.lookup_cons, show (s == t) = false by simpa using h.1]
    exact ih h.2
theorem merge_sdic : ∀ (ps : List (Str × D)) (l : List (Str × D)), ((l ++ ps).map (·.1)).Nodup → mergeD (sdic l) (ps.map fun p => (Sum.inr p.1, p.2)) = sdic (l ++ ps)
  | [], l, _ => by simp [mergeD]
  | (s, d) :: ps, l, h => by
    have hn : s ∉ l.map (·.1) := by
      rw [List.map_append, List.nodup_append] at h
      intro z
      exact h.2.2 _ z _ (by simp) rfl
    have e : mergeD (sdic l) (((s, d) :: ps).map fun p => (Sum.inr p.1, p.2)) = mergeD (putK' (sdic l) (.inr s) d) (ps.map fun p => (Sum.inr p.1, p.2)) := rfl
    rw [e, putK_sdic d (lookup_none hn), merge_sdic ps (l ++ [(s, d)]) (by simpa using h)]
    simp
def prs (ps : List (Str × D)) : List D := ps.map fun p => .tuple [.str p.1, p.2]
theorem pairsK_prs : ∀ ps : List (Str × D), pairsK (prs ps) = some (ps.map fun p => (Sum.inr p.1, p.2))
  | [] => rfl
  | (s, d) :: ps => by
    show (match dKey (.str s), pairsK (prs ps) with | some k, some r => some ((k, d) :: r) | _, _ => none) = _
    rw [pairsK_prs ps]
    rfl
theorem dcL_sdic {k : TM} {fk fv : EM} {ρ : Env} {h : Hh} (g : D → Str × D) : ∀ {ds : List D} {l : List (Str × D)}, ((l ++ ds.map g).map (·.1)).Nodup → (l ++ ds.map g).length ≤ sizeLine →
    (∀ d ∈ ds, ∃ ρ1, k (.dat d) ρ h = some ρ1 ∧ fk ρ1 h = some (.dat (.str (g d).1), h) ∧ fv ρ1 h = some (.dat (g d).2, h)) → dcL k bYes fk fv ρ ds (sdic l) h = some (sdic (l ++ ds.map g), h)
  | [], l, _, _, _ => by simp [dcL]
  | d :: ds, l, hn, hl, H => by
    obtain ⟨ρ1, e1, e2, e3⟩ := H d List.mem_cons_self
    have hn' : (g d).1 ∉ l.map (·.1) := by
      rw [List.map_append, List.nodup_append] at hn
      intro z
      exact hn.2.2 _ z _ (by simp) rfl
    unfold dcL
    simp only [e1, bYes, obnd, if_true, e2, e3, dKey_str]
    have hlen : (sdic l).length < sizeLine := by
      simp only [sdic, List.length_map]
      simp only [List.length_append, List.length_map, List.length_cons] at hl
      omega
    rw [if_pos hlen, putK_sdic _ (lookup_none hn')]
    have ih := dcL_sdic (k := k) (fk := fk) (fv := fv) (ρ := ρ) (h := h) g (ds := ds) (l := l ++ [((g d).1, (g d).2)]) (by simpa using hn) (by simpa using hl) fun e he => H e (List.mem_cons_of_mem _ he)
    rw [ih]
    simp
end DL
set_option maxRecDepth 100000
set_option maxHeartbeats 400000
namespace DL
open PySem L2
local macro_rules | `(tactic| walk_at "dl") => `(tactic| simp (config := { dsimp := false }) only [↓fnM_e, ↓sSeq_e, seqK_nx, seqK_rt, seqK_bk, seqK_ct, retK_rt, retK_nx, ↓sFrz_e, frK_some, ↓sAsg, ↓sRet, ↓sRetN, ↓sIf, ↓sExpr, ↓sSkip, ↓sNever, ↓sPar, ↓sFor, ↓sSub, ↓fVar, ↓fC, ↓fNil, ↓fCons, ↓fA, ↓f1, ↓f2, ↓fB, ↓fIf, ↓fNeg, ↓fNot, ↓fAnd, ↓fOr, ↓bNot, ↓bAnd, ↓bOr, ↓bYes, ↓obnd_x, ob_some, ↓sbnd_x, sb_some, ↓ite_x, iteK_t, iteK_f, gN, gT, gC, gE, ↓rng1I, ↓rng2I, ↓seqI, ↓enumA, ↓zipI, ↓strI, ↓fLc, ↓fDc, ↓fM, ↓fSl, ↓oNone, ↓oSome, ↓fRev, wipeE, ↓kwM, permM, permL, List.foldr, List.length_cons, List.length_nil, List.map_cons, List.map_nil, List.cons_append, List.nil_append, List.replicate, List.replicate_succ, List.replicate_zero, List.getElem?_cons_zero, List.getElem?_cons_succ, List.set_cons_zero, List.set_cons_succ, if_true, if_false, reduceIte, Nat.reduceAdd, Nat.reduceSub, Nat.reduceEqDiff, Nat.reduceLT, Nat.reduceLeDiff, Int.reduceLT, Int.reduceLE, Int.reduceNeg, Int.reduceMul, Int.reduceAdd, Int.reduceSub, Int.reduceToNat, Int.reducePow, Int.reduceEq, ok, bok, deref, mkL, lstW, tupW, dats, Option.map_some, appendW, insertW, setL, isL, listW, tupleW, lenW, absW, intC, maxW, minW, idxW, addW, subW_e, modW_e, divW_e, powW_e, mulW, intW, lt_e, gt_e, le_e, ge_e, ltW, allW_e, anyW_e, sumW_e, lW, setW, lstAt, cutW, backW, isW, isiW, iLT_none, iLT_bool, iLT_int, iLT_str, iLT_list, iLT_tup, iL_none, iL_bool, iL_int, iL_str, iL_list, iL_tup, iT_none, iT_bool, iT_int, iT_str, iT_list, iT_tup, iS_none, iS_bool, iS_int, iS_str, iS_list, iS_tup, iI_none, iI_bool, iI_int, iI_str, iI_list, iI_tup, iB_none, iB_bool, iB_int, iB_str, iB_list, iB_tup, Bool.false_eq_true, reduceCtorEq, Bool.not_true, Bool.not_false, decide_true, decide_false, List.zip_cons_cons, List.zip_nil_left, List.foldl_cons, List.foldl_nil, and_self, and_true, true_and, Bool.and_true, Bool.true_and, Bool.or_true, Bool.true_or, *])
def BoxAt (h : Hh) (b c : Nat) : Prop := ∃ d s k : Int, h[b]? = some (some (.lst [.int d, .int s, .int k])) ∧ 0 ≤ d ∧ 0 ≤ s ∧ s < 1099511627776 ∧ 0 ≤ k ∧ k ≤ c
structure Only (b : Nat) (h h' : Hh) : Prop where
  len : h'.length = h.length
  off : ∀ i : Nat, i ≠ b → h'[i]? = h[i]?
theorem Only.refl (b : Nat) (h : Hh) : Only b h h := ⟨rfl, fun _ _ => rfl⟩
theorem Only.trans {b : Nat} {h h1 h2 : Hh} (x : Only b h h1) (y : Only b h1 h2) : Only b h h2 := ⟨y.len.trans x.len, fun i n => (y.off i n).trans (x.off i n)⟩
theorem only_set (b : Nat) (h : Hh) (o : Option MO) : Only b h (h.set b o) := ⟨by simp, fun i n => by rw [List.getElem?_set_ne (fun z => n z.symm)]⟩
theorem BoxAt.mono {h : Hh} {b c c' : Nat} (x : BoxAt h b c) (hc : c ≤ c') : BoxAt h b c' := by
  obtain ⟨d, s, k, e, h1, h2, h3, h4, h5⟩ := x
  exact ⟨d, s, k, e, h1, h2, h3, h4, by omega⟩
theorem BoxAt.lt {h : Hh} {b c : Nat} (x : BoxAt h b c) : b < h.length := by
  obtain ⟨d, s, k, e, _⟩ := x
  exact (List.getElem?_eq_some_iff.mp e).1
theorem live_only {b c c' : Nat} {h h' : Hh} (x : BoxAt h b c) (y : BoxAt h' b c') (o : Only b h h') : live h' = live h := by
  apply List.ext_getElem?
  intro i
  unfold live
  rw [List.getElem?_map, List.getElem?_map]
  by_cases hi : i = b
  · subst hi
    obtain ⟨_, _, _, e1, _⟩ := x
    obtain ⟨_, _, _, e2, _⟩ := y
    rw [e1, e2]
    rfl
  · rw [o.off i hi]
theorem leave_dat {h h' : Hh} {d : D} (e : live (h'.take h.length) = live h) : leave false h (.dat d) h' = some (.dat d, h'.take h.length) := by
  unfold leave
  rw [if_pos e]
theorem leave_dat' {b c c' : Nat} {h h' : Hh} {d : D} (x : BoxAt h b c) (y : BoxAt h' b c') (o : Only b h h') : leave false h (.dat d) h' = some (.dat d, h') := by
  have e : h'.take h.length = h' := List.take_of_length_le (by rw [o.len]; exact Nat.le_refl _)
  rw [leave_dat (by rw [e]; exact live_only x y o), e]
theorem leave_same' {h : Hh} {d : D} : leave false h (.dat d) h = some (.dat d, h) := by
  have e : h.take h.length = h := List.take_of_length_le (Nat.le_refl _)
  rw [leave_dat (by rw [e]), e]
theorem atI3 (x y z : D) : L2.atI [x, y, z] 0 = some x ∧ L2.atI [x, y, z] 1 = some y ∧ L2.atI [x, y, z] 2 = some z := ⟨rfl, rfl, rfl⟩
theorem ix3 : ixN 3 0 = some 0 ∧ ixN 3 1 = some 1 ∧ ixN 3 2 = some 2 := ⟨rfl, rfl, rfl⟩
theorem take_ok {h : Hh} {b c : Nat} {n : Int} (hb : BoxAt h b c) (hc : c < 1099511627776) (h0 : 0 < n) (h1 : n < 1073741824) :
    ∃ r h', m__law_take [.ref b, .dat (.int n)] h = some (.dat (.int r), h') ∧ 0 ≤ r ∧ r < n ∧ BoxAt h' b (c + 1) ∧ Only b h h' := by
  obtain ⟨d, s, k, e, hd, hs, hs2, hk, hk2⟩ := id hb
  have lb := hb.lt
  have a0 := fun x y z : D => (atI3 x y z).1
  have a1 := fun x y z : D => (atI3 x y z).2.1
  have a2 := fun x y z : D => (atI3 x y z).2.2
  have i0 := ix3.1
  have i2 := ix3.2.2
  by_cases hp : 0 < d
  · have y : BoxAt (h.set b (some (.lst [.int (d / n), .int s, .int k]))) b c := ⟨d / n, s, k, by rw [List.getElem?_set_self lb], Int.ediv_nonneg hd (by omega), hs, hs2, hk, hk2⟩
    refine ⟨d % n, h.set b (some (.lst [.int (d / n), .int s, .int k])), ?_, Int.emod_nonneg _ (by omega), Int.emod_lt_of_pos _ h0, y.mono (by omega), only_set _ _ _⟩
    unfold m__law_take
    walk_at "dl"
    exact leave_dat' hb y (only_set _ _ _)
  · have y : BoxAt (h.set b (some (.lst [.int d, .int s, .int (k + 1)]))) b (c + 1) := ⟨d, s, k + 1, by rw [List.getElem?_set_self lb], hd, hs, hs2, by omega, by omega⟩
    have hp' : decide (0 < d) = false := by simpa using hp
    have g1 : (h.set b (some (.lst [.int d, .int s, .int (k + 1)])))[b]? = some (some (.lst [.int d, .int s, .int (k + 1)])) := by rw [List.getElem?_set_self lb]
    have hw : (s + 39373 * (k + 1)).natAbs < 18446744073709551616 := by omega
    have o1 : -18446744073709551616 < (s + 39373 * (k + 1)) ^ 5 % 2147483647 := by omega
    have o2 : (s + 39373 * (k + 1)) ^ 5 % 2147483647 < 18446744073709551616 := by omega
    have k1 : -18446744073709551616 < k + 1 := by omega
    have k2 : k + 1 < 18446744073709551616 := by omega
    refine ⟨((s + 39373 * (k + 1)) ^ 5 % 2147483647 * ((s + 39373 * (k + 1)) ^ 5 % 2147483647 % 40009 + 7) + (k + 1) * 7919) % 2147483629 / 64 % n, h.set b (some (.lst [.int d, .int s, .int (k + 1)])), ?_, Int.emod_nonneg _ (by omega), Int.emod_lt_of_pos _ h0, y, only_set _ _ _⟩
    unfold m__law_take
    walk_at "dl"
    exact leave_dat' hb y (only_set _ _ _)
theorem only_app {b : Nat} {h h' : Hh} {o : Option MO} (hb : b < h.length) (x : Only b (h ++ [o]) h') : Only b h (h'.take h.length) ∧ ∃ g : Hh, h' = g ++ [o] ∧ g.length = h.length := by
  have hl : h'.length = h.length + 1 := by rw [x.len]; simp
  have e : h'[h.length]? = some o := by rw [x.off _ (by omega)]; simp
  have e2 : h' = h'.take h.length ++ [o] := by
    apply List.ext_getElem?
    intro i
    by_cases hi : i < h.length
    · rw [List.getElem?_append_left (by simp; omega), List.getElem?_take_of_lt hi]
    · by_cases hi2 : i = h.length
      · subst hi2
        rw [e, List.getElem?_append_right (by simp; omega)]
        simp [hl]
      · rw [List.getElem?_eq_none (by omega), List.getElem?_eq_none (by simp; omega)]
  refine ⟨⟨by simp [hl], fun i n => ?_⟩, h'.take h.length, e2, by simp [hl]⟩
  by_cases hi : i < h.length
  · rw [List.getElem?_take_of_lt hi, x.off i n, List.getElem?_append_left hi]
  · rw [List.getElem?_eq_none (by simp; omega), List.getElem?_eq_none (by omega)]
theorem box_app {h : Hh} {b c : Nat} {l : Hh} (x : BoxAt h b c) : BoxAt (h ++ l) b c := by
  have lb := x.lt
  obtain ⟨d, s, k, e, r⟩ := x
  exact ⟨d, s, k, by rw [List.getElem?_append_left lb]; exact e, r⟩
theorem box_take {h : Hh} {b c n : Nat} (x : BoxAt h b c) (hb : b < n) : BoxAt (h.take n) b c := by
  obtain ⟨d, s, k, e, r⟩ := x
  exact ⟨d, s, k, by rw [List.getElem?_take_of_lt hb]; exact e, r⟩
theorem take_snoc {α : Type} {l : List α} {n : Nat} {x : α} (e : l[n]? = some x) : l.take (n + 1) = l.take n ++ [x] := by
  rw [List.take_add_one, e]; rfl
end DL
set_option maxRecDepth 100000
set_option maxHeartbeats 400000
namespace DL
open PySem L2
theorem str_ext {a b : Str} (h : a.cps.toList = b.cps.toList) : a = b := by
  obtain ⟨⟨x⟩⟩ := a
  obtain ⟨⟨y⟩⟩ := b
  simp at h
  rw [h]
theorem cps_app (a b : Str) : (a ++ b).cps.toList = a.cps.toList ++ b.cps.toList := by
  show (a.cps ++ b.cps).toList = _
  simp
theorem len_app (a b : Str) : (a ++ b).length = a.length + b.length := by
  show (a.cps ++ b.cps).size = _
  simp [Str.length]
def lt1 (i : Nat) : Str := ⟨#[97 + i]⟩
def sfx : Nat → Str
  | 0 => ""
  | 1 => "a"
  | _ => "zz"
def nm (st sp at_ : Nat) : Str := lt1 ((st + sp * (at_ / 2)) % 26) ++ sfx (at_ % 2 * (1 + st % 2))
theorem sfx_len : (sfx 0).cps.toList = [] ∧ (sfx 1).cps.toList = [97] ∧ (sfx 2).cps.toList = [122, 122] := by decide +kernel
def Steps (sp : Nat) : Prop := sp = 1 ∨ sp = 3 ∨ sp = 25
theorem nm_cps (st sp a : Nat) : (nm st sp a).cps.toList = (97 + (st + sp * (a / 2)) % 26) :: (sfx (a % 2 * (1 + st % 2))).cps.toList := by
  unfold nm
  rw [cps_app]
  rfl
structure Crew (most : Nat) (rs : List Str) : Prop where
  nd : rs.Nodup
  pos : 0 < rs.length
  le : rs.length ≤ most
  nam : ∀ s ∈ rs, ∃ st sp a, st < 26 ∧ Steps sp ∧ s = nm st sp a
def unS : D → Str
  | .str s => s
  | _ => ""
theorem rng_get {n j : Nat} {d : D} (e : (rngD 0 n)[j]? = some d) : j < n ∧ d = .int (j : Int) := by
  obtain ⟨h1, h2⟩ := rngD_get e
  exact ⟨h1, by rw [h2]; simp⟩
theorem rng_len (n : Nat) : (rngD 0 n).length = n := by simp [rngD]
theorem sfx_le (k : Nat) : (sfx k).length ≤ 2 := by
  match k with
  | 0 => decide +kernel
  | 1 => decide +kernel
  | _ + 2 => show (sfx 2).length ≤ 2; decide +kernel
end DL
set_option maxRecDepth 100000
set_option maxHeartbeats 400000
namespace DL
open PySem L2
local macro_rules | `(tactic| walk_at "dl") => `(tactic| simp (config := { dsimp := false }) only [↓fnM_e, ↓sSeq_e, seqK_nx, seqK_rt, seqK_bk, seqK_ct, retK_rt, retK_nx, ↓sFrz_e, frK_some, ↓sAsg, ↓sRet, ↓sRetN, ↓sIf, ↓sExpr, ↓sSkip, ↓sNever, ↓sPar, ↓sFor, ↓sSub, ↓fVar, ↓fC, ↓fNil, ↓fCons, ↓fA, ↓f1, ↓f2, ↓fB, ↓fIf, ↓fNeg, ↓fNot, ↓fAnd, ↓fOr, ↓bNot, ↓bAnd, ↓bOr, ↓bYes, ↓obnd_x, ob_some, ↓sbnd_x, sb_some, ↓ite_x, iteK_t, iteK_f, gN, gT, gC, gE, ↓rng1I, ↓rng2I, ↓seqI, ↓enumA, ↓zipI, ↓strI, ↓fLc, ↓fDc, ↓fM, ↓fSl, ↓oNone, ↓oSome, ↓fRev, wipeE, ↓kwM, permM, permL, List.foldr, List.length_cons, List.length_nil, List.map_cons, List.map_nil, List.cons_append, List.nil_append, List.replicate, List.replicate_succ, List.replicate_zero, List.getElem?_cons_zero, List.getElem?_cons_succ, List.set_cons_zero, List.set_cons_succ, if_true, if_false, reduceIte, Nat.reduceAdd, Nat.reduceSub, Nat.reduceEqDiff, Nat.reduceLT, Nat.reduceLeDiff, Int.reduceLT, Int.reduceLE, Int.reduceNeg, Int.reduceMul, Int.reduceAdd, Int.reduceSub, Int.reduceToNat, Int.reducePow, Int.reduceEq, ok, bok, deref, mkL, lstW, tupW, dats, Option.map_some, appendW, insertW, setL, isL, listW, tupleW, lenW, absW, intC, maxW, minW, idxW, addW, subW_e, modW_e, divW_e, powW_e, mulW, intW, lt_e, gt_e, le_e, ge_e, ltW, allW_e, anyW_e, sumW_e, lW, setW, lstAt, cutW, backW, isW, isiW, iLT_none, iLT_bool, iLT_int, iLT_str, iLT_list, iLT_tup, iL_none, iL_bool, iL_int, iL_str, iL_list, iL_tup, iT_none, iT_bool, iT_int, iT_str, iT_list, iT_tup, iS_none, iS_bool, iS_int, iS_str, iS_list, iS_tup, iI_none, iI_bool, iI_int, iI_str, iI_list, iI_tup, iB_none, iB_bool, iB_int, iB_str, iB_list, iB_tup, Bool.false_eq_true, reduceCtorEq, Bool.not_true, Bool.not_false, decide_true, decide_false, List.zip_cons_cons, List.zip_nil_left, List.foldl_cons, List.foldl_nil, and_self, and_true, true_and, Bool.and_true, Bool.true_and, Bool.or_true, Bool.true_or, *])
theorem zipD_self : ∀ ds : List D, zipD ds ds = ds.map fun d => .tuple [d, d]
  | [] => rfl
  | d :: ds => by rw [zipD, zipD_self ds]; rfl
theorem bools_true : ∀ n : Nat, bools (List.replicate n (.bool true)) = some (List.replicate n true)
  | 0 => rfl
  | n + 1 => by rw [List.replicate_succ, bools, bools_true n]; rfl
theorem all_true (n : Nat) : (List.replicate n true).all id = true := by induction n with
  | zero => rfl
  | succ n ih => rw [List.replicate_succ, List.all_cons, ih]; rfl
theorem eqS_bool (b : Bool) : eqS (.bool b) (.bool b) = some true := by simp [eqS]
theorem eqS_self_str (b : Str) : eqS (.str b) (.str b) = some true := by simp [eqS]
theorem eqS_self_int (b : Int) : eqS (.int b) (.int b) = some true := by simp [eqS]
theorem eqW_same {neg : Bool} {d : D} {h : Hh} (e : eqS d d = some true) : eqW neg (.dat d) (.dat d) h = bok (!neg) h := by
  unfold eqW
  simp only [deref, e]
  cases neg <;> rfl
mutual
def plainD : D → Bool
  | .dict _ => false
  | .list ds => plainDs ds && decide (ds.length ≤ sizeLine)
  | .tuple ds => plainDs ds && decide (ds.length ≤ sizeLine)
  | _ => true
def plainDs : List D → Bool
  | [] => true
  | d :: ds => plainD d && plainDs ds
end
theorem plainDs_mem : ∀ {ds : List D} {d : D}, plainDs ds = true → d ∈ ds → plainD d = true
  | _ :: _, _, h, .head _ => by rw [plainDs, Bool.and_eq_true] at h; exact h.1
  | _ :: ds, _, h, .tail _ m => by rw [plainDs, Bool.and_eq_true] at h; exact plainDs_mem h.2 m
theorem depthAll_mem : ∀ {ds : List D} {d : D}, d ∈ ds → d.depth ≤ PyData.depthAll ds
  | _ :: _, _, .head _ => by rw [PyData.depthAll]; exact Nat.le_max_left _ _
  | _ :: ds, _, .tail _ m => by rw [PyData.depthAll]; exact Nat.le_trans (depthAll_mem m) (Nat.le_max_right _ _)
theorem same_seq {n : Nat} {ds : List D} {h : Hh} (ih : ∀ d ∈ ds, m__law_same n [.dat d, .dat d] h = some (.dat (.bool true), h)) (v1 v2 : Option W) (hl : ds.length ≤ sizeLine) :
    lcL (gT 2 (gC (gN 2) (gC (gN 3) (gE)))) (bYes) (fA (m__law_same n) (fCons (fVar 2) (fCons (fVar 3) (fNil)))) [v1, v2, none, none] (zipD ds ds) h = some (List.replicate ds.length (.bool true), h) := by
  rw [zipD_self]
  rw [lcL_all (fun _ => .bool true) (ds := ds.map fun d => .tuple [d, d]) (fun d' hd' => ?_)]
  · rw [List.map_map]
    congr 2
    apply List.eq_replicate_iff.mpr
    exact ⟨by simp, fun b hb => by obtain ⟨d, hd, rfl⟩ := List.mem_map.mp hb; rfl⟩
  · obtain ⟨d, hd, rfl⟩ := List.mem_map.mp hd'
    have e := ih d hd
    refine ⟨[v1, v2, some (.dat d), some (.dat d)], ?_, rfl, ?_⟩
    · walk_at "dl"
    · walk_at "dl"
theorem callD_two (d : D) : callD [d, d] = false := by
  by_cases h : ∃ a b : Str, d = .tuple [.str a, .str b]
  · obtain ⟨a, b, rfl⟩ := h
    simp [callD, pairD, rowD, prTx, rowS]
  · by_cases h' : ∃ a : Str, d = .str a
    · obtain ⟨a, rfl⟩ := h'
      simp [callD, pairD, rowD, prTx, rowS]
    · exact callD_not _ (fun a b e => h ⟨a, b, e⟩) fun a e => h' ⟨a, e⟩
theorem zipOk_refl : ∀ ds : List D, zipOk ds ds = true
  | [] => rfl
  | d :: ds => by
    have ih := zipOk_refl ds
    unfold zipOk at ih ⊢
    simp only [zipD, List.all_cons, ih, notCall, callD_two]
    rfl
theorem zipOk_fst : ∀ (xs ys : List D), (∀ d ∈ xs, ∀ a b : Str, d ≠ .tuple [.str a, .str b]) → (∀ d ∈ xs, ∀ a : Str, d ≠ .str a) → zipOk xs ys = true
  | [], _, _, _ => rfl
  | _ :: _, [], _, _ => rfl
  | d :: xs, y :: ys, h, h' => by
    have ih := zipOk_fst xs ys (fun z hz => h z (List.mem_cons_of_mem _ hz)) fun z hz => h' z (List.mem_cons_of_mem _ hz)
    unfold zipOk at ih ⊢
    simp only [zipD, List.all_cons, ih, notCall, callD_not _ (h d List.mem_cons_self) (h' d List.mem_cons_self)]
    rfl
theorem zipOk_int {α : Type} (f : α → Int) (l : List α) (ys : List D) : zipOk (l.map fun x => .int (f x)) ys = true := zipOk_fst _ _ (fun d hd a b e => by
  obtain ⟨x, _, rfl⟩ := List.mem_map.mp hd
  cases e) fun d hd a e => by
  obtain ⟨x, _, rfl⟩ := List.mem_map.mp hd
  cases e
theorem same_refl : ∀ (n : Nat) (d : D) (h : Hh), plainD d = true → d.depth < n → m__law_same n [.dat d, .dat d] h = some (.dat (.bool true), h)
  | 0, _, _, _, hd => by omega
  | n + 1, d, h, hp, hd => by
    have tk : leave false h (.dat (.bool true)) h = some (.dat (.bool true), h) := leave_same'
    have e0 := fun b : Bool => eqW_same (neg := true) (h := h) (eqS_bool b)
    have e1 := fun b : Bool => eqW_same (neg := false) (h := h) (eqS_bool b)
    cases d with
    | none => 
      unfold m__law_same
      have e2 : eqW false (.dat .none) (.dat .none) h = bok true h := eqW_same rfl
      walk_at "dl"
    | bool b =>
      unfold m__law_same
      walk_at "dl"
    | int i =>
      unfold m__law_same
      have e2 := eqW_same (neg := false) (h := h) (eqS_self_int i)
      walk_at "dl"
    | str s =>
      unfold m__law_same
      have e2 := eqW_same (neg := false) (h := h) (eqS_self_str s)
      walk_at "dl"
    | list ds =>
      unfold m__law_same
      simp only [plainD, Bool.and_eq_true, decide_eq_true_eq] at hp
      simp only [PyData.depth] at hd
      have hl : ds.length ≤ sizeLine := hp.2
      have ez := zipOk_refl ds
      have e3 := same_seq (n := n) (ds := ds) (h := h) (fun d hd' => same_refl n d h (plainDs_mem hp.1 hd') (by have := depthAll_mem hd'; omega)) (some (.dat (.list ds))) (some (.dat (.list ds))) hl
      have e2 := eqW_same (neg := true) (h := h) (eqS_self_int (ds.length : Int))
      have e4 := bools_true ds.length
      have e5 := all_true ds.length
      have e6 : (List.replicate ds.length (PyData.bool true)).length ≤ sizeLine := by simpa using hl
      clear hd hp
      walk_at "dl"
    | tuple ds =>
      unfold m__law_same
      simp only [plainD, Bool.and_eq_true, decide_eq_true_eq] at hp
      simp only [PyData.depth] at hd
      have hl : ds.length ≤ sizeLine := hp.2
      have ez := zipOk_refl ds
      have e3 := same_seq (n := n) (ds := ds) (h := h) (fun d hd' => same_refl n d h (plainDs_mem hp.1 hd') (by have := depthAll_mem hd'; omega)) (some (.dat (.tuple ds))) (some (.dat (.tuple ds))) hl
      have e2 := eqW_same (neg := true) (h := h) (eqS_self_int (ds.length : Int))
      have e4 := bools_true ds.length
      have e5 := all_true ds.length
      have e6 : (List.replicate ds.length (PyData.bool true)).length ≤ sizeLine := by simpa using hl
      clear hd hp
      walk_at "dl"
    | dict es => simp [plainD] at hp
theorem forL_end {k : TM} {body : SM} (I : Nat → Env → Hh → Prop) {ds : List D} {ρ : Env} {h : Hh} (i : I 0 ρ h) (H : ∀ (j : Nat) (d : D), ds[j]? = some d → ∀ ρ h, I j ρ h → ∃ ρ1 ρ2 h2, k (.dat d) ρ h = some ρ1 ∧ body ρ1 h = some (.nx ρ2, h2) ∧ I (j + 1) ρ2 h2) :
    ∃ ρ' h', forL k body ds ρ h = some (.nx ρ', h') ∧ I ds.length ρ' h' := by
  have := forL_inv (k := k) (body := body) I (ds := ds) (n := 0) i fun j d e ρ h q => by
    have := H j d e ρ h (by rw [Nat.zero_add] at q; exact q)
    rw [Nat.zero_add]; exact this
  rw [Nat.zero_add] at this
  exact this
theorem leave_ref {h : Hh} {ds : List D} : leave true h (.ref h.length) (h ++ [some (.lst ds)]) = some (.ref h.length, h ++ [some (.lst ds)]) := by
  have e : (h ++ [some (MO.lst ds)]).take h.length = h := by rw [List.take_append_of_le_length (Nat.le_refl _), List.take_length]
  have e2 : (h ++ [some (MO.lst ds)])[h.length]? = some (some (.lst ds)) := by rw [List.getElem?_append_right (Nat.le_refl _)]; simp
  unfold leave
  rw [e, if_pos rfl]
  simp only [Nat.lt_irrefl, if_false, e2, if_true]
theorem bools_all : ∀ {rs : List D}, (∀ r ∈ rs, r = .bool true) → rs = List.replicate rs.length (.bool true)
  | [], _ => rfl
  | r :: rs, h => by
    rw [List.length_cons, List.replicate_succ, ← bools_all fun x hx => h x (List.mem_cons_of_mem _ hx), ← h r List.mem_cons_self]
end DL
set_option maxRecDepth 100000
set_option maxHeartbeats 400000
namespace DL
open PySem L2
local macro_rules | `(tactic| walk_at "dl") => `(tactic| simp (config := { dsimp := false }) only [↓fnM_e, ↓sSeq_e, seqK_nx, seqK_rt, seqK_bk, seqK_ct, retK_rt, retK_nx, ↓sFrz_e, frK_some, ↓sAsg, ↓sRet, ↓sRetN, ↓sIf, ↓sExpr, ↓sSkip, ↓sNever, ↓sPar, ↓sFor, ↓sSub, ↓fVar, ↓fC, ↓fNil, ↓fCons, ↓fA, ↓f1, ↓f2, ↓fB, ↓fIf, ↓fNeg, ↓fNot, ↓fAnd, ↓fOr, ↓bNot, ↓bAnd, ↓bOr, ↓bYes, ↓obnd_x, ob_some, ↓sbnd_x, sb_some, ↓ite_x, iteK_t, iteK_f, gN, gT, gC, gE, ↓rng1I, ↓rng2I, ↓seqI, ↓enumA, ↓zipI, ↓strI, ↓fLc, ↓fDc, ↓fM, ↓fSl, ↓oNone, ↓oSome, ↓fRev, wipeE, ↓kwM, permM, permL, List.foldr, List.length_cons, List.length_nil, List.map_cons, List.map_nil, List.cons_append, List.nil_append, List.replicate, List.replicate_succ, List.replicate_zero, List.getElem?_cons_zero, List.getElem?_cons_succ, List.set_cons_zero, List.set_cons_succ, if_true, if_false, reduceIte, Nat.reduceAdd, Nat.reduceSub, Nat.reduceEqDiff, Nat.reduceLT, Nat.reduceLeDiff, Int.reduceLT, Int.reduceLE, Int.reduceNeg, Int.reduceMul, Int.reduceAdd, Int.reduceSub, Int.reduceToNat, Int.reducePow, Int.reduceEq, ok, bok, deref, mkL, lstW, tupW, dats, Option.map_some, appendW, insertW, setL, isL, listW, tupleW, lenW, absW, intC, maxW, minW, idxW, addW, subW_e, modW_e, divW_e, powW_e, mulW, intW, lt_e, gt_e, le_e, ge_e, ltW, allW_e, anyW_e, sumW_e, lW, setW, lstAt, cutW, backW, isW, isiW, iLT_none, iLT_bool, iLT_int, iLT_str, iLT_list, iLT_tup, iL_none, iL_bool, iL_int, iL_str, iL_list, iL_tup, iT_none, iT_bool, iT_int, iT_str, iT_list, iT_tup, iS_none, iS_bool, iS_int, iS_str, iS_list, iS_tup, iI_none, iI_bool, iI_int, iI_str, iI_list, iI_tup, iB_none, iB_bool, iB_int, iB_str, iB_list, iB_tup, Bool.false_eq_true, reduceCtorEq, Bool.not_true, Bool.not_false, decide_true, decide_false, List.zip_cons_cons, List.zip_nil_left, List.foldl_cons, List.foldl_nil, and_self, and_true, true_and, Bool.and_true, Bool.true_and, Bool.or_true, Bool.true_or, *])
def TxtOk (s : Str) : Prop := s.length ≤ 100 ∧ ∀ c ∈ s.cps.toList, c < 128
theorem TxtOk.ok {s : Str} (h : TxtOk s) : PyData.strOk s = true := by
  unfold PyData.strOk
  rw [Array.all_eq_true']
  intro c hc
  have := h.2 c (by simpa using hc)
  simp; omega
abbrev Txts (l : List Str) : Prop := ∀ s ∈ l, TxtOk s
theorem nm_ok {st sp a : Nat} : TxtOk (nm st sp a) := by
  refine ⟨?_, fun c hc => ?_⟩
  · unfold nm
    rw [len_app]
    have := sfx_le (a % 2 * (1 + st % 2))
    show 1 + _ ≤ _
    omega
  · rw [nm_cps] at hc
    rcases List.mem_cons.mp hc with rfl | hc
    · omega
    · generalize a % 2 * (1 + st % 2) = k at hc
      match k, hc with
      | 0, hc => rw [sfx_len.1] at hc; cases hc
      | 1, hc => rw [sfx_len.2.1] at hc; simp at hc; omega
      | _ + 2, hc => 
        have hc' : c ∈ (sfx 2).cps.toList := hc
        rw [sfx_len.2.2] at hc'; simp at hc'; omega
theorem Crew.txts {most : Nat} {rs : List Str} (h : Crew most rs) : Txts rs := fun s hs => by
  obtain ⟨st, sp, a, _, _, rfl⟩ := h.nam s hs
  exact nm_ok
theorem Txts.perm {l m : List Str} (h : Txts l) (p : m.Perm l) : Txts m := fun s hs => h s (p.mem_iff.mp hs)
def leS (a b : Str) : Bool := decide (a.cps.toList ≤ b.cps.toList)
theorem leS_trans (a b c : Str) (h1 : leS a b = true) (h2 : leS b c = true) : leS a c = true := by
  unfold leS at *
  simp only [decide_eq_true_eq] at *
  exact List.le_trans h1 h2
theorem leS_total (a b : Str) : (leS a b || leS b a) = true := by
  unfold leS
  simp only [Bool.or_eq_true, decide_eq_true_eq]
  exact List.le_total _ _
theorem leS_antisymm {a b : Str} (h1 : leS a b = true) (h2 : leS b a = true) : a = b := by
  unfold leS at *
  simp only [decide_eq_true_eq] at *
  exact str_ext (List.le_antisymm h1 h2)
def sortS (l : List Str) : List Str := l.mergeSort leS
theorem sortS_perm (l : List Str) : (sortS l).Perm l := List.mergeSort_perm _ _
theorem sortS_pw (l : List Str) : (sortS l).Pairwise fun a b => leS a b = true := List.pairwise_mergeSort leS_trans leS_total l
theorem sortS_eq {a b : List Str} (h : a.Perm b) : sortS a = sortS b :=
  List.Perm.eq_of_pairwise (fun x y _ _ h1 h2 => leS_antisymm h1 h2) (sortS_pw a) (sortS_pw b) ((sortS_perm a).trans (h.trans (sortS_perm b).symm))
theorem sortD_strs (l : List Str) : sortD (l.map .str) = (sortS l).map .str := by
  unfold sortD sortS
  have e := PySem.W.dataLe_str (fun s : Str => s)
  rw [← PySem.W.sort_maps (r := leS) (s := PySem.W.dataLe false fun d : D => d) (fun s : Str => (.str s : D)) (l := l) fun a _ b _ => ?_]
  have := congrFun (congrFun e a) b
  unfold leS
  rw [← this]
  rfl
theorem alike_strs (l : List Str) : (l.map PyData.str).all (fun d => (l.map PyData.str).all fun e => PySem.W.alike d e) = true := by
  rw [List.all_eq_true]
  intro d hd
  rw [List.all_eq_true]
  intro e he
  obtain ⟨a, _, rfl⟩ := List.mem_map.mp hd
  obtain ⟨b, _, rfl⟩ := List.mem_map.mp he
  rfl
theorem shp_strs {l : List Str} (ht : Txts l) : (l.map PyData.str).all shp = true := by
  rw [List.all_eq_true]
  intro d hd
  obtain ⟨a, ha, rfl⟩ := List.mem_map.mp hd
  simp [shp, PyData.canLay0, PyData.depth, (ht a ha).ok]
theorem sortable_strs {l : List Str} (ht : Txts l) : sortable (l.map .str) = true := by
  unfold sortable
  rw [alike_strs, shp_strs ht]
  simp only [Bool.true_and, Bool.and_true, Bool.or_eq_true]
  right
  rw [List.all_eq_true]
  intro d hd
  obtain ⟨a, _, rfl⟩ := List.mem_map.mp hd
  rfl
abbrev IsSeq (x : D) (ds : List D) : Prop := x = .list ds ∨ x = .tuple ds
theorem sortW_strs {x : D} {l : List Str} {h : Hh} (hx : IsSeq x (l.map .str)) (ht : Txts l) : sortW false [.dat x] h = some (.dat (.list ((sortS l).map .str)), h) := by
  have e := sortD_strs l
  have e2 := sortable_strs ht
  clear ht
  rcases hx with rfl | rfl <;> (unfold sortW; walk_at "dl")
theorem canLay_strs : ∀ {l : List Str}, Txts l → PyData.canLayAll0 (l.map .str) = true
  | [], _ => rfl
  | s :: l, h => by rw [List.map_cons, PyData.canLayAll0, canLay_strs fun t ht => h t (List.mem_cons_of_mem _ ht)]; simp [PyData.canLay0, (h s List.mem_cons_self).ok]
theorem depth_strs : ∀ l : List Str, PyData.depthAll (l.map .str) = 0
  | [] => rfl
  | s :: l => by rw [List.map_cons, PyData.depthAll, depth_strs l]; simp [PyData.depth]
theorem shp_list {l : List Str} (ht : Txts l) : shp (.list (l.map .str)) = true := by
  unfold shp
  rw [PyData.canLay0, canLay_strs ht, PyData.depth, depth_strs]
  rfl
theorem eqW_list {neg : Bool} {ds : List D} {h : Hh} (hs : shp (.list ds) = true) : eqW neg (.dat (.list ds)) (.dat (.list ds)) h = some (.dat (.bool (!neg)), h) := by
  have e : PyData.eqv (.list ds) (.list ds) = true := SeqAt.eqv_refl _ (SeqAt.canLay_of_shaped hs)
  unfold eqW
  simp only [deref, eqS, hs, e, Bool.and_self, if_true]
  cases neg <;> rfl
theorem look_alike_ok {x y : D} {l m : List Str} {h : Hh} (hx : IsSeq x (l.map .str)) (hy : IsSeq y (m.map .str)) (p : l.Perm m) (ht : Txts l) : m_look_alike [.dat x, .dat y] h = some (.dat .none, h) := by
  have e1 := sortW_strs (h := h) hx ht
  have e2 := sortW_strs (h := h) hy (ht.perm p.symm)
  rw [← sortS_eq p] at e2
  have e3 := eqW_list (neg := true) (h := h) (shp_list (ht.perm (sortS_perm l)))
  have lv := leave_same' (h := h) (d := .none)
  unfold m_look_alike
  clear hx hy p ht
  walk_at "dl"
end DL
set_option maxRecDepth 100000
set_option maxHeartbeats 400000
namespace DL
open PySem L2
local macro_rules | `(tactic| walk_at "dl") => `(tactic| simp (config := { dsimp := false }) only [↓fnM_e, ↓sSeq_e, seqK_nx, seqK_rt, seqK_bk, seqK_ct, retK_rt, retK_nx, ↓sFrz_e, frK_some, ↓sAsg, ↓sRet, ↓sRetN, ↓sIf, ↓sExpr, ↓sSkip, ↓sNever, ↓sPar, ↓sFor, ↓sSub, ↓fVar, ↓fC, ↓fNil, ↓fCons, ↓fA, ↓f1, ↓f2, ↓fB, ↓fIf, ↓fNeg, ↓fNot, ↓fAnd, ↓fOr, ↓bNot, ↓bAnd, ↓bOr, ↓bYes, ↓obnd_x, ob_some, ↓sbnd_x, sb_some, ↓ite_x, iteK_t, iteK_f, gN, gT, gC, gE, ↓rng1I, ↓rng2I, ↓seqI, ↓enumA, ↓zipI, ↓strI, ↓fLc, ↓fDc, ↓fM, ↓fSl, ↓oNone, ↓oSome, ↓fRev, wipeE, ↓kwM, permM, permL, List.foldr, List.length_cons, List.length_nil, List.map_cons, List.map_nil, List.cons_append, List.nil_append, List.replicate, List.replicate_succ, List.replicate_zero, List.getElem?_cons_zero, List.getElem?_cons_succ, List.set_cons_zero, List.set_cons_succ, if_true, if_false, reduceIte, Nat.reduceAdd, Nat.reduceSub, Nat.reduceEqDiff, Nat.reduceLT, Nat.reduceLeDiff, Int.reduceLT, Int.reduceLE, Int.reduceNeg, Int.reduceMul, Int.reduceAdd, Int.reduceSub, Int.reduceToNat, Int.reducePow, Int.reduceEq, ok, bok, deref, mkL, lstW, tupW, dats, Option.map_some, appendW, insertW, setL, isL, listW, tupleW, lenW, absW, intC, maxW, minW, idxW, addW, subW_e, modW_e, divW_e, powW_e, mulW, intW, lt_e, gt_e, le_e, ge_e, ltW, allW_e, anyW_e, sumW_e, lW, setW, lstAt, cutW, backW, isW, isiW, iLT_none, iLT_bool, iLT_int, iLT_str, iLT_list, iLT_tup, iL_none, iL_bool, iL_int, iL_str, iL_list, iL_tup, iT_none, iT_bool, iT_int, iT_str, iT_list, iT_tup, iS_none, iS_bool, iS_int, iS_str, iS_list, iS_tup, iI_none, iI_bool, iI_int, iI_str, iI_list, iI_tup, iB_none, iB_bool, iB_int, iB_str, iB_list, iB_tup, Bool.false_eq_true, reduceCtorEq, Bool.not_true, Bool.not_false, decide_true, decide_false, List.zip_cons_cons, List.zip_nil_left, List.foldl_cons, List.foldl_nil, and_self, and_true, true_and, Bool.and_true, Bool.true_and, Bool.or_true, Bool.true_or, *])
def plc : Nat → List Str → List (Str × D)
  | _, [] => []
  | k, s :: r => (s, .int (k : Int)) :: plc (k + 1) r
theorem plc_keys : ∀ (k : Nat) (r : List Str), (plc k r).map (·.1) = r
  | _, [] => rfl
  | k, s :: r => by rw [plc, List.map_cons, plc_keys (k + 1) r]
theorem plc_look : ∀ (k : Nat) (r : List Str) (s : Str), (plc k r).lookup s = if s ∈ r then some (.int ((k + r.idxOf s : Nat) : Int)) else none
  | _, [], s => rfl
  | k, t :: r, s => by
    rw [plc, List.lookup_cons]
    by_cases h : s = t
    · subst h
      simp
    · have h1 : (s == t) = false := by simpa using h
      have h2 : (t == s) = false := by simpa using fun z => h z.symm
      rw [h1, plc_look (k + 1) r s]
      simp only [List.mem_cons, h, false_or]
      by_cases hm : s ∈ r
      · simp only [hm, if_true, List.idxOf_cons, h2, cond_false]
        rw [show k + 1 + List.idxOf s r = k + (List.idxOf s r + 1) by omega]
      · simp only [hm, if_false]
def enP : D → Str × D
  | .tuple [i, .str s] => (s, i)
  | _ => ("", .none)
theorem enum_plc : ∀ (k : Nat) (r : List Str), (enumD k (r.map .str)).map enP = plc k r
  | _, [] => rfl
  | k, s :: r => by rw [List.map_cons, enumD, List.map_cons, enum_plc (k + 1) r]; rfl
theorem enum_mem : ∀ {k : Nat} {r : List Str} {d : D}, d ∈ enumD k (r.map .str) → ∃ (i : Nat) (s : Str), d = .tuple [.int (i : Int), .str s]
  | _, [], _, h => by cases h
  | k, s :: r, d, h => by
    rw [List.map_cons, enumD] at h
    rcases List.mem_cons.mp h with rfl | h
    · exact ⟨k, s, rfl⟩
    · exact enum_mem h
theorem places_ok {x : D} {r : List Str} {h : Hh} (hx : IsSeq x (r.map .str)) (nd : r.Nodup) (hl : r.length ≤ 1000) : m_places_of [.dat x] h = some (.dat (.dict (sdic (plc 0 r))), h) := by
  have e := dcL_sdic (k := gT 2 (gC (gN 1) (gC (gN 2) gE))) (fk := fVar 2) (fv := fVar 1) (ρ := [some (.dat x), none, none]) (h := h) enP (ds := enumD 0 (r.map .str)) (l := []) (by rw [List.nil_append, enum_plc, plc_keys]; exact nd)
    (by rw [List.nil_append, List.length_map, enumD_len, List.length_map]; exact Nat.le_trans hl (by decide)) (by
      intro d hd
      obtain ⟨i, s, rfl⟩ := enum_mem hd
      refine ⟨[some (.dat x), some (.dat (.int i)), some (.dat (.str s))], ?_, rfl, rfl⟩
      walk_at "dl")
  rw [List.nil_append, enum_plc] at e
  have e' : dcL (gT 2 (gC (gN 1) (gC (gN 2) gE))) bYes (fVar 2) (fVar 1) [some (.dat x), none, none] (enumD 0 (r.map .str)) [] h = some (sdic (plc 0 r), h) := e
  have lv := leave_same' (h := h) (d := .dict (sdic (plc 0 r)))
  unfold m_places_of
  clear nd hl e
  rcases hx with rfl | rfl <;> (walk_at "dl"; simp only [mkK, Bool.false_eq_true, if_false, obnd_some, retK_rt]; walk_at "dl")
theorem place_ok {x : D} {r : List Str} {s : Str} {h : Hh} (hx : IsSeq x (r.map .str)) (nd : r.Nodup) (hl : r.length ≤ 1000) (hs : s ∈ r) : m_place_of [.dat x, .dat (.str s)] h = some (.dat (.int (r.idxOf s : Int)), h) := by
  have e := places_ok (h := h) hx nd hl
  have e2 : getD (sdic (plc 0 r)) (.str s) = some (some (.int (r.idxOf s : Int))) := by rw [getD_sdic, plc_look, if_pos hs, Nat.zero_add]
  have e3 : inW true (.dat (.str s)) (.dat (.dict (sdic (plc 0 r)))) h = some (.dat (.bool false), h) := by
    unfold inW
    simp only [deref, e2]
    rfl
  have lv := leave_same' (h := h) (d := .int (r.idxOf s : Int))
  unfold m_place_of
  clear hx nd hl hs
  walk_at "dl"
end DL
set_option maxRecDepth 100000
set_option maxHeartbeats 400000
namespace DL
open PySem L2
mutual
/-- texts, lists and tuples of such -/
def txD : D → Bool
  | .str s => decide (s.length ≤ 100) && s.cps.toList.all (· < 128)
  | .list ds => txDs ds
  | .tuple ds => txDs ds
  | .none => true
  | .bool _ => true
  | _ => false
def txDs : List D → Bool
  | [] => true
  | d :: ds => txD d && txDs ds
end
mutual
def costD : D → Nat
  | .str s => 10 * s.length + 2
  | .list ds => costDs ds + 3
  | .tuple ds => costDs ds + 3
  | _ => 5
def costDs : List D → Nat
  | [] => 0
  | d :: ds => costD d + 2 + costDs ds
end
theorem tx_str {s : Str} (h : TxtOk s) : txD (.str s) = true := by
  rw [txD]
  simp only [Bool.and_eq_true, decide_eq_true_eq, List.all_eq_true]
  exact ⟨h.1, fun c hc => h.2 c hc⟩
theorem str_tx {s : Str} (h : txD (.str s) = true) : TxtOk s := by
  rw [txD] at h
  simp only [Bool.and_eq_true, decide_eq_true_eq, List.all_eq_true] at h
  exact ⟨h.1, fun c hc => h.2 c hc⟩
mutual
theorem tx_lay : ∀ {d : D}, txD d = true → d.canLay0 = true ∧ d.showable = true ∧ d.shown.length ≤ costD d
  | .none, _ => by refine ⟨by simp [PyData.canLay0], by simp [PyData.showable], ?_⟩; rw [PyData.shown, costD]; · decide +kernel
                   all_goals simp
  | .bool b, _ => by
    refine ⟨by simp [PyData.canLay0], by simp [PyData.showable], ?_⟩
    rw [PyData.shown, costD]
    · cases b <;> decide +kernel
    all_goals simp
  | .int _, h => by simp [txD] at h
  | .dict _, h => by simp [txD] at h
  | .str s, h => by
    have t := str_tx h
    refine ⟨by rw [PyData.canLay0]; exact t.ok, by simp [PyData.showable], ?_⟩
    rw [PyData.shown, costD]
    exact StrLaws.reprText_len s fun c hc => by have := t.2 c hc; omega
  | .list ds, h => by
    rw [txD] at h
    obtain ⟨h1, h2, h3⟩ := tx_lays h
    refine ⟨by rw [PyData.canLay0]; exact h1, by rw [PyData.showable]; exact h2, ?_⟩
    rw [PyData.shown, costD]
    exact Nat.le_trans (listText_len_le _) (by omega)
  | .tuple ds, h => by
    rw [txD] at h
    obtain ⟨h1, h2, h3⟩ := tx_lays h
    refine ⟨by rw [PyData.canLay0]; exact h1, by rw [PyData.showable]; exact h2, ?_⟩
    rw [PyData.shown, costD]
    exact Nat.le_trans (tupleText_len_le _) (by omega)
theorem tx_lays : ∀ {ds : List D}, txDs ds = true → PyData.canLayAll0 ds = true ∧ PyData.showableAll ds = true ∧ ((PyData.shownAll ds).map (·.length)).sum + 2 * (PyData.shownAll ds).length ≤ costDs ds
  | [], _ => ⟨rfl, rfl, Nat.le_refl _⟩
  | d :: ds, h => by
    rw [txDs, Bool.and_eq_true] at h
    obtain ⟨a1, a2, a3⟩ := tx_lay h.1
    obtain ⟨b1, b2, b3⟩ := tx_lays h.2
    refine ⟨by rw [PyData.canLayAll0, a1, b1]; rfl, by rw [PyData.showableAll, a2, b2]; rfl, ?_⟩
    rw [PyData.shownAll, costDs, List.map_cons, List.sum_cons, List.length_cons]
    omega
end
end DL
set_option maxRecDepth 100000
set_option maxHeartbeats 400000
namespace DL
open PySem L2
local macro_rules | `(tactic| walk_at "dl") => `(tactic| simp (config := { dsimp := false }) only [↓fnM_e, ↓sSeq_e, seqK_nx, seqK_rt, seqK_bk, seqK_ct, retK_rt, retK_nx, ↓sFrz_e, frK_some, ↓sAsg, ↓sRet, ↓sRetN, ↓sIf, ↓sExpr, ↓sSkip, ↓sNever, ↓sPar, ↓sFor, ↓sSub, ↓fVar, ↓fC, ↓fNil, ↓fCons, ↓fA, ↓f1, ↓f2, ↓fB, ↓fIf, ↓fNeg, ↓fNot, ↓fAnd, ↓fOr, ↓bNot, ↓bAnd, ↓bOr, ↓bYes, ↓obnd_x, ob_some, ↓sbnd_x, sb_some, ↓ite_x, iteK_t, iteK_f, gN, gT, gC, gE, ↓rng1I, ↓rng2I, ↓seqI, ↓enumA, ↓zipI, ↓strI, ↓fLc, ↓fDc, ↓fM, ↓fSl, ↓oNone, ↓oSome, ↓fRev, wipeE, ↓kwM, permM, permL, List.foldr, List.length_cons, List.length_nil, List.map_cons, List.map_nil, List.cons_append, List.nil_append, List.replicate, List.replicate_succ, List.replicate_zero, List.getElem?_cons_zero, List.getElem?_cons_succ, List.set_cons_zero, List.set_cons_succ, if_true, if_false, reduceIte, Nat.reduceAdd, Nat.reduceSub, Nat.reduceEqDiff, Nat.reduceLT, Nat.reduceLeDiff, Int.reduceLT, Int.reduceLE, Int.reduceNeg, Int.reduceMul, Int.reduceAdd, Int.reduceSub, Int.reduceToNat, Int.reducePow, Int.reduceEq, ok, bok, deref, mkL, lstW, tupW, dats, Option.map_some, appendW, insertW, setL, isL, listW, tupleW, lenW, absW, intC, maxW, minW, idxW, addW, subW_e, modW_e, divW_e, powW_e, mulW, intW, lt_e, gt_e, le_e, ge_e, ltW, allW_e, anyW_e, sumW_e, lW, setW, lstAt, cutW, backW, isW, isiW, iLT_none, iLT_bool, iLT_int, iLT_str, iLT_list, iLT_tup, iL_none, iL_bool, iL_int, iL_str, iL_list, iL_tup, iT_none, iT_bool, iT_int, iT_str, iT_list, iT_tup, iS_none, iS_bool, iS_int, iS_str, iS_list, iS_tup, iI_none, iI_bool, iI_int, iI_str, iI_list, iI_tup, iB_none, iB_bool, iB_int, iB_str, iB_list, iB_tup, Bool.false_eq_true, reduceCtorEq, Bool.not_true, Bool.not_false, decide_true, decide_false, List.zip_cons_cons, List.zip_nil_left, List.foldl_cons, List.foldl_nil, and_self, and_true, true_and, Bool.and_true, Bool.true_and, Bool.or_true, Bool.true_or, *])
theorem zipD_map {α β : Type} (f : α → D) (g : β → D) : ∀ (l : List α) (m : List β), zipD (l.map f) (m.map g) = (l.zip m).map fun p => .tuple [f p.1, g p.2]
  | [], _ => by simp [zipD]
  | _ :: _, [] => by simp [zipD]
  | a :: l, b :: m => by simp [zipD, zipD_map f g l m]
theorem cut1 {α : Type} (xs : List α) : cutG xs (some 1) none = xs.drop 1 := by
  unfold cutG
  rw [show HT.sIx xs.length 0 (some 1) = min 1 xs.length from HT.sIx_nat xs.length 0 1, HT.sIx_none]
  cases xs with
  | nil => rfl
  | cons a l =>
    have e : min 1 (a :: l).length = 1 := by simp
    rw [e]
    apply List.take_of_length_le
    simp
def fallsN (r m : List Str) : Nat := ((m.zip (m.drop 1)).filter fun p => decide (r.idxOf p.2 < r.idxOf p.1)).length
def gtP : D → Bool
  | .tuple [.int a, .int b] => decide (b < a)
  | _ => false
def fstP : D → D
  | .tuple [a, _] => a
  | _ => .none
theorem falls_ok {x y : D} {r m : List Str} {h : Hh} (hx : IsSeq x (r.map .str)) (hy : IsSeq y (m.map .str)) (p : r.Perm m) (nd : r.Nodup) (hl : r.length ≤ 1000) (ht : Txts r) :
    m_falls [.dat x, .dat y] h = some (.dat (.int (fallsN r m : Int)), h) := by
  have e1 := look_alike_ok (h := h) hx hy p ht
  have ml : m.length ≤ 1000 := by rw [← p.length_eq]; exact hl
  let ix : Str → D := fun s => .int (r.idxOf s : Int)
  have sz : sizeLine = 16777216 := rfl
  have e2 : lcL (gN 3) bYes (fA (m_place_of) (fCons (fVar 0) (fCons (fVar 3) (fNil)))) [some (.dat x), some (.dat y), none, none, none, none] (m.map .str) h = some (m.map ix, h) := by
    rw [lcL_all (fun d => ix (unS d)) (ds := m.map .str)]
    · rw [List.map_map]; rfl
    · intro d hd
      obtain ⟨s, hs, rfl⟩ := List.mem_map.mp hd
      have e := place_ok (h := h) hx nd hl (p.mem_iff.mpr hs)
      refine ⟨[some (.dat x), some (.dat y), none, some (.dat (.str s)), none, none], rfl, rfl, ?_⟩
      clear hx hy
      walk_at "dl"
      rfl
  have e3 : zipD (m.map ix) ((m.map ix).drop 1) = (m.zip (m.drop 1)).map fun p => .tuple [ix p.1, ix p.2] := by rw [← List.map_drop, zipD_map]
  have e4 : lcL (gT 2 (gC (gN 4) (gC (gN 5) (gE)))) (fB (f2 gt_W (fVar 4) (fVar 5))) (fVar 4) [some (.dat x), some (.dat y), some (.dat (.list (m.map ix))), none, none, none] (zipD (m.map ix) ((m.map ix).drop 1)) h =
      some ((((m.zip (m.drop 1)).map fun p => PyData.tuple [ix p.1, ix p.2]).filter gtP).map fstP, h) := by
    rw [e3]
    apply lcL_map gtP fstP
    intro d hd
    obtain ⟨q, hq, rfl⟩ := List.mem_map.mp hd
    refine ⟨[some (.dat x), some (.dat y), some (.dat (.list (m.map ix))), none, some (.dat (ix q.1)), some (.dat (ix q.2))], ?_, ?_, fun _ => rfl⟩
    · clear hx hy e1 e2 e3
      walk_at "dl"
    · show fB (f2 gt_W (fVar 4) (fVar 5)) [some (.dat x), some (.dat y), some (.dat (.list (m.map ix))), none, some (.dat (.int (r.idxOf q.1 : Int))), some (.dat (.int (r.idxOf q.2 : Int)))] h = some (decide ((r.idxOf q.2 : Int) < (r.idxOf q.1 : Int)), h)
      clear hx hy e1 e2 e3
      walk_at "dl"
  have e5 : ((((m.zip (m.drop 1)).map fun p => PyData.tuple [ix p.1, ix p.2]).filter gtP).map fstP).length = fallsN r m := by
    rw [List.length_map, List.filter_map, List.length_map]
    unfold fallsN
    congr 2
    funext q
    show decide ((r.idxOf q.2 : Int) < (r.idxOf q.1 : Int)) = _
    simp
  have l1 : (m.map ix).length ≤ sizeLine := by rw [List.length_map]; omega
  have ez : zipOk (m.map ix) ((m.map ix).drop 1) = true := zipOk_int _ _ _
  have l2 : ((((m.zip (m.drop 1)).map fun p => PyData.tuple [ix p.1, ix p.2]).filter gtP).map fstP).length ≤ sizeLine := by
    rw [List.length_map]
    refine Nat.le_trans (List.length_filter_le _ _) ?_
    rw [List.length_map, List.length_zip]
    omega
  rw [e5] at l2
  have c1 := cut1 (m.map ix)
  have lv := leave_same' (h := h) (d := .int (fallsN r m : Int))
  unfold m_falls
  clear hx p nd hl ht ml sz e3
  rcases hy with rfl | rfl <;> walk_at "dl"
theorem idx_of {r : List Str} (nd : r.Nodup) {i : Nat} (hi : i < r.length) : r.idxOf r[i] = i := nd.idxOf_getElem i hi
end DL
set_option maxRecDepth 100000
set_option maxHeartbeats 400000
namespace DL
open PySem L2
def Pre (h0 h : Hh) : Prop := ∀ i : Nat, i < h0.length → h[i]? = h0[i]?
theorem Pre.only {h0 h h' : Hh} {b : Nat} (p : Pre h0 h) (hb : h0.length ≤ b) (o : Only b h h') : Pre h0 h' := fun i hi => (o.off i (by omega)).trans (p i hi)
theorem Pre.app {h0 h l : Hh} (p : Pre h0 h) (hl : h0.length ≤ h.length) : Pre h0 (h ++ l) := fun i hi => by
  rw [List.getElem?_append_left (by omega)]; exact p i hi
theorem Pre.take {h0 h : Hh} (p : Pre h0 h) (hl : h0.length ≤ h.length) : h.take h0.length = h0 := by
  apply List.ext_getElem?
  intro i
  by_cases hi : i < h0.length
  · rw [List.getElem?_take_of_lt hi]; exact p i hi
  · rw [List.getElem?_eq_none (by rw [List.length_take]; omega), List.getElem?_eq_none (by omega)]
end DL
set_option maxRecDepth 100000
set_option maxHeartbeats 400000
namespace DL
open PySem L2
local macro_rules | `(tactic| walk_at "dl") => `(tactic| simp (config := { dsimp := false }) only [↓fnM_e, ↓sSeq_e, seqK_nx, seqK_rt, seqK_bk, seqK_ct, retK_rt, retK_nx, ↓sFrz_e, frK_some, ↓sAsg, ↓sRet, ↓sRetN, ↓sIf, ↓sExpr, ↓sSkip, ↓sNever, ↓sPar, ↓sFor, ↓sSub, ↓fVar, ↓fC, ↓fNil, ↓fCons, ↓fA, ↓f1, ↓f2, ↓fB, ↓fIf, ↓fNeg, ↓fNot, ↓fAnd, ↓fOr, ↓bNot, ↓bAnd, ↓bOr, ↓bYes, ↓obnd_x, ob_some, ↓sbnd_x, sb_some, ↓ite_x, iteK_t, iteK_f, gN, gT, gC, gE, ↓rng1I, ↓rng2I, ↓seqI, ↓enumA, ↓zipI, ↓strI, ↓fLc, ↓fDc, ↓fM, ↓fSl, ↓oNone, ↓oSome, ↓fRev, wipeE, ↓kwM, permM, permL, List.foldr, List.length_cons, List.length_nil, List.map_cons, List.map_nil, List.cons_append, List.nil_append, List.replicate, List.replicate_succ, List.replicate_zero, List.getElem?_cons_zero, List.getElem?_cons_succ, List.set_cons_zero, List.set_cons_succ, if_true, if_false, reduceIte, Nat.reduceAdd, Nat.reduceSub, Nat.reduceEqDiff, Nat.reduceLT, Nat.reduceLeDiff, Int.reduceLT, Int.reduceLE, Int.reduceNeg, Int.reduceMul, Int.reduceAdd, Int.reduceSub, Int.reduceToNat, Int.reducePow, Int.reduceEq, ok, bok, deref, mkL, lstW, tupW, dats, Option.map_some, appendW, insertW, setL, isL, listW, tupleW, lenW, absW, intC, maxW, minW, idxW, addW, subW_e, modW_e, divW_e, powW_e, mulW, intW, lt_e, gt_e, le_e, ge_e, ltW, allW_e, anyW_e, sumW_e, lW, setW, lstAt, cutW, backW, isW, isiW, iLT_none, iLT_bool, iLT_int, iLT_str, iLT_list, iLT_tup, iL_none, iL_bool, iL_int, iL_str, iL_list, iL_tup, iT_none, iT_bool, iT_int, iT_str, iT_list, iT_tup, iS_none, iS_bool, iS_int, iS_str, iS_list, iS_tup, iI_none, iI_bool, iI_int, iI_str, iI_list, iI_tup, iB_none, iB_bool, iB_int, iB_str, iB_list, iB_tup, Bool.false_eq_true, reduceCtorEq, Bool.not_true, Bool.not_false, decide_true, decide_false, List.zip_cons_cons, List.zip_nil_left, List.foldl_cons, List.foldl_nil, and_self, and_true, true_and, Bool.and_true, Bool.true_and, Bool.or_true, Bool.true_or, *])
def prW (l : Bool) (p : Str × Str) : D := if l = true then .list [.str p.1, .str p.2] else .tuple [.str p.1, .str p.2]
abbrev prT (p : Str × Str) : D := .tuple [.str p.1, .str p.2]
def tld (ps : List (Str × Str)) : List (Str × D) := ps.map fun p => (p.1, .str p.2)
theorem tld_keys (ps : List (Str × Str)) : (tld ps).map (·.1) = ps.map (·.1) := by simp [tld]
def unP : D → Str × D
  | .tuple [.str a, d] => (a, d)
  | .list [.str a, d] => (a, d)
  | _ => ("", .none)
theorem unP_map (l : Bool) (ps : List (Str × Str)) : (ps.map (prW l)).map unP = tld ps := by
  rw [List.map_map]
  unfold tld
  apply List.map_congr_left
  intro p _
  cases l <;> rfl
theorem by_names_ok {x : D} {l : Bool} {ps : List (Str × Str)} {h : Hh} (hx : IsSeq x (ps.map (prW l))) (nd : (ps.map (·.1)).Nodup) (hl : ps.length ≤ 1000) : m_by_names [.dat x] h = some (.dat (.dict (sdic (tld ps))), h) := by
  have e := dcL_sdic (k := gT 2 (gC (gN 1) (gC (gN 2) gE))) (fk := fVar 1) (fv := fVar 2) (ρ := [some (.dat x), none, none]) (h := h) unP (ds := ps.map (prW l)) (l := []) (by rw [List.nil_append, unP_map, tld_keys]; exact nd)
    (by rw [List.nil_append, List.length_map, List.length_map]; exact Nat.le_trans hl (by decide)) (by
      intro d hd
      obtain ⟨p, _, rfl⟩ := List.mem_map.mp hd
      refine ⟨[some (.dat x), some (.dat (.str p.1)), some (.dat (.str p.2))], ?_, ?_, ?_⟩
      · clear hx hd
        cases l <;> (unfold prW; walk_at "dl")
      · cases l <;> rfl
      · cases l <;> rfl)
  rw [List.nil_append, unP_map] at e
  have e' : dcL (gT 2 (gC (gN 1) (gC (gN 2) gE))) bYes (fVar 1) (fVar 2) [some (.dat x), none, none] (ps.map (prW l)) [] h = some (sdic (tld ps), h) := e
  have lv := leave_same' (h := h) (d := .dict (sdic (tld ps)))
  unfold m_by_names
  clear nd hl e
  rcases hx with rfl | rfl <;> (walk_at "dl"; simp only [mkK, Bool.false_eq_true, if_false, obnd_some, retK_rt]; walk_at "dl")
end DL
set_option maxRecDepth 100000
set_option maxHeartbeats 400000
namespace DL
open PySem L2
local macro_rules | `(tactic| walk_at "dl") => `(tactic| simp (config := { dsimp := false }) only [↓fnM_e, ↓sSeq_e, seqK_nx, seqK_rt, seqK_bk, seqK_ct, retK_rt, retK_nx, ↓sFrz_e, frK_some, ↓sAsg, ↓sRet, ↓sRetN, ↓sIf, ↓sExpr, ↓sSkip, ↓sNever, ↓sPar, ↓sFor, ↓sSub, ↓fVar, ↓fC, ↓fNil, ↓fCons, ↓fA, ↓f1, ↓f2, ↓fB, ↓fIf, ↓fNeg, ↓fNot, ↓fAnd, ↓fOr, ↓bNot, ↓bAnd, ↓bOr, ↓bYes, ↓obnd_x, ob_some, ↓sbnd_x, sb_some, ↓ite_x, iteK_t, iteK_f, gN, gT, gC, gE, ↓rng1I, ↓rng2I, ↓seqI, ↓enumA, ↓zipI, ↓strI, ↓fLc, ↓fDc, ↓fM, ↓fSl, ↓oNone, ↓oSome, ↓fRev, wipeE, ↓kwM, permM, permL, List.foldr, List.length_cons, List.length_nil, List.map_cons, List.map_nil, List.cons_append, List.nil_append, List.replicate, List.replicate_succ, List.replicate_zero, List.getElem?_cons_zero, List.getElem?_cons_succ, List.set_cons_zero, List.set_cons_succ, if_true, if_false, reduceIte, Nat.reduceAdd, Nat.reduceSub, Nat.reduceEqDiff, Nat.reduceLT, Nat.reduceLeDiff, Int.reduceLT, Int.reduceLE, Int.reduceNeg, Int.reduceMul, Int.reduceAdd, Int.reduceSub, Int.reduceToNat, Int.reducePow, Int.reduceEq, ok, bok, deref, mkL, lstW, tupW, dats, Option.map_some, appendW, insertW, setL, isL, listW, tupleW, lenW, absW, intC, maxW, minW, idxW, addW, subW_e, modW_e, divW_e, powW_e, mulW, intW, lt_e, gt_e, le_e, ge_e, ltW, allW_e, anyW_e, sumW_e, lW, setW, lstAt, cutW, backW, isW, isiW, iLT_none, iLT_bool, iLT_int, iLT_str, iLT_list, iLT_tup, iL_none, iL_bool, iL_int, iL_str, iL_list, iL_tup, iT_none, iT_bool, iT_int, iT_str, iT_list, iT_tup, iS_none, iS_bool, iS_int, iS_str, iS_list, iS_tup, iI_none, iI_bool, iI_int, iI_str, iI_list, iI_tup, iB_none, iB_bool, iB_int, iB_str, iB_list, iB_tup, Bool.false_eq_true, reduceCtorEq, Bool.not_true, Bool.not_false, decide_true, decide_false, List.zip_cons_cons, List.zip_nil_left, List.foldl_cons, List.foldl_nil, and_self, and_true, true_and, Bool.and_true, Bool.true_and, Bool.or_true, Bool.true_or, *])
def goal (ps : List (Str × Str)) (s : Str) : Str := (ps.lookup s).getD s
def keyN (r : List Str) (ps : List (Str × Str)) (s : Str) : Nat × Nat := (r.idxOf (goal ps s), r.idxOf s)
def leK (a b : Nat × Nat) : Bool := decide (a.1 < b.1 ∨ (a.1 = b.1 ∧ a.2 ≤ b.2))
def led (r : List Str) (ps : List (Str × Str)) : List Str := r.mergeSort fun a b => leK (keyN r ps a) (keyN r ps b)
theorem leK_trans (a b c : Nat × Nat) (h1 : leK a b = true) (h2 : leK b c = true) : leK a c = true := by
  unfold leK at *
  simp only [decide_eq_true_eq] at *
  omega
theorem leK_total (a b : Nat × Nat) : (leK a b || leK b a) = true := by
  unfold leK
  simp only [Bool.or_eq_true, decide_eq_true_eq]
  omega
theorem led_perm (r : List Str) (ps : List (Str × Str)) : (led r ps).Perm r := List.mergeSort_perm _ _
theorem led_pw (r : List Str) (ps : List (Str × Str)) : (led r ps).Pairwise fun a b => leK (keyN r ps a) (keyN r ps b) = true :=
  List.pairwise_mergeSort (le := fun a b => leK (keyN r ps a) (keyN r ps b)) (fun a b c => leK_trans _ _ _) (fun a b => leK_total _ _) r
structure CallOf (r : List Str) (ps : List (Str × Str)) : Prop where
  perm : (ps.map (·.1)).Perm r
  tgt : ∀ p ∈ ps, p.2 ∈ r
theorem CallOf.nodup {r : List Str} {ps : List (Str × Str)} (c : CallOf r ps) (nd : r.Nodup) : (ps.map (·.1)).Nodup := c.perm.nodup_iff.mpr nd
theorem CallOf.of_perm {r r' : List Str} {ps : List (Str × Str)} (c : CallOf r ps) (p : r.Perm r') : CallOf r' ps := ⟨c.perm.trans p, fun q hq => p.mem_iff.mp (c.tgt q hq)⟩
theorem look_tld : ∀ (ps : List (Str × Str)) (s : Str), (tld ps).lookup s = (ps.lookup s).map .str
  | [], s => rfl
  | (a, b) :: ps, s => by
    have ih := look_tld ps s
    unfold tld at ih ⊢
    rw [List.map_cons, List.lookup_cons, List.lookup_cons]
    cases s == a with
    | true => rfl
    | false => exact ih
theorem look_mem : ∀ {ps : List (Str × Str)} {s : Str}, s ∈ ps.map (·.1) → ∃ t, ps.lookup s = some t ∧ (s, t) ∈ ps
  | [], s, h => by cases h
  | (a, b) :: ps, s, h => by
    rw [List.lookup_cons]
    cases e : s == a with
    | true =>
      have : s = a := by simpa using e
      subst this
      exact ⟨b, rfl, List.mem_cons_self⟩
    | false =>
      have hne : s ≠ a := by simpa using e
      rw [List.map_cons] at h
      rcases List.mem_cons.mp h with z | h
      · exact absurd z hne
      · obtain ⟨t, h1, h2⟩ := look_mem h
        exact ⟨t, h1, List.mem_cons_of_mem _ h2⟩
theorem CallOf.goal_mem {r : List Str} {ps : List (Str × Str)} (c : CallOf r ps) {s : Str} (hs : s ∈ r) : ps.lookup s = some (goal ps s) ∧ goal ps s ∈ r := by
  obtain ⟨t, h1, h2⟩ := look_mem (c.perm.mem_iff.mpr hs)
  have e : goal ps s = t := by unfold goal; rw [h1]; rfl
  rw [e]
  exact ⟨h1, c.tgt _ h2⟩
end DL
set_option maxRecDepth 100000
set_option maxHeartbeats 400000
namespace DL
open PySem L2
local macro_rules | `(tactic| walk_at "dl") => `(tactic| simp (config := { dsimp := false }) only [↓fnM_e, ↓sSeq_e, seqK_nx, seqK_rt, seqK_bk, seqK_ct, retK_rt, retK_nx, ↓sFrz_e, frK_some, ↓sAsg, ↓sRet, ↓sRetN, ↓sIf, ↓sExpr, ↓sSkip, ↓sNever, ↓sPar, ↓sFor, ↓sSub, ↓fVar, ↓fC, ↓fNil, ↓fCons, ↓fA, ↓f1, ↓f2, ↓fB, ↓fIf, ↓fNeg, ↓fNot, ↓fAnd, ↓fOr, ↓bNot, ↓bAnd, ↓bOr, ↓bYes, ↓obnd_x, ob_some, ↓sbnd_x, sb_some, ↓ite_x, iteK_t, iteK_f, gN, gT, gC, gE, ↓rng1I, ↓rng2I, ↓seqI, ↓enumA, ↓zipI, ↓strI, ↓fLc, ↓fDc, ↓fM, ↓fSl, ↓oNone, ↓oSome, ↓fRev, wipeE, ↓kwM, permM, permL, List.foldr, List.length_cons, List.length_nil, List.map_cons, List.map_nil, List.cons_append, List.nil_append, List.replicate, List.replicate_succ, List.replicate_zero, List.getElem?_cons_zero, List.getElem?_cons_succ, List.set_cons_zero, List.set_cons_succ, if_true, if_false, reduceIte, Nat.reduceAdd, Nat.reduceSub, Nat.reduceEqDiff, Nat.reduceLT, Nat.reduceLeDiff, Int.reduceLT, Int.reduceLE, Int.reduceNeg, Int.reduceMul, Int.reduceAdd, Int.reduceSub, Int.reduceToNat, Int.reducePow, Int.reduceEq, ok, bok, deref, mkL, lstW, tupW, dats, Option.map_some, appendW, insertW, setL, isL, listW, tupleW, lenW, absW, intC, maxW, minW, idxW, addW, subW_e, modW_e, divW_e, powW_e, mulW, intW, lt_e, gt_e, le_e, ge_e, ltW, allW_e, anyW_e, sumW_e, lW, setW, lstAt, cutW, backW, isW, isiW, iLT_none, iLT_bool, iLT_int, iLT_str, iLT_list, iLT_tup, iL_none, iL_bool, iL_int, iL_str, iL_list, iL_tup, iT_none, iT_bool, iT_int, iT_str, iT_list, iT_tup, iS_none, iS_bool, iS_int, iS_str, iS_list, iS_tup, iI_none, iI_bool, iI_int, iI_str, iI_list, iI_tup, iB_none, iB_bool, iB_int, iB_str, iB_list, iB_tup, Bool.false_eq_true, reduceCtorEq, Bool.not_true, Bool.not_false, decide_true, decide_false, List.zip_cons_cons, List.zip_nil_left, List.foldl_cons, List.foldl_nil, and_self, and_true, true_and, Bool.and_true, Bool.true_and, Bool.or_true, Bool.true_or, *])
theorem prW_false : prW false = prT := by funext p; rfl
theorem of_ok {x : D} {ds : List D} {h : Hh} {b c : Nat} (hx : IsSeq x ds) (hb : BoxAt h b c) (hc : c < 1000000000) (h0 : 0 < ds.length) (h1 : ds.length ≤ 1000) :
    ∃ d h', m__law_of [.ref b, .dat x] h = some (.dat d, h') ∧ d ∈ ds ∧ BoxAt h' b (c + 1) ∧ Only b h h' := by
  obtain ⟨r, h', e, r0, r1, b1, o1⟩ := take_ok (n := (ds.length : Int)) hb (by omega) (by omega) (by omega)
  have hr : r.toNat < ds.length := by omega
  have e2 : L2.atI ds r = some ds[r.toNat] := by
    have := atI_nat (xs := ds) (j := r.toNat) (List.getElem?_eq_getElem hr)
    rwa [show ((r.toNat : Nat) : Int) = r by omega] at this
  obtain ⟨d, hd, e3⟩ : ∃ d, d ∈ ds ∧ L2.atI ds r = some d := ⟨_, List.getElem_mem hr, e2⟩
  refine ⟨d, h', ?_, hd, b1, o1⟩
  have lv := leave_dat' (d := d) hb b1 o1
  unfold m__law_of
  clear e2 hd hb b1 o1 r0 r1 hr h0 h1 hc
  rcases hx with rfl | rfl <;> walk_at "dl"
end DL
set_option maxRecDepth 100000
set_option maxHeartbeats 400000
namespace DL
open PySem L2
theorem eqW_ints {neg : Bool} {i j : Int} {h : Hh} : eqW neg (.dat (.int i)) (.dat (.int j)) h = bok (if neg = true then !decide (i = j) else decide (i = j)) h := by
  rfl
theorem cut_to {α : Type} (xs : List α) {k : Nat} : cutG xs none (some (k : Int)) = xs.take k := by
  have e : HT.sIx xs.length xs.length (some (k : Int)) = min k xs.length := HT.sIx_nat _ _ _
  have e0 : HT.sIx xs.length 0 none = 0 := rfl
  unfold cutG
  rw [e, e0]
  simp only [List.drop_zero, Nat.sub_zero]
  rw [List.take_eq_take_iff]
  omega
end DL
set_option maxRecDepth 100000
set_option maxHeartbeats 400000
namespace DL
open PySem L2
theorem app_take {g : Hh} {o : Option MO} {n : Nat} (e : g.length = n) : (g ++ [o]).take n = g := by
  rw [← e, List.take_append_of_le_length (Nat.le_refl _), List.take_length]
theorem app_get {g : Hh} {o : Option MO} {n : Nat} (e : g.length = n) : (g ++ [o])[n]? = some o := by
  rw [List.getElem?_append_right (by omega), e]; simp
theorem app_set {g : Hh} {o o' : Option MO} {n : Nat} (e : g.length = n) : (g ++ [o]).set n o' = g ++ [o'] := by
  rw [List.set_append_right _ _ (by omega), show n - g.length = 0 by omega]; rfl
end DL
set_option maxRecDepth 100000
set_option maxHeartbeats 400000
namespace DL
open PySem L2
def NameOk (s : Str) : Prop := 1 ≤ s.length ∧ s.length ≤ 6 ∧ ∀ c ∈ s.cps.toList, 97 ≤ c ∧ c ≤ 122
theorem nm_name {st sp a : Nat} : NameOk (nm st sp a) := by
  refine ⟨?_, ?_, fun c hc => ?_⟩
  · unfold nm
    rw [len_app]
    show 1 ≤ 1 + _
    omega
  · unfold nm
    rw [len_app]
    have := sfx_le (a % 2 * (1 + st % 2))
    show 1 + _ ≤ _
    omega
  · rw [nm_cps] at hc
    rcases List.mem_cons.mp hc with rfl | hc
    · omega
    · generalize a % 2 * (1 + st % 2) = k at hc
      match k, hc with
      | 0, hc => rw [sfx_len.1] at hc; cases hc
      | 1, hc => rw [sfx_len.2.1] at hc; simp at hc; omega
      | _ + 2, hc =>
        have hc' : c ∈ (sfx 2).cps.toList := hc
        rw [sfx_len.2.2] at hc'; simp at hc'; omega
theorem Crew.names {most : Nat} {rs : List Str} (h : Crew most rs) : ∀ s ∈ rs, NameOk s := fun s hs => by
  obtain ⟨st, sp, a, _, _, rfl⟩ := h.nam s hs
  exact nm_name
end DL
set_option maxRecDepth 100000
set_option maxHeartbeats 400000
namespace DL
open PySem L2
theorem depth_pairs : ∀ ps : List (Str × Str), PyData.depthAll (ps.map prT) ≤ 1
  | [] => Nat.zero_le _
  | a :: l => by
    rw [List.map_cons, PyData.depthAll]
    have := depth_pairs l
    have e : PyData.depth (prT a) = 1 := rfl
    omega
theorem depth_call (ps : List (Str × Str)) : PyData.depth (.tuple (ps.map prT)) ≤ 2 := by
  rw [PyData.depth]
  have := depth_pairs ps
  omega
abbrev TxtP (ps : List (Str × Str)) : Prop := ∀ p ∈ ps, TxtOk p.1 ∧ TxtOk p.2
theorem CallOf.txts {r : List Str} {ps : List (Str × Str)} (c : CallOf r ps) (ht : Txts r) : TxtP ps := fun p hp =>
  ⟨ht _ (c.perm.mem_iff.mp (List.mem_map.mpr ⟨p, hp, rfl⟩)), ht _ (c.tgt p hp)⟩
theorem tx_pairs : ∀ {ps : List (Str × Str)}, TxtP ps → txDs (ps.map prT) = true
  | [], _ => rfl
  | p :: ps, h => by
    obtain ⟨h1, h2⟩ := h p List.mem_cons_self
    rw [List.map_cons, txDs, tx_pairs fun q hq => h q (List.mem_cons_of_mem _ hq)]
    simp only [prT, txD, txDs, tx_str h1, tx_str h2, Bool.and_true]
    have a := tx_str h1
    have b := tx_str h2
    rw [txD] at a b
    rw [a, b]; rfl
theorem prTx_pairs : ∀ ps : List (Str × Str), prTx (ps.map prT) = some ps
  | [] => rfl
  | p :: ps => by
    rw [List.map_cons]
    show (prTx (ps.map prT)).map ((p.1, p.2) :: ·) = _
    rw [prTx_pairs ps]; rfl
theorem callD_pairs {ps : List (Str × Str)} (h0 : 0 < ps.length) (nd : (ps.map (·.1)).Nodup) : callD (ps.map prT) = true := by
  suffices e : pairD (ps.map prT) = true by
    unfold callD
    first | rw [e, Bool.true_or] | rw [e]
  unfold pairD
  rw [prTx_pairs]
  cases ps with
  | nil => simp at h0
  | cons p ps => simp only [List.isEmpty_cons, Bool.not_false, Bool.true_and, decide_eq_true_eq]; exact nd
theorem prs_tld (ps : List (Str × Str)) : ps.map prT = prs (tld ps) := by
  unfold prs tld
  rw [List.map_map]; rfl
theorem dict_call {ps : List (Str × Str)} {h : Hh} (h0 : 0 < ps.length) (nd : (ps.map (·.1)).Nodup) : dictA false [.dat (.tuple (ps.map prT))] h = some (.dat (.dict (sdic (tld ps))), h) := by
  have e := pairsK_prs (tld ps)
  have e2 := merge_sdic (tld ps) [] (by rw [List.nil_append, tld_keys]; exact nd)
  have e3 : mergeD [] ((tld ps).map fun p => (Sum.inr p.1, p.2)) = sdic (tld ps) := e2
  have ec := callD_pairs h0 nd
  unfold dictA
  simp only [deref, ec, if_true]
  rw [prs_tld, e]
  simp only [e3, mkK, Bool.false_eq_true, if_false]
end DL
set_option maxRecDepth 100000
set_option maxHeartbeats 400000
namespace DL
open PySem L2
theorem led_self {r : List Str} {ps : List (Str × Str)} (h : r.Pairwise fun a b => leK (keyN r ps a) (keyN r ps b) = true) : led r ps = r := List.mergeSort_of_pairwise h
theorem goal_stay : ∀ (l : List Str) (s : Str), goal (l.map fun s => (s, s)) s = s
  | [], s => rfl
  | t :: l, s => by
    have ih := goal_stay l s
    unfold goal at ih ⊢
    rw [List.map_cons, List.lookup_cons]
    cases e : s == t with
    | true => have : s = t := by simpa using e
              subst this; rfl
    | false => exact ih
theorem pw_idx {r : List Str} (nd : r.Nodup) : r.Pairwise fun a b => r.idxOf a < r.idxOf b := by
  rw [List.pairwise_iff_getElem]
  intro i j hi hj hij
  rw [idx_of nd hi, idx_of nd hj]
  exact hij
theorem call_stay {r l : List Str} (p : l.Perm r) : CallOf r (l.map fun s => (s, s)) := by
  refine ⟨?_, fun q hq => ?_⟩
  · rw [List.map_map]
    show (l.map fun s => s).Perm r
    rwa [List.map_id']
  · obtain ⟨s, hs, rfl⟩ := List.mem_map.mp hq
    exact p.mem_iff.mp hs
theorem led_stay {r : List Str} (nd : r.Nodup) (l : List Str) : led r (l.map fun s => (s, s)) = r := led_self (by
  refine (pw_idx nd).imp ?_
  intro a b hab
  unfold leK keyN
  simp only [goal_stay, decide_eq_true_eq]
  omega)
end DL
set_option maxRecDepth 100000
set_option maxHeartbeats 400000
namespace DL
open PySem L2
structure Folk (most : Nat) (rs : List Str) : Prop where
  nd : rs.Nodup
  pos : 0 < rs.length
  le : rs.length ≤ most
  nam : ∀ s ∈ rs, NameOk s
theorem NameOk.txt {s : Str} (h : NameOk s) : TxtOk s := ⟨by have := h.2.1; omega, fun c hc => by have := h.2.2 c hc; omega⟩
theorem Folk.txts {n : Nat} {rs : List Str} (h : Folk n rs) : Txts rs := fun s hs => (h.nam s hs).txt
theorem Folk.perm {n : Nat} {rs ms : List Str} (h : Folk n rs) (p : ms.Perm rs) : Folk n ms := ⟨p.nodup_iff.mpr h.nd, by rw [p.length_eq]; exact h.pos, by rw [p.length_eq]; exact h.le, fun s hs => h.nam s (p.mem_iff.mp hs)⟩
abbrev cT (ps : List (Str × Str)) : D := .tuple (ps.map prT)
abbrev Words (r : List Str) (ws : List (List (Str × Str))) : Prop := ∀ ps ∈ ws, CallOf r ps
theorem Words.perm {r r' : List Str} {ws : List (List (Str × Str))} (h : Words r ws) (p : r.Perm r') : Words r' ws := fun ps hp => (h ps hp).of_perm p
end DL
set_option maxRecDepth 100000
set_option maxHeartbeats 400000
namespace DL
open PySem L2
local macro_rules | `(tactic| walk_at "dl") => `(tactic| simp (config := { dsimp := false }) only [↓fnM_e, ↓sSeq_e, seqK_nx, seqK_rt, seqK_bk, seqK_ct, retK_rt, retK_nx, ↓sFrz_e, frK_some, ↓sAsg, ↓sRet, ↓sRetN, ↓sIf, ↓sExpr, ↓sSkip, ↓sNever, ↓sPar, ↓sFor, ↓sSub, ↓fVar, ↓fC, ↓fNil, ↓fCons, ↓fA, ↓f1, ↓f2, ↓fB, ↓fIf, ↓fNeg, ↓fNot, ↓fAnd, ↓fOr, ↓bNot, ↓bAnd, ↓bOr, ↓bYes, ↓obnd_x, ob_some, ↓sbnd_x, sb_some, ↓ite_x, iteK_t, iteK_f, gN, gT, gC, gE, ↓rng1I, ↓rng2I, ↓seqI, ↓enumA, ↓zipI, ↓strI, ↓fLc, ↓fDc, ↓fM, ↓fSl, ↓oNone, ↓oSome, ↓fRev, wipeE, ↓kwM, permM, permL, List.foldr, List.length_cons, List.length_nil, List.map_cons, List.map_nil, List.cons_append, List.nil_append, List.replicate, List.replicate_succ, List.replicate_zero, List.getElem?_cons_zero, List.getElem?_cons_succ, List.set_cons_zero, List.set_cons_succ, if_true, if_false, reduceIte, Nat.reduceAdd, Nat.reduceSub, Nat.reduceEqDiff, Nat.reduceLT, Nat.reduceLeDiff, Int.reduceLT, Int.reduceLE, Int.reduceNeg, Int.reduceMul, Int.reduceAdd, Int.reduceSub, Int.reduceToNat, Int.reducePow, Int.reduceEq, ok, bok, deref, mkL, lstW, tupW, dats, Option.map_some, appendW, insertW, setL, isL, listW, tupleW, lenW, absW, intC, maxW, minW, idxW, addW, subW_e, modW_e, divW_e, powW_e, mulW, intW, lt_e, gt_e, le_e, ge_e, ltW, allW_e, anyW_e, sumW_e, lW, setW, lstAt, cutW, backW, isW, isiW, iLT_none, iLT_bool, iLT_int, iLT_str, iLT_list, iLT_tup, iL_none, iL_bool, iL_int, iL_str, iL_list, iL_tup, iT_none, iT_bool, iT_int, iT_str, iT_list, iT_tup, iS_none, iS_bool, iS_int, iS_str, iS_list, iS_tup, iI_none, iI_bool, iI_int, iI_str, iI_list, iI_tup, iB_none, iB_bool, iB_int, iB_str, iB_list, iB_tup, Bool.false_eq_true, reduceCtorEq, Bool.not_true, Bool.not_false, decide_true, decide_false, List.zip_cons_cons, List.zip_nil_left, List.foldl_cons, List.foldl_nil, and_self, and_true, true_and, Bool.and_true, Bool.true_and, Bool.or_true, Bool.true_or, *])
abbrev dW (ps : List (Str × Str)) : D := .dict (sdic (tld ps))
theorem eqW_strs {neg : Bool} {i j : Str} {h : Hh} : eqW neg (.dat (.str i)) (.dat (.str j)) h = bok (if neg = true then !decide (i = j) else decide (i = j)) h := by
  unfold eqW
  simp only [deref, eqS]
def cD (l : Bool) (ps : List (Str × Str)) : D := if l = true then .list (ps.map (prW true)) else .tuple (ps.map prT)
theorem cD_seq (l : Bool) (ps : List (Str × Str)) : IsSeq (cD l ps) (ps.map (prW l)) := by
  cases l
  · exact .inr (by rw [prW_false]; rfl)
  · exact .inl rfl
theorem ways_ok {x : D} {l : Bool} {r : List Str} {ws : List (List (Str × Str))} {h : Hh} (hx : IsSeq x (ws.map (cD l))) (c : Words r ws) (nd : r.Nodup) (hr : r.length ≤ 1000) (hw : ws.length ≤ 1000) : m_ways_back [.dat x] h = some (.dat (.list (ws.reverse.map dW)), h) := by
  have hz : sizeLine = 16777216 := rfl
  have e1 : lcL (gN 1) bYes (fA (m_by_names) (fCons (fVar 1) (fNil))) [some (.dat x), none] (ws.reverse.map (cD l)) h = some (ws.reverse.map dW, h) := by
    have : ∀ vs : List (List (Str × Str)), (∀ v ∈ vs, CallOf r v) → lcL (gN 1) bYes (fA (m_by_names) (fCons (fVar 1) (fNil))) [some (.dat x), none] (vs.map (cD l)) h = some (vs.map dW, h) := fun vs => by
      induction vs with
      | nil => exact fun _ => rfl
      | cons ps vs ih =>
        intro H
        have hc := H ps List.mem_cons_self
        have hl : ps.length = r.length := by have := hc.perm.length_eq; rw [List.length_map] at this; exact this
        have e := by_names_ok (h := h) (cD_seq l ps) (hc.nodup nd) (by omega)
        have ih := ih fun v hv => H v (List.mem_cons_of_mem _ hv)
        have e' : fA (m_by_names) (fCons (fVar 1) (fNil)) [some (.dat x), some (.dat (cD l ps))] h = some (.dat (dW ps), h) := by
          clear hx c nd hr hw hz hc hl ih H
          walk_at "dl"
        rw [List.map_cons, List.map_cons]
        unfold lcL
        have k : gN 1 (.dat (cD l ps)) [some (.dat x), none] h = some [some (.dat x), some (.dat (cD l ps))] := rfl
        simp only [k, bYes, obnd, if_true, e', ih]
    exact this _ fun v hv => c v (List.mem_reverse.mp hv)
  have l1 : (ws.reverse.map dW).length ≤ sizeLine := by rw [List.length_map, List.length_reverse]; omega
  have lv := leave_same' (h := h) (d := .list (ws.reverse.map dW))
  rw [List.map_reverse] at e1
  unfold m_ways_back revI
  clear c nd hr hw hz
  rcases hx with rfl | rfl <;> walk_at "dl"
end DL
set_option maxRecDepth 100000
set_option maxHeartbeats 400000
namespace DL
open PySem L2
local macro_rules | `(tactic| walk_at "dl") => `(tactic| simp (config := { dsimp := false }) only [↓fnM_e, ↓sSeq_e, seqK_nx, seqK_rt, seqK_bk, seqK_ct, retK_rt, retK_nx, ↓sFrz_e, frK_some, ↓sAsg, ↓sRet, ↓sRetN, ↓sIf, ↓sExpr, ↓sSkip, ↓sNever, ↓sPar, ↓sFor, ↓sSub, ↓fVar, ↓fC, ↓fNil, ↓fCons, ↓fA, ↓f1, ↓f2, ↓fB, ↓fIf, ↓fNeg, ↓fNot, ↓fAnd, ↓fOr, ↓bNot, ↓bAnd, ↓bOr, ↓bYes, ↓obnd_x, ob_some, ↓sbnd_x, sb_some, ↓ite_x, iteK_t, iteK_f, gN, gT, gC, gE, ↓rng1I, ↓rng2I, ↓seqI, ↓enumA, ↓zipI, ↓strI, ↓fLc, ↓fDc, ↓fM, ↓fSl, ↓oNone, ↓oSome, ↓fRev, wipeE, ↓kwM, permM, permL, List.foldr, List.length_cons, List.length_nil, List.map_cons, List.map_nil, List.cons_append, List.nil_append, List.replicate, List.replicate_succ, List.replicate_zero, List.getElem?_cons_zero, List.getElem?_cons_succ, List.set_cons_zero, List.set_cons_succ, if_true, if_false, reduceIte, Nat.reduceAdd, Nat.reduceSub, Nat.reduceEqDiff, Nat.reduceLT, Nat.reduceLeDiff, Int.reduceLT, Int.reduceLE, Int.reduceNeg, Int.reduceMul, Int.reduceAdd, Int.reduceSub, Int.reduceToNat, Int.reducePow, Int.reduceEq, ok, bok, deref, mkL, lstW, tupW, dats, Option.map_some, appendW, insertW, setL, isL, listW, tupleW, lenW, absW, intC, maxW, minW, idxW, addW, subW_e, modW_e, divW_e, powW_e, mulW, intW, lt_e, gt_e, le_e, ge_e, ltW, allW_e, anyW_e, sumW_e, lW, setW, lstAt, cutW, backW, isW, isiW, iLT_none, iLT_bool, iLT_int, iLT_str, iLT_list, iLT_tup, iL_none, iL_bool, iL_int, iL_str, iL_list, iL_tup, iT_none, iT_bool, iT_int, iT_str, iT_list, iT_tup, iS_none, iS_bool, iS_int, iS_str, iS_list, iS_tup, iI_none, iI_bool, iI_int, iI_str, iI_list, iI_tup, iB_none, iB_bool, iB_int, iB_str, iB_list, iB_tup, Bool.false_eq_true, reduceCtorEq, Bool.not_true, Bool.not_false, decide_true, decide_false, List.zip_cons_cons, List.zip_nil_left, List.foldl_cons, List.foldl_nil, and_self, and_true, true_and, Bool.and_true, Bool.true_and, Bool.or_true, Bool.true_or, *])
theorem atI_neg1 {α : Type} (l : List α) (x : α) : L2.atI (l ++ [x]) (-1) = some x := atI_last l x
abbrev rowT (r : List Str) : D := .tuple (r.map .str)
end DL
set_option maxRecDepth 100000
set_option maxHeartbeats 400000
namespace DL
open PySem L2
end DL
set_option maxRecDepth 100000
set_option maxHeartbeats 400000
namespace DL
open PySem L2
end DL
set_option maxRecDepth 100000
set_option maxHeartbeats 400000
namespace DL
open PySem L2
theorem idx_inj {r : List Str} {s t : Str} (hs : s ∈ r) (ht : t ∈ r) (e : r.idxOf s = r.idxOf t) : s = t := by
  have h1 := List.getElem_idxOf (List.idxOf_lt_length_of_mem hs)
  have h2 := List.getElem_idxOf (List.idxOf_lt_length_of_mem ht)
  rw [← h1, ← h2]
  simp only [e]
end DL
set_option maxRecDepth 100000
set_option maxHeartbeats 400000
namespace DL
open PySem L2
theorem shp_row {l : List Str} (ht : Txts l) : shp (rowT l) = true := by
  unfold shp
  rw [PyData.canLay0, canLay_strs ht, PyData.depth, depth_strs]
  rfl
structure OnlyP (b : Nat) (h g : Hh) : Prop where
  len : h.length ≤ g.length
  off : ∀ i : Nat, i < h.length → i ≠ b → g[i]? = h[i]?
theorem Only.p {b : Nat} {h g : Hh} (o : Only b h g) : OnlyP b h g := ⟨Nat.le_of_eq o.len.symm, fun i _ n => o.off i n⟩
theorem OnlyP.only {b : Nat} {h g g' : Hh} (o : OnlyP b h g) (o' : Only b g g') : OnlyP b h g' := ⟨by rw [o'.len]; exact o.len, fun i hi n => (o'.off i n).trans (o.off i hi n)⟩
theorem OnlyP.app {b : Nat} {h g l : Hh} (o : OnlyP b h g) : OnlyP b h (g ++ l) := ⟨by rw [List.length_append]; have := o.len; omega, fun i hi n => by
  rw [List.getElem?_append_left (by have := o.len; omega)]; exact o.off i hi n⟩
theorem leave_P {b c c' : Nat} {h g : Hh} {d : D} (x : BoxAt h b c) (y : BoxAt g b c') (o : OnlyP b h g) : ∃ h', leave false h (.dat d) g = some (.dat d, h') ∧ BoxAt h' b c' ∧ Only b h h' := by
  have lb := x.lt
  have y' := box_take y lb
  have on : Only b h (g.take h.length) := ⟨by rw [List.length_take]; have := o.len; omega, fun i n => by
    by_cases hi : i < h.length
    · rw [List.getElem?_take_of_lt hi]; exact o.off i hi n
    · rw [List.getElem?_eq_none (by rw [List.length_take]; omega), List.getElem?_eq_none (by omega)]⟩
  exact ⟨_, leave_dat (live_only x y' on), y', on⟩
theorem Folk.mono {n m : Nat} {rs : List Str} (h : Folk n rs) (k : n ≤ m) : Folk m rs := ⟨h.nd, h.pos, Nat.le_trans h.le k, h.nam⟩
end DL
set_option maxRecDepth 100000
set_option maxHeartbeats 400000
namespace DL
open PySem L2
end DL
set_option maxRecDepth 100000
set_option maxHeartbeats 400000
namespace DL
open PySem L2
theorem led_eq {r m : List Str} {ps : List (Str × Str)} (p : m.Perm r) (h : m.Pairwise fun a b => leK (keyN r ps a) (keyN r ps b) = true) : m = led r ps := by
  have pm := p.trans (led_perm r ps).symm
  refine List.Perm.eq_of_pairwise (fun a b ha hb h1 h2 => ?_) h (led_pw r ps) pm
  unfold leK keyN at h1 h2
  simp only [decide_eq_true_eq] at h1 h2
  exact idx_inj (p.mem_iff.mp ha) ((led_perm r ps).mem_iff.mp hb) (by omega)
def told (r : List Str) (ps : List (Str × Str)) (t : Str) : List Str := r.filter fun s => decide (goal ps s = t)
theorem goal_of : ∀ {ps : List (Str × Str)}, (ps.map (·.1)).Nodup → ∀ p ∈ ps, goal ps p.1 = p.2
  | [], _, p, h => by cases h
  | (a, b) :: ps, nd, p, h => by
    rw [List.map_cons, List.nodup_cons] at nd
    unfold goal
    rw [List.lookup_cons]
    rcases List.mem_cons.mp h with rfl | h
    · simp
    · have ne : p.1 ≠ a := fun z => nd.1 (List.mem_map.mpr ⟨p, h, z⟩)
      rw [show (p.1 == a) = false by simpa using ne]
      exact goal_of nd.2 p h
end DL
set_option maxRecDepth 100000
set_option maxHeartbeats 400000
namespace DL
open PySem L2
local macro_rules | `(tactic| walk_at "dl") => `(tactic| simp (config := { dsimp := false }) only [↓fnM_e, ↓sSeq_e, seqK_nx, seqK_rt, seqK_bk, seqK_ct, retK_rt, retK_nx, ↓sFrz_e, frK_some, ↓sAsg, ↓sRet, ↓sRetN, ↓sIf, ↓sExpr, ↓sSkip, ↓sNever, ↓sPar, ↓sFor, ↓sSub, ↓fVar, ↓fC, ↓fNil, ↓fCons, ↓fA, ↓f1, ↓f2, ↓fB, ↓fIf, ↓fNeg, ↓fNot, ↓fAnd, ↓fOr, ↓bNot, ↓bAnd, ↓bOr, ↓bYes, ↓obnd_x, ob_some, ↓sbnd_x, sb_some, ↓ite_x, iteK_t, iteK_f, gN, gT, gC, gE, ↓rng1I, ↓rng2I, ↓seqI, ↓enumA, ↓zipI, ↓strI, ↓fLc, ↓fDc, ↓fM, ↓fSl, ↓oNone, ↓oSome, ↓fRev, wipeE, ↓kwM, permM, permL, List.foldr, List.length_cons, List.length_nil, List.map_cons, List.map_nil, List.cons_append, List.nil_append, List.replicate, List.replicate_succ, List.replicate_zero, List.getElem?_cons_zero, List.getElem?_cons_succ, List.set_cons_zero, List.set_cons_succ, if_true, if_false, reduceIte, Nat.reduceAdd, Nat.reduceSub, Nat.reduceEqDiff, Nat.reduceLT, Nat.reduceLeDiff, Int.reduceLT, Int.reduceLE, Int.reduceNeg, Int.reduceMul, Int.reduceAdd, Int.reduceSub, Int.reduceToNat, Int.reducePow, Int.reduceEq, ok, bok, deref, mkL, lstW, tupW, dats, Option.map_some, appendW, insertW, setL, isL, listW, tupleW, lenW, absW, intC, maxW, minW, idxW, addW, subW_e, modW_e, divW_e, powW_e, mulW, intW, lt_e, gt_e, le_e, ge_e, ltW, allW_e, anyW_e, sumW_e, lW, setW, lstAt, cutW, backW, isW, isiW, iLT_none, iLT_bool, iLT_int, iLT_str, iLT_list, iLT_tup, iL_none, iL_bool, iL_int, iL_str, iL_list, iL_tup, iT_none, iT_bool, iT_int, iT_str, iT_list, iT_tup, iS_none, iS_bool, iS_int, iS_str, iS_list, iS_tup, iI_none, iI_bool, iI_int, iI_str, iI_list, iI_tup, iB_none, iB_bool, iB_int, iB_str, iB_list, iB_tup, Bool.false_eq_true, reduceCtorEq, Bool.not_true, Bool.not_false, decide_true, decide_false, List.zip_cons_cons, List.zip_nil_left, List.foldl_cons, List.foldl_nil, and_self, and_true, true_and, Bool.and_true, Bool.true_and, Bool.or_true, Bool.true_or, *])
theorem whileL_run {t : BM} {body : SM} (J : Nat → Env → Hh → Prop) : ∀ (k : Nat) {n fuel : Nat} {ρ : Env} {h : Hh}, k < fuel → J n ρ h →
    (∀ j ρ h, n ≤ j → j < n + k → J j ρ h → ∃ h1 ρ2 h2, t ρ h = some (true, h1) ∧ body ρ h1 = some (.nx ρ2, h2) ∧ J (j + 1) ρ2 h2) →
    (∀ ρ h, J (n + k) ρ h → t ρ h = some (false, h)) → ∃ ρ' h', whileL t body fuel ρ h = some (.nx ρ', h') ∧ J (n + k) ρ' h'
  | 0, n, f + 1, ρ, h, _, j, _, e => by
    refine ⟨ρ, h, ?_, j⟩
    unfold whileL
    simp only [e ρ h j, sbnd, Bool.false_eq_true, if_false]
  | k + 1, n, f + 1, ρ, h, hf, j, H, e => by
    obtain ⟨h1, ρ2, h2, e1, e2, j2⟩ := H n ρ h (Nat.le_refl _) (by omega) j
    obtain ⟨ρ', h', e3, j3⟩ := whileL_run J k (n := n + 1) (fuel := f) (by omega) j2 (fun i ρ h a b q => H i ρ h (by omega) (by omega) q) (fun ρ h q => e ρ h (by rw [show n + (k + 1) = n + 1 + k by omega]; exact q))
    refine ⟨ρ', h', ?_, by rw [show n + (k + 1) = n + 1 + k by omega]; exact j3⟩
    unfold whileL
    simp only [e1, sbnd, if_true, e2, e3]
theorem pick_eq : m__law_pick = m__law_of := rfl
theorem pick_ok {x : D} {ds : List D} {h : Hh} {b c : Nat} (hx : IsSeq x ds) (hb : BoxAt h b c) (hc : c < 1000000000) (h0 : 0 < ds.length) (h1 : ds.length ≤ 1000) :
    ∃ d h', m__law_pick [.ref b, .dat x] h = some (.dat d, h') ∧ d ∈ ds ∧ BoxAt h' b (c + 1) ∧ Only b h h' := by
  rw [pick_eq]
  exact of_ok hx hb hc h0 h1
theorem pick_txt {z : Str} {h : Hh} {b c : Nat} (hb : BoxAt h b c) (hc : c < 1000000000) (h0 : 0 < z.length) (h1 : z.length ≤ 1000) :
    ∃ (y : Nat) (h' : Hh), m__law_pick [.ref b, .dat (.str z)] h = some (.dat (.str ⟨#[y]⟩), h') ∧ y ∈ z.cps.toList ∧ BoxAt h' b (c + 1) ∧ Only b h h' := by
  obtain ⟨r, h', e, r0, r1, b1, o1⟩ := take_ok (n := (z.length : Int)) hb (by omega) (by omega) (by omega)
  have hz : z.cps.toList.length = z.length := by simp [Str.length]
  have hr : r.toNat < z.cps.toList.length := by omega
  have e2 : L2.atI z.cps.toList r = some z.cps.toList[r.toNat] := by
    have := atI_nat (xs := z.cps.toList) (j := r.toNat) (List.getElem?_eq_getElem hr)
    rwa [show ((r.toNat : Nat) : Int) = r by omega] at this
  refine ⟨z.cps.toList[r.toNat], h', ?_, List.getElem_mem hr, b1, o1⟩
  have lv := leave_dat' (d := .str ⟨#[z.cps.toList[r.toNat]]⟩) hb b1 o1
  have l1 : z.length ≤ sizeLine := Nat.le_trans h1 (by decide)
  generalize z.cps.toList[r.toNat] = y at *
  unfold m__law_pick
  clear hb b1 o1 r0 r1 hr h0 h1 hc hz
  walk_at "dl"
theorem glue_cps (e : Array Nat) (he : e.toList = []) : ∀ (ps : List Str) (acc : Array Nat), (ps.foldl (fun acc p => acc ++ e ++ p.cps) acc).toList = acc.toList ++ ps.flatMap fun s => s.cps.toList
  | [], acc => by simp
  | p :: ps, acc => by
    rw [List.foldl_cons, glue_cps e he ps, List.flatMap_cons]
    simp [he]
theorem join_cps : ∀ l : List Str, (Txt.join "" l).cps.toList = l.flatMap fun s => s.cps.toList
  | [] => by decide +kernel
  | a :: l => by
    show (l.foldl (fun acc p => acc ++ ("" : Str).cps ++ p.cps) a.cps).toList = _
    rw [glue_cps _ (by decide +kernel), List.flatMap_cons]
abbrev six : Str := "abkmxz"
abbrev ends : Str := "abcdefghijklmnopqrstuvwx"
theorem six_ok : ∀ c ∈ six.cps.toList, 97 ≤ c ∧ c ≤ 122 := by decide +kernel
theorem six_len : six.length = 6 := by decide +kernel
theorem ends_len : ends.length = 24 := by decide +kernel
theorem ends_at {i : Nat} (h : i < 24) : L2.atI ends.cps.toList (i : Int) = some (97 + i) := by
  have : ∀ i : Fin 24, L2.atI ends.cps.toList ((i : Nat) : Int) = some (97 + i.1) := by decide +kernel
  exact this ⟨i, h⟩
def NameAt (i : Nat) (s : Str) : Prop := NameOk s ∧ s.cps.toList.getLast? = some (97 + i) ∧ s.length ≤ 4
theorem name_made {ys : List Nat} {i : Nat} (h1 : 1 ≤ ys.length) (h2 : ys.length ≤ 3) (h3 : ∀ y ∈ ys, 97 ≤ y ∧ y ≤ 122) (hi : i < 24) : NameAt i (Txt.join "" (ys.map fun y => (⟨#[y]⟩ : Str)) ++ ⟨#[97 + i]⟩) := by
  have e : (Txt.join "" (ys.map fun y => (⟨#[y]⟩ : Str)) ++ ⟨#[97 + i]⟩).cps.toList = ys ++ [97 + i] := by
    rw [cps_app, join_cps]
    congr 1
    rw [List.flatMap_map]
    simp
  have l : (Txt.join "" (ys.map fun y => (⟨#[y]⟩ : Str)) ++ ⟨#[97 + i]⟩).length = ys.length + 1 := by
    show (Txt.join "" (ys.map fun y => (⟨#[y]⟩ : Str)) ++ ⟨#[97 + i]⟩).cps.size = _
    rw [← Array.length_toList, e]; simp
  refine ⟨⟨by omega, by omega, fun c hc => ?_⟩, by rw [e]; simp, by omega⟩
  rw [e] at hc
  rcases List.mem_append.mp hc with hc | hc
  · exact h3 c hc
  · rw [List.mem_singleton] at hc; omega
end DL
set_option maxRecDepth 100000
set_option maxHeartbeats 400000
namespace DL
open PySem L2
local macro_rules | `(tactic| walk_at "dl") => `(tactic| simp (config := { dsimp := false }) only [↓fnM_e, ↓sSeq_e, seqK_nx, seqK_rt, seqK_bk, seqK_ct, retK_rt, retK_nx, ↓sFrz_e, frK_some, ↓sAsg, ↓sRet, ↓sRetN, ↓sIf, ↓sExpr, ↓sSkip, ↓sNever, ↓sPar, ↓sFor, ↓sSub, ↓fVar, ↓fC, ↓fNil, ↓fCons, ↓fA, ↓f1, ↓f2, ↓fB, ↓fIf, ↓fNeg, ↓fNot, ↓fAnd, ↓fOr, ↓bNot, ↓bAnd, ↓bOr, ↓bYes, ↓obnd_x, ob_some, ↓sbnd_x, sb_some, ↓ite_x, iteK_t, iteK_f, gN, gT, gC, gE, ↓rng1I, ↓rng2I, ↓seqI, ↓enumA, ↓zipI, ↓strI, ↓fLc, ↓fDc, ↓fM, ↓fSl, ↓oNone, ↓oSome, ↓fRev, wipeE, ↓kwM, permM, permL, List.foldr, List.length_cons, List.length_nil, List.map_cons, List.map_nil, List.cons_append, List.nil_append, List.replicate, List.replicate_succ, List.replicate_zero, List.getElem?_cons_zero, List.getElem?_cons_succ, List.set_cons_zero, List.set_cons_succ, if_true, if_false, reduceIte, Nat.reduceAdd, Nat.reduceSub, Nat.reduceEqDiff, Nat.reduceLT, Nat.reduceLeDiff, Int.reduceLT, Int.reduceLE, Int.reduceNeg, Int.reduceMul, Int.reduceAdd, Int.reduceSub, Int.reduceToNat, Int.reducePow, Int.reduceEq, ok, bok, deref, mkL, lstW, tupW, dats, Option.map_some, appendW, insertW, setL, isL, listW, tupleW, lenW, absW, intC, maxW, minW, idxW, addW, subW_e, modW_e, divW_e, powW_e, mulW, intW, lt_e, gt_e, le_e, ge_e, ltW, allW_e, anyW_e, sumW_e, lW, setW, lstAt, cutW, backW, isW, isiW, iLT_none, iLT_bool, iLT_int, iLT_str, iLT_list, iLT_tup, iL_none, iL_bool, iL_int, iL_str, iL_list, iL_tup, iT_none, iT_bool, iT_int, iT_str, iT_list, iT_tup, iS_none, iS_bool, iS_int, iS_str, iS_list, iS_tup, iI_none, iI_bool, iI_int, iI_str, iI_list, iI_tup, iB_none, iB_bool, iB_int, iB_str, iB_list, iB_tup, Bool.false_eq_true, reduceCtorEq, Bool.not_true, Bool.not_false, decide_true, decide_false, List.zip_cons_cons, List.zip_nil_left, List.foldl_cons, List.foldl_nil, and_self, and_true, true_and, Bool.and_true, Bool.true_and, Bool.or_true, Bool.true_or, *])
noncomputable def nmBody : SM := (sSeq (sAsg (fJoin (fC (.str "")) (fLc false (rng1I (fCons (f2 (addW false) (fC (.int 1)) (fA (m__law_take) (fCons (fVar 0) (fCons (fC (.int 3)) (fNil))))) (fNil))) (gN 5) (bYes) (fA (m__law_pick) (fCons (fVar 0) (fCons (fC (.str "abkmxz")) (fNil)))) [5])) (gN 4))
    (sAsg (fA (sortSW false) (fCons (f2 (addW false) (fVar 3) (fA (lstW false) (fCons (f2 (addW false) (fVar 4) (f2 idxW (fC (.str "abcdefghijklmnopqrstuvwx")) (fA lenW (fCons (fVar 3) (fNil))))) (fNil)))) (fNil))) (gN 3)))
theorem nm_run {g g1 g2 : Hh} {b : Nat} {r nI : Int} {L M Z nmz : Str} {cc : Nat} {F rs R : List D} {v1 v2 v4 : Option W} (hL : L = ends) (hM : M = six) (hZ : Z = "") (e1 : m__law_take [.ref b, .dat (.int 3)] g = some (.dat (.int r), g1)) (b0 : -1000000000 ≤ 1 + r) (b1 : 1 + r ≤ 1000000000)
    (e2 : lcL (gN 5) (bYes) (fA (m__law_pick) (fCons (fVar 0) (fCons (fC (.str M)) (fNil)))) [some (.ref b), v1, v2, some (.dat (.list F)), v4, none] (rngD 0 (1 + r).toNat) g1 = some (rs, g2)) (l1 : rs.length ≤ sizeLine) (ej : joinW (.dat (.str Z)) (.dat (.list rs)) g2 = some (.dat (.str nmz), g2)) (es : isS (.dat (.str Z)) = true)
    (hn : (F.length : Int) = nI) (la : L2.atI L.cps.toList nI = some cc) (ll : L.length ≤ sizeLine) (l2 : nmz.length + (Str.length ⟨#[cc]⟩) ≤ sizeLine) (l3 : F.length + 1 ≤ sizeLine) (eq : sortSW false [.dat (.list (F ++ [.str (nmz ++ ⟨#[cc]⟩)]))] g2 = some (.dat (.list R), g2)) :
    nmBody [some (.ref b), v1, v2, some (.dat (.list F)), v4, none] g = some (.nx [some (.ref b), v1, v2, some (.dat (.list R)), some (.dat (.str nmz)), none], g2) := by
  have c1 : 1 ≤ sizeLine := by decide
  unfold nmBody fJoin
  subst hL hM hZ
  walk_at "dl"
theorem rowS_sing (ys : List Nat) : rowS (ys.map fun y => PyData.str ⟨#[y]⟩) = some (ys.map fun y => (⟨#[y]⟩ : Str)) := by
  have := rowS_strs (ys.map fun y => (⟨#[y]⟩ : Str))
  rwa [List.map_map] at this
theorem nm_turn {g : Hh} {b c n : Nat} {l : List Str} {v1 v2 v4 : Option W} (hb : BoxAt g b c) (hc : c < 100000) (hl : l.length = n) (hn : n < 24) (nd : l.Nodup) (hno : ∀ s, NameAt n s → s ∉ l) :
    ∃ (s : Str) (v4' : Option W) (g' : Hh), NameAt n s ∧ nmBody [some (.ref b), v1, v2, some (.dat (.list (l.map .str))), v4, none] g = some (.nx [some (.ref b), v1, v2, some (.dat (.list (((l ++ [s]).mergeSort leT).map .str))), v4', none], g') ∧ BoxAt g' b (c + 4) ∧ Only b g g' := by
  have hz : sizeLine = 16777216 := rfl
  obtain ⟨r, g1, e1, r0, r1, b1, o1⟩ := take_ok (n := 3) hb (by omega) (by omega) (by omega)
  have key := lcL_inv (k := gN 5) (f := fA (m__law_pick) (fCons (fVar 0) (fCons (fC (.str six)) (fNil)))) (ρ := [some (.ref b), v1, v2, some (.dat (.list (l.map .str))), v4, none]) (fun k g' => BoxAt g' b (c + 1 + k) ∧ Only b g g') (fun _ d => ∃ y : Nat, y ∈ six.cps.toList ∧ d = .str ⟨#[y]⟩) (ds := rngD 0 (1 + r).toNat) (n := 0) (h := g1) ⟨b1, o1⟩ (by
    intro j d ej g' hi
    obtain ⟨bx, on⟩ := hi
    have hj := (rng_get ej).1
    obtain ⟨y, g2, e2, hy, b2, o2⟩ := pick_txt (z := six) bx (by omega) (by rw [six_len]; omega) (by rw [six_len]; omega)
    refine ⟨[some (.ref b), v1, v2, some (.dat (.list (l.map .str))), v4, some (.dat d)], .str ⟨#[y]⟩, g2, rfl, ?_, ⟨y, hy, rfl⟩, b2, on.trans o2⟩
    generalize six = M at *
    clear hb hc hl hn nd hno hz e1 r0 r1 b1 o1 ej bx on hj hy b2 o2
    walk_at "dl")
  obtain ⟨rs, g2, e2, rl, hr, b2, o2⟩ := key
  rw [rng_len] at rl b2
  obtain ⟨ys, rfl, hy⟩ : ∃ ys : List Nat, rs = ys.map (fun y => PyData.str ⟨#[y]⟩) ∧ ∀ y ∈ ys, y ∈ six.cps.toList := by
    have : ∀ rs : List D, (∀ d ∈ rs, ∃ y : Nat, y ∈ six.cps.toList ∧ d = .str ⟨#[y]⟩) → ∃ ys : List Nat, rs = ys.map (fun y => PyData.str ⟨#[y]⟩) ∧ ∀ y ∈ ys, y ∈ six.cps.toList := fun rs => by
      induction rs with
      | nil => exact fun _ => ⟨[], rfl, fun y hy => by cases hy⟩
      | cons d rs ih =>
        intro H
        obtain ⟨y, h1, rfl⟩ := H d List.mem_cons_self
        obtain ⟨ys, rfl, h2⟩ := ih fun e he => H e (List.mem_cons_of_mem _ he)
        exact ⟨y :: ys, rfl, fun z hz => by
          rcases List.mem_cons.mp hz with rfl | hz
          · exact h1
          · exact h2 z hz⟩
    refine this rs fun d hd => ?_
    obtain ⟨j, hj, rfl⟩ := List.getElem_of_mem hd
    exact hr j _ (List.getElem?_eq_getElem hj)
  rw [List.length_map] at rl
  have na := name_made (ys := ys) (i := n) (by omega) (by omega) (fun y h => six_ok y (hy y h)) hn
  have nn := hno _ na
  have ndl : (l ++ [Txt.join "" (ys.map fun y => (⟨#[y]⟩ : Str)) ++ ⟨#[97 + n]⟩]).Nodup := by
    rw [List.nodup_append]
    refine ⟨nd, by simp, fun x hx y hy' e => ?_⟩
    rw [List.mem_singleton] at hy'
    subst hy'
    rw [e] at hx
    exact nn hx
  have nl := na.1.2.1
  refine ⟨_, some (.dat (.str (Txt.join "" (ys.map fun y => (⟨#[y]⟩ : Str))))), g2, na, nm_run (L := ends) (M := six) (Z := "") (cc := 97 + n) (nI := (n : Int)) rfl rfl rfl e1 (by omega) (by omega) e2 (by rw [List.length_map]; omega) ?_ rfl (by rw [List.length_map, hl]) (ends_at hn) (by rw [ends_len]; omega) ?_ (by rw [List.length_map]; omega) ?_, b2.mono (by omega), o2⟩
  · unfold joinW
    have q : ((ys.map fun y => (⟨#[y]⟩ : Str)).map (·.length)).sum + (ys.map fun y => (⟨#[y]⟩ : Str)).length * ("" : Str).length ≤ 16777216 := by
      have e0 : ("" : Str).length = 0 := by decide +kernel
      rw [e0, Nat.mul_zero, List.map_map]
      have : ∀ ys : List Nat, (ys.map ((fun s : Str => s.length) ∘ fun y => (⟨#[y]⟩ : Str))).sum = ys.length := fun ys => by
        induction ys with
        | nil => rfl
        | cons a t ih =>
          rw [List.map_cons, List.sum_cons, ih, List.length_cons]
          show 1 + _ = _
          omega
      rw [this]
      omega
    simp only [deref, rowS_sing]
    rw [if_pos q]
    rfl
  · rw [← len_app]; omega
  · unfold sortSW
    have e : rowS (l.map PyData.str ++ [.str (Txt.join "" (ys.map fun y => (⟨#[y]⟩ : Str)) ++ ⟨#[97 + n]⟩)]) = some (l ++ [Txt.join "" (ys.map fun y => (⟨#[y]⟩ : Str)) ++ ⟨#[97 + n]⟩]) := by
      have := rowS_strs (l ++ [Txt.join "" (ys.map fun y => (⟨#[y]⟩ : Str)) ++ ⟨#[97 + n]⟩])
      rwa [List.map_append] at this
    have ln : (l ++ [Txt.join "" (ys.map fun y => (⟨#[y]⟩ : Str)) ++ ⟨#[97 + n]⟩]).length < 1000 := by rw [List.length_append]; simp; omega
    simp only [deref, e, ndl, ln, decide_true, Bool.and_self, if_true]
    rfl
end DL
set_option maxRecDepth 100000
set_option maxHeartbeats 400000
namespace DL
open PySem L2
local macro_rules | `(tactic| walk_at "dl") => `(tactic| simp (config := { dsimp := false }) only [↓fnM_e, ↓sSeq_e, seqK_nx, seqK_rt, seqK_bk, seqK_ct, retK_rt, retK_nx, ↓sFrz_e, frK_some, ↓sAsg, ↓sRet, ↓sRetN, ↓sIf, ↓sExpr, ↓sSkip, ↓sNever, ↓sPar, ↓sFor, ↓sSub, ↓fVar, ↓fC, ↓fNil, ↓fCons, ↓fA, ↓f1, ↓f2, ↓fB, ↓fIf, ↓fNeg, ↓fNot, ↓fAnd, ↓fOr, ↓bNot, ↓bAnd, ↓bOr, ↓bYes, ↓obnd_x, ob_some, ↓sbnd_x, sb_some, ↓ite_x, iteK_t, iteK_f, gN, gT, gC, gE, ↓rng1I, ↓rng2I, ↓seqI, ↓enumA, ↓zipI, ↓strI, ↓fLc, ↓fDc, ↓fM, ↓fSl, ↓oNone, ↓oSome, ↓fRev, wipeE, ↓kwM, permM, permL, List.foldr, List.length_cons, List.length_nil, List.map_cons, List.map_nil, List.cons_append, List.nil_append, List.replicate, List.replicate_succ, List.replicate_zero, List.getElem?_cons_zero, List.getElem?_cons_succ, List.set_cons_zero, List.set_cons_succ, if_true, if_false, reduceIte, Nat.reduceAdd, Nat.reduceSub, Nat.reduceEqDiff, Nat.reduceLT, Nat.reduceLeDiff, Int.reduceLT, Int.reduceLE, Int.reduceNeg, Int.reduceMul, Int.reduceAdd, Int.reduceSub, Int.reduceToNat, Int.reducePow, Int.reduceEq, ok, bok, deref, mkL, lstW, tupW, dats, Option.map_some, appendW, insertW, setL, isL, listW, tupleW, lenW, absW, intC, maxW, minW, idxW, addW, subW_e, modW_e, divW_e, powW_e, mulW, intW, lt_e, gt_e, le_e, ge_e, ltW, allW_e, anyW_e, sumW_e, lW, setW, lstAt, cutW, backW, isW, isiW, iLT_none, iLT_bool, iLT_int, iLT_str, iLT_list, iLT_tup, iL_none, iL_bool, iL_int, iL_str, iL_list, iL_tup, iT_none, iT_bool, iT_int, iT_str, iT_list, iT_tup, iS_none, iS_bool, iS_int, iS_str, iS_list, iS_tup, iI_none, iI_bool, iI_int, iI_str, iI_list, iI_tup, iB_none, iB_bool, iB_int, iB_str, iB_list, iB_tup, Bool.false_eq_true, reduceCtorEq, Bool.not_true, Bool.not_false, decide_true, decide_false, List.zip_cons_cons, List.zip_nil_left, List.foldl_cons, List.foldl_nil, and_self, and_true, true_and, Bool.and_true, Bool.true_and, Bool.or_true, Bool.true_or, *])
theorem nameAt_inj {i j : Nat} {s : Str} (h1 : NameAt i s) (h2 : NameAt j s) : i = j := by
  have := h1.2.1.symm.trans h2.2.1
  injection this with e
  omega
theorem names_okZ {h : Hh} {b c most : Nat} (hb : BoxAt h b c) (hc : c < 10000) (m0 : 0 < most) (m1 : most ≤ 24) :
    ∃ (l : List Str) (h' : Hh), m__law_names [.ref b, .dat (.int most)] h = some (.dat (.list (l.map .str)), h') ∧ Folk most l ∧ (∀ s ∈ l, s.length ≤ 4) ∧ l.Pairwise (fun a b => leS a b = true) ∧ BoxAt h' b (c + 1 + 4 * most) ∧ Only b h h' := by
  have hz : sizeLine = 16777216 := rfl
  obtain ⟨r, g1, e1, r0, r1, b1, o1⟩ := take_ok (n := (most : Int)) hb (by omega) (by omega) (by omega)
  have key := whileL_run (t := fB (f2 lt_W (fA lenW (fCons (fVar 3) (fNil))) (fVar 2))) (body := nmBody) (fun n ρ g => ∃ (l : List Str) (v4 : Option W), ρ = [some (.ref b), some (.dat (.int most)), some (.dat (.int (1 + r))), some (.dat (.list (l.map .str))), v4, none] ∧ l.length = n ∧ l.Nodup ∧ (∀ s ∈ l, ∃ i, i < n ∧ NameAt i s) ∧ l.Pairwise (fun a b => leS a b = true) ∧ BoxAt g b (c + 1 + 4 * n) ∧ Only b h g)
    (1 + r).toNat (n := 0) (fuel := 100000) (ρ := [some (.ref b), some (.dat (.int most)), some (.dat (.int (1 + r))), some (.dat (.list [])), none, none]) (h := g1) (by omega) ⟨[], none, rfl, rfl, .nil, (fun s hs => by cases hs), .nil, b1, o1⟩ (by
      intro j ρ g _ hj hi
      obtain ⟨l, v4, rfl, hl, nd, hs, pw, bx, on⟩ := hi
      obtain ⟨s, v4', g', na, et, b2, o2⟩ := nm_turn (v1 := some (.dat (.int most))) (v2 := some (.dat (.int (1 + r)))) (v4 := v4) bx (by omega) hl (by omega) nd (fun s hs' hm => by
        obtain ⟨i, hi, ni⟩ := hs s hm
        have := nameAt_inj hs' ni
        omega)
      have pm := List.mergeSort_perm (l ++ [s]) leT
      refine ⟨g, _, g', ?_, et, _, v4', rfl, ?_, ?_, ?_, ?_, b2.mono (by omega), on.trans o2⟩
      · have d1 : decide (((l.map PyData.str).length : Int) < 1 + r) = true := by rw [List.length_map, hl]; simp; omega
        clear hz e1 r0 r1 b1 o1 hl nd hs pw bx on na et b2 o2 hb hc m0 m1 hj pm
        walk_at "dl"
      · rw [pm.length_eq]; simp [hl]
      · refine pm.nodup_iff.mpr ?_
        rw [List.nodup_append]
        refine ⟨nd, by simp, fun x hx y hy e => ?_⟩
        rw [List.mem_singleton] at hy
        subst hy
        subst e
        obtain ⟨i, hi, ni⟩ := hs x hx
        have := nameAt_inj na ni
        omega
      · intro x hx
        rcases List.mem_append.mp (pm.mem_iff.mp hx) with hx | hx
        · obtain ⟨i, hi, ni⟩ := hs x hx
          exact ⟨i, by omega, ni⟩
        · rw [List.mem_singleton] at hx
          subst hx
          exact ⟨j, by omega, na⟩
      · exact List.pairwise_mergeSort leT_trans leT_total (l ++ [s])) (by
      intro ρ g hi
      obtain ⟨l, v4, rfl, hl, nd, hs, pw, bx, on⟩ := hi
      have d1 : decide (((l.map PyData.str).length : Int) < 1 + r) = false := by rw [List.length_map, hl]; simp; omega
      clear hz e1 r0 r1 b1 o1 hl nd hs pw bx on hb hc m0 m1
      walk_at "dl")
  obtain ⟨ρ', g, e2, l, v4, rfl, hl, nd, hs, pw, bx, on⟩ := key
  have bm : BoxAt g b (c + 1 + 4 * most) := bx.mono (by omega)
  refine ⟨l, g, ?_, ⟨nd, by omega, by omega, fun s h' => by obtain ⟨i, _, na⟩ := hs s h'; exact na.1⟩, fun s h' => by obtain ⟨i, _, na⟩ := hs s h'; exact na.2.2, pw, bm, on⟩
  have lv := leave_dat' (d := .list (l.map .str)) hb bm on
  have c0 : 0 ≤ sizeLine := Nat.zero_le _
  have ew : sWhile 100000 (fB (f2 lt_W (fA lenW (fCons (fVar 3) (fNil))) (fVar 2))) nmBody [some (.ref b), some (.dat (.int most)), some (.dat (.int (1 + r))), some (.dat (.list [])), none, none] g1 = some (.nx [some (.ref b), some (.dat (.int most)), some (.dat (.int (1 + r))), some (.dat (.list (l.map .str))), v4, none], g) := e2
  unfold nmBody at ew
  unfold m__law_names
  clear hz r0 r1 b1 o1 hl nd hs pw bx on hb hc m0 m1 e2 bm
  walk_at "dl"
theorem names_ok {h : Hh} {b c most : Nat} (hb : BoxAt h b c) (hc : c < 10000) (m0 : 0 < most) (m1 : most ≤ 24) :
    ∃ (l : List Str) (h' : Hh), m__law_names [.ref b, .dat (.int most)] h = some (.dat (.list (l.map .str)), h') ∧ Folk most l ∧ l.Pairwise (fun a b => leS a b = true) ∧ BoxAt h' b (c + 1 + 4 * most) ∧ Only b h h' := by
  obtain ⟨l, h', e, f, _, r⟩ := names_okZ hb hc m0 m1
  exact ⟨l, h', e, f, r⟩
theorem erase_map {α β : Type} (f : α → β) : ∀ (l : List α) (i : Nat), (l.map f).eraseIdx i = (l.eraseIdx i).map f
  | [], _ => rfl
  | a :: l, 0 => rfl
  | a :: l, i + 1 => by
    show f a :: (l.map f).eraseIdx i = f a :: (l.eraseIdx i).map f
    rw [erase_map f l i]
theorem erase_perm {α : Type} : ∀ (l : List α) (i : Nat) (h : i < l.length), l.Perm (l[i] :: l.eraseIdx i)
  | a :: l, 0, _ => List.Perm.refl _
  | a :: l, i + 1, h => by
    have ih := erase_perm l i (by simpa using h)
    exact (List.Perm.cons a ih).trans (List.Perm.swap _ _ _)
theorem eqW_nil {l : List Str} {n : Nat} {h : Hh} (ht : Txts l) (hg : h[n]? = some (some (.lst (l.map .str)))) : eqW true (.ref n) (.dat (.list [])) h = some (.dat (.bool (decide (l ≠ []))), h) := by
  have hs := shp_list ht
  have h0 : shp (.list []) = true := by decide +kernel
  have e : PyData.eqv (.list (l.map .str)) (.list []) = decide (l = []) := by
    cases l with
    | nil => decide +kernel
    | cons a l => simp [PyData.eqv, PyData.eqvAll]
  unfold eqW
  simp only [deref, hg, eqS, hs, h0, e, Bool.and_self, if_true]
  show bok (!decide (l = [])) h = _
  rw [← decide_not]; rfl
end DL
set_option maxRecDepth 100000
set_option maxHeartbeats 400000
namespace DL
open PySem L2
local macro_rules | `(tactic| walk_at "dl") => `(tactic| simp (config := { dsimp := false }) only [↓fnM_e, ↓sSeq_e, seqK_nx, seqK_rt, seqK_bk, seqK_ct, retK_rt, retK_nx, ↓sFrz_e, frK_some, ↓sAsg, ↓sRet, ↓sRetN, ↓sIf, ↓sExpr, ↓sSkip, ↓sNever, ↓sPar, ↓sFor, ↓sSub, ↓fVar, ↓fC, ↓fNil, ↓fCons, ↓fA, ↓f1, ↓f2, ↓fB, ↓fIf, ↓fNeg, ↓fNot, ↓fAnd, ↓fOr, ↓bNot, ↓bAnd, ↓bOr, ↓bYes, ↓obnd_x, ob_some, ↓sbnd_x, sb_some, ↓ite_x, iteK_t, iteK_f, gN, gT, gC, gE, ↓rng1I, ↓rng2I, ↓seqI, ↓enumA, ↓zipI, ↓strI, ↓fLc, ↓fDc, ↓fM, ↓fSl, ↓oNone, ↓oSome, ↓fRev, wipeE, ↓kwM, permM, permL, List.foldr, List.length_cons, List.length_nil, List.map_cons, List.map_nil, List.cons_append, List.nil_append, List.replicate, List.replicate_succ, List.replicate_zero, List.getElem?_cons_zero, List.getElem?_cons_succ, List.set_cons_zero, List.set_cons_succ, if_true, if_false, reduceIte, Nat.reduceAdd, Nat.reduceSub, Nat.reduceEqDiff, Nat.reduceLT, Nat.reduceLeDiff, Int.reduceLT, Int.reduceLE, Int.reduceNeg, Int.reduceMul, Int.reduceAdd, Int.reduceSub, Int.reduceToNat, Int.reducePow, Int.reduceEq, ok, bok, deref, mkL, lstW, tupW, dats, Option.map_some, appendW, insertW, setL, isL, listW, tupleW, lenW, absW, intC, maxW, minW, idxW, addW, subW_e, modW_e, divW_e, powW_e, mulW, intW, lt_e, gt_e, le_e, ge_e, ltW, allW_e, anyW_e, sumW_e, lW, setW, lstAt, cutW, backW, isW, isiW, iLT_none, iLT_bool, iLT_int, iLT_str, iLT_list, iLT_tup, iL_none, iL_bool, iL_int, iL_str, iL_list, iL_tup, iT_none, iT_bool, iT_int, iT_str, iT_list, iT_tup, iS_none, iS_bool, iS_int, iS_str, iS_list, iS_tup, iI_none, iI_bool, iI_int, iI_str, iI_list, iI_tup, iB_none, iB_bool, iB_int, iB_str, iB_list, iB_tup, Bool.false_eq_true, reduceCtorEq, Bool.not_true, Bool.not_false, decide_true, decide_false, List.zip_cons_cons, List.zip_nil_left, List.foldl_cons, List.foldl_nil, and_self, and_true, true_and, Bool.and_true, Bool.true_and, Bool.or_true, Bool.true_or, *])
noncomputable def rowBody : SM := sExpr (fM isL appendW (fVar 3) (fCons (fM isL popAtW (fVar 2) (fCons (fA (m__law_take) (fCons (fVar 0) (fCons (fA lenW (fCons (fVar 2) (fNil))) (fNil)))) (fNil))) (fNil)))
theorem row_turn {g g1 g2 : Hh} {b p q : Nat} {x : W} {left found : List D} {d : D} {i n : Int} (hp : g[p]? = some (some (.lst left))) (hq : g[q]? = some (some (.lst found))) (hn : (left.length : Int) = n) (e1 : m__law_take [.ref b, .dat (.int n)] g = some (.dat (.int i), g1)) (hp1 : g1[p]? = some (some (.lst left))) (i0 : 0 ≤ i) (i1 : i < 1000000) (hd : left[i.toNat]? = some d)
    (e2 : g1.set p (some (.lst (left.eraseIdx i.toNat))) = g2) (hq2 : g2[q]? = some (some (.lst found))) (hl : found.length < sizeLine) :
    rowBody [some (.ref b), some x, some (.ref p), some (.ref q)] g = some (.nx [some (.ref b), some x, some (.ref p), some (.ref q)], g2.set q (some (.lst (found ++ [d])))) := by
  have f1 : isL (.ref p) g = true := by unfold isL; simp only [deref, hp]
  have f2 : isL (.ref q) g = true := by unfold isL; simp only [deref, hq]
  have f3 : popAtW (.ref p) [.dat (.int i)] g1 = some (.dat d, g2) := by
    unfold popAtW lstAt setL
    simp only [hp1, hd, e2]
    rw [if_pos ⟨i0, i1⟩]
  have f4 : appendW (.ref q) [.dat d] g2 = some (.dat .none, g2.set q (some (.lst (found ++ [d])))) := by
    unfold appendW lstAt setL
    simp only [hq2, hl, if_true]
  have f5 : lenW [.ref p] g = some (.dat (.int n), g) := by
    unfold lenW
    simp only [deref, hp, hn]
    rfl
  unfold rowBody fM
  clear hp hq hn hp1 i0 i1 hd e2 hq2 hl
  simp only [fCons, fNil, fA, fVar, sExpr, List.getElem?_cons_zero, List.getElem?_cons_succ, obnd, sbnd, f1, f2, if_true, e1, f3, f4, f5]
theorem only_two {b : Nat} {h h' : Hh} {o o' : Option MO} (hb : b < h.length) (x : Only b (h ++ [o, o']) h') : ∃ g : Hh, h' = g ++ [o, o'] ∧ g.length = h.length ∧ Only b h g := by
  have x' : Only b ((h ++ [o]) ++ [o']) h' := by simpa using x
  obtain ⟨o1, g1, e1, l1⟩ := only_app (by rw [List.length_append]; omega) x'
  rw [e1, app_take l1] at o1
  obtain ⟨o2, g2, e2, l2⟩ := only_app hb o1
  rw [e2, app_take l2] at o2
  exact ⟨g2, by rw [e1, e2]; simp, l2, o2⟩
theorem two_get {g : Hh} {o o' : Option MO} {n : Nat} (e : g.length = n) : (g ++ [o, o'])[n]? = some o ∧ (g ++ [o, o'])[n + 1]? = some o' := by
  constructor
  · rw [List.getElem?_append_right (by omega), e, Nat.sub_self]; rfl
  · rw [List.getElem?_append_right (by omega), e, show n + 1 - n = 1 by omega]; rfl
theorem two_set {g : Hh} {o o' z : Option MO} {n : Nat} (e : g.length = n) : (g ++ [o, o']).set n z = g ++ [z, o'] ∧ (g ++ [o, o']).set (n + 1) z = g ++ [o, z] := by
  constructor
  · rw [List.set_append_right _ _ (by omega), show n - g.length = 0 by omega]; rfl
  · rw [List.set_append_right _ _ (by omega), show n + 1 - g.length = 1 by omega]; rfl
end DL
set_option maxRecDepth 100000
set_option maxHeartbeats 400000
namespace DL
open PySem L2
local macro_rules | `(tactic| walk_at "dl") => `(tactic| simp (config := { dsimp := false }) only [↓fnM_e, ↓sSeq_e, seqK_nx, seqK_rt, seqK_bk, seqK_ct, retK_rt, retK_nx, ↓sFrz_e, frK_some, ↓sAsg, ↓sRet, ↓sRetN, ↓sIf, ↓sExpr, ↓sSkip, ↓sNever, ↓sPar, ↓sFor, ↓sSub, ↓fVar, ↓fC, ↓fNil, ↓fCons, ↓fA, ↓f1, ↓f2, ↓fB, ↓fIf, ↓fNeg, ↓fNot, ↓fAnd, ↓fOr, ↓bNot, ↓bAnd, ↓bOr, ↓bYes, ↓obnd_x, ob_some, ↓sbnd_x, sb_some, ↓ite_x, iteK_t, iteK_f, gN, gT, gC, gE, ↓rng1I, ↓rng2I, ↓seqI, ↓enumA, ↓zipI, ↓strI, ↓fLc, ↓fDc, ↓fM, ↓fSl, ↓oNone, ↓oSome, ↓fRev, wipeE, ↓kwM, permM, permL, List.foldr, List.length_cons, List.length_nil, List.map_cons, List.map_nil, List.cons_append, List.nil_append, List.replicate, List.replicate_succ, List.replicate_zero, List.getElem?_cons_zero, List.getElem?_cons_succ, List.set_cons_zero, List.set_cons_succ, if_true, if_false, reduceIte, Nat.reduceAdd, Nat.reduceSub, Nat.reduceEqDiff, Nat.reduceLT, Nat.reduceLeDiff, Int.reduceLT, Int.reduceLE, Int.reduceNeg, Int.reduceMul, Int.reduceAdd, Int.reduceSub, Int.reduceToNat, Int.reducePow, Int.reduceEq, ok, bok, deref, mkL, lstW, tupW, dats, Option.map_some, appendW, insertW, setL, isL, listW, tupleW, lenW, absW, intC, maxW, minW, idxW, addW, subW_e, modW_e, divW_e, powW_e, mulW, intW, lt_e, gt_e, le_e, ge_e, ltW, allW_e, anyW_e, sumW_e, lW, setW, lstAt, cutW, backW, isW, isiW, iLT_none, iLT_bool, iLT_int, iLT_str, iLT_list, iLT_tup, iL_none, iL_bool, iL_int, iL_str, iL_list, iL_tup, iT_none, iT_bool, iT_int, iT_str, iT_list, iT_tup, iS_none, iS_bool, iS_int, iS_str, iS_list, iS_tup, iI_none, iI_bool, iI_int, iI_str, iI_list, iI_tup, iB_none, iB_bool, iB_int, iB_str, iB_list, iB_tup, Bool.false_eq_true, reduceCtorEq, Bool.not_true, Bool.not_false, decide_true, decide_false, List.zip_cons_cons, List.zip_nil_left, List.foldl_cons, List.foldl_nil, and_self, and_true, true_and, Bool.and_true, Bool.true_and, Bool.or_true, Bool.true_or, *])
theorem perm_nodup : ∀ {l m : List Str}, l.Nodup → m.Nodup → (∀ k, k ∈ l ↔ k ∈ m) → l.Perm m
  | [], m, _, _, h => by
    have : m = [] := List.eq_nil_iff_forall_not_mem.mpr fun k hk => by have := (h k).mpr hk; cases this
    rw [this]
  | a :: l, m, n1, n2, h => by
    have ha : a ∈ m := (h a).mp List.mem_cons_self
    have pe := List.perm_cons_erase ha
    have n2' : (a :: m.erase a).Nodup := pe.nodup_iff.mp n2
    obtain ⟨a1, a2⟩ := List.nodup_cons.mp n1
    obtain ⟨b1, b2⟩ := List.nodup_cons.mp n2'
    refine (List.Perm.cons a (perm_nodup a2 b2 fun k => ?_)).trans pe.symm
    constructor
    · intro hk
      have ne : k ≠ a := fun z => by subst z; exact a1 hk
      exact (List.mem_erase_of_ne ne).mpr ((h k).mp (List.mem_cons_of_mem _ hk))
    · intro hk
      have ne : k ≠ a := fun z => by subst z; exact b1 hk
      rcases List.mem_cons.mp ((h k).mpr ((List.mem_erase_of_ne ne).mp hk)) with z | z
      · exact absurd z ne
      · exact z
theorem flat_pw {R : Str → Str → Prop} (f : Str → List Str) : ∀ {r : List Str}, (∀ t ∈ r, (f t).Pairwise R) → r.Pairwise (fun t u => ∀ a ∈ f t, ∀ b ∈ f u, R a b) → (r.flatMap f).Pairwise R
  | [], _, _ => .nil
  | t :: r, h1, h2 => by
    obtain ⟨h3, h4⟩ := List.pairwise_cons.mp h2
    rw [List.flatMap_cons, List.pairwise_append]
    refine ⟨h1 t List.mem_cons_self, flat_pw f (fun u hu => h1 u (List.mem_cons_of_mem _ hu)) h4, fun a ha b hb => ?_⟩
    obtain ⟨u, hu, hb⟩ := List.mem_flatMap.mp hb
    exact h3 u hu a ha b hb
theorem told_goal {r : List Str} {ps : List (Str × Str)} {t s : Str} (h : s ∈ told r ps t) : s ∈ r ∧ goal ps s = t := by
  unfold told at h
  rw [List.mem_filter] at h
  exact ⟨h.1, by simpa using h.2⟩
theorem led_flat {r : List Str} {ps : List (Str × Str)} (c : CallOf r ps) (nd : r.Nodup) : r.flatMap (told r ps) = led r ps := by
  apply led_eq
  · refine perm_nodup ?_ nd fun k => ?_
    · refine flat_pw (R := fun a b => a ≠ b) _ (fun t _ => nd.filter _) (nd.imp fun {t u} ne a ha b hb e => ?_)
      subst e
      exact ne ((told_goal ha).2.symm.trans (told_goal hb).2)
    · rw [List.mem_flatMap]
      constructor
      · rintro ⟨t, _, h⟩
        exact (told_goal h).1
      · intro hk
        refine ⟨goal ps k, (c.goal_mem hk).2, ?_⟩
        unfold told
        rw [List.mem_filter]
        exact ⟨hk, by simp⟩
  · refine flat_pw _ (fun t ht => ?_) ((pw_idx nd).imp fun {t u} lt a ha b hb => ?_)
    · refine List.Pairwise.imp_of_mem ?_ ((pw_idx nd).filter fun s => decide (goal ps s = t))
      intro a b ha hb lt
      have e1 := (told_goal (r := r) ha).2
      have e2 := (told_goal (r := r) hb).2
      unfold leK keyN
      rw [e1, e2, decide_eq_true_eq]
      exact .inr ⟨rfl, Nat.le_of_lt lt⟩
    · have e1 := (told_goal ha).2
      have e2 := (told_goal hb).2
      unfold leK keyN
      simp only [e1, e2, decide_eq_true_eq]
      exact .inl lt
noncomputable def ownBody : SM := sAsg (f2 (addW false) (fVar 3) (fLc false (seqI (fVar 0)) (gN 5) (fB (f2 (eqW false) (f2 idxW (fVar 2) (fVar 5)) (fVar 4))) (fVar 5) [5])) (gN 3)
theorem own_called_ok {x : D} {r : List Str} {ps : List (Str × Str)} {h : Hh} (hx : IsSeq x (r.map .str)) (c : CallOf r ps) (nd : r.Nodup) (hp : 0 < r.length) (hr : r.length ≤ 1000) : m__law_called [.dat x, .dat (cT ps)] h = some (.dat (rowT (led r ps)), h) := by
  have hz : sizeLine = 16777216 := rfl
  have hpl : ps.length = r.length := by have := c.perm.length_eq; rw [List.length_map] at this; exact this
  have e1 := dict_call (h := h) (ps := ps) (by omega) (c.nodup nd)
  have key := forL_inv (k := gN 4) (body := ownBody) (fun n ρ g => g = h ∧ ∃ v4 : Option W, ρ = [some (.dat x), some (.dat (cT ps)), some (.dat (dW ps)), some (.dat (.list (((r.take n).flatMap (told r ps)).map .str))), v4, none]) (ds := r.map .str) (n := 0)
    (ρ := [some (.dat x), some (.dat (cT ps)), some (.dat (dW ps)), some (.dat (.list [])), none, none]) (h := h) ⟨rfl, none, rfl⟩ (by
      intro j d ej ρ g hi
      obtain ⟨rfl, v4, rfl⟩ := hi
      rw [Nat.zero_add]
      rw [List.getElem?_map] at ej
      obtain ⟨t, et, rfl⟩ := Option.map_eq_some_iff.mp ej
      have e2 : lcL (gN 5) (fB (f2 (eqW false) (f2 idxW (fVar 2) (fVar 5)) (fVar 4))) (fVar 5) [some (.dat x), some (.dat (cT ps)), some (.dat (dW ps)), some (.dat (.list (((r.take j).flatMap (told r ps)).map .str))), some (.dat (.str t)), none] (r.map .str) g = some ((told r ps t).map .str, g) := by
        rw [lcL_map (fun d => decide (goal ps (unS d) = t)) (fun d => d)]
        · rw [List.map_id', List.filter_map]
          rfl
        · intro d hd
          obtain ⟨s, hs, rfl⟩ := List.mem_map.mp hd
          obtain ⟨k1, _⟩ := c.goal_mem hs
          have g1 : getD (sdic (tld ps)) (.str s) = some (some (.str (goal ps s))) := by rw [getD_sdic, look_tld, k1]; rfl
          have g2 := eqW_strs (neg := false) (i := goal ps s) (j := t) (h := g)
          refine ⟨[some (.dat x), some (.dat (cT ps)), some (.dat (dW ps)), some (.dat (.list (((r.take j).flatMap (told r ps)).map .str))), some (.dat (.str t)), some (.dat (.str s))], rfl, ?_, fun _ => rfl⟩
          clear hx c nd hp hr hz hpl e1 ej et hd hs k1
          generalize ((r.take j).flatMap (told r ps)).map PyData.str = w
          walk_at "dl"
          rfl
      have l1 : (((r.take j).flatMap (told r ps)).map PyData.str).length + ((told r ps t).map PyData.str).length ≤ sizeLine := by
        have q1 : (told r ps t).length ≤ r.length := List.length_filter_le _ _
        have q2 : ∀ m : List Str, (m.flatMap (told r ps)).length ≤ m.length * r.length := fun m => by
          induction m with
          | nil => exact Nat.zero_le _
          | cons a m ih =>
            have : (told r ps a).length ≤ r.length := List.length_filter_le _ _
            rw [List.flatMap_cons, List.length_append, List.length_cons, Nat.succ_mul]
            omega
        have q3 := q2 (r.take j)
        have q4 : (r.take j).length ≤ 1000 := by rw [List.length_take]; omega
        have q5 := Nat.mul_le_mul q4 hr
        rw [List.length_map, List.length_map]
        omega
      have l2 : ((told r ps t).map PyData.str).length ≤ sizeLine := by omega
      have e3 : (r.take (j + 1)).flatMap (told r ps) = (r.take j).flatMap (told r ps) ++ told r ps t := by
        rw [take_snoc et, List.flatMap_append]
        simp
      refine ⟨_, _, g, rfl, ?_, rfl, some (.dat (.str t)), rfl⟩
      rw [e3, List.map_append]
      unfold ownBody
      clear c nd hp hr hz hpl e1 ej et e3
      generalize ((r.take j).flatMap (told r ps)).map PyData.str = w at *
      rcases hx with rfl | rfl <;> walk_at "dl")
  obtain ⟨ρ', g, e, rfl, v4, rfl⟩ := key
  rw [Nat.zero_add, List.length_map, List.take_length, led_flat c nd] at e
  have lv := leave_same' (h := g) (d := rowT (led r ps))
  have c0 : 0 ≤ sizeLine := Nat.zero_le _
  unfold ownBody at e
  unfold m__law_called
  clear c nd hp hr hz hpl
  rcases hx with rfl | rfl <;> walk_at "dl"
end DL
set_option maxRecDepth 100000
set_option maxHeartbeats 400000
namespace DL
open PySem L2
end DL
set_option maxRecDepth 100000
set_option maxHeartbeats 400000
namespace DL
open PySem L2
local macro_rules | `(tactic| walk_at "dl") => `(tactic| simp (config := { dsimp := false }) only [↓fnM_e, ↓sSeq_e, seqK_nx, seqK_rt, seqK_bk, seqK_ct, retK_rt, retK_nx, ↓sFrz_e, frK_some, ↓sAsg, ↓sRet, ↓sRetN, ↓sIf, ↓sExpr, ↓sSkip, ↓sNever, ↓sPar, ↓sFor, ↓sSub, ↓fVar, ↓fC, ↓fNil, ↓fCons, ↓fA, ↓f1, ↓f2, ↓fB, ↓fIf, ↓fNeg, ↓fNot, ↓fAnd, ↓fOr, ↓bNot, ↓bAnd, ↓bOr, ↓bYes, ↓obnd_x, ob_some, ↓sbnd_x, sb_some, ↓ite_x, iteK_t, iteK_f, gN, gT, gC, gE, ↓rng1I, ↓rng2I, ↓seqI, ↓enumA, ↓zipI, ↓strI, ↓fLc, ↓fDc, ↓fM, ↓fSl, ↓oNone, ↓oSome, ↓fRev, wipeE, ↓kwM, permM, permL, List.foldr, List.length_cons, List.length_nil, List.map_cons, List.map_nil, List.cons_append, List.nil_append, List.replicate, List.replicate_succ, List.replicate_zero, List.getElem?_cons_zero, List.getElem?_cons_succ, List.set_cons_zero, List.set_cons_succ, if_true, if_false, reduceIte, Nat.reduceAdd, Nat.reduceSub, Nat.reduceEqDiff, Nat.reduceLT, Nat.reduceLeDiff, Int.reduceLT, Int.reduceLE, Int.reduceNeg, Int.reduceMul, Int.reduceAdd, Int.reduceSub, Int.reduceToNat, Int.reducePow, Int.reduceEq, ok, bok, deref, mkL, lstW, tupW, dats, Option.map_some, appendW, insertW, setL, isL, listW, tupleW, lenW, absW, intC, maxW, minW, idxW, addW, subW_e, modW_e, divW_e, powW_e, mulW, intW, lt_e, gt_e, le_e, ge_e, ltW, allW_e, anyW_e, sumW_e, lW, setW, lstAt, cutW, backW, isW, isiW, iLT_none, iLT_bool, iLT_int, iLT_str, iLT_list, iLT_tup, iL_none, iL_bool, iL_int, iL_str, iL_list, iL_tup, iT_none, iT_bool, iT_int, iT_str, iT_list, iT_tup, iS_none, iS_bool, iS_int, iS_str, iS_list, iS_tup, iI_none, iI_bool, iI_int, iI_str, iI_list, iI_tup, iB_none, iB_bool, iB_int, iB_str, iB_list, iB_tup, Bool.false_eq_true, reduceCtorEq, Bool.not_true, Bool.not_false, decide_true, decide_false, List.zip_cons_cons, List.zip_nil_left, List.foldl_cons, List.foldl_nil, and_self, and_true, true_and, Bool.and_true, Bool.true_and, Bool.or_true, Bool.true_or, *])
end DL
set_option maxRecDepth 100000
set_option maxHeartbeats 400000
namespace DL
open PySem L2
local macro_rules | `(tactic| walk_at "dl") => `(tactic| simp (config := { dsimp := false }) only [↓fnM_e, ↓sSeq_e, seqK_nx, seqK_rt, seqK_bk, seqK_ct, retK_rt, retK_nx, ↓sFrz_e, frK_some, ↓sAsg, ↓sRet, ↓sRetN, ↓sIf, ↓sExpr, ↓sSkip, ↓sNever, ↓sPar, ↓sFor, ↓sSub, ↓fVar, ↓fC, ↓fNil, ↓fCons, ↓fA, ↓f1, ↓f2, ↓fB, ↓fIf, ↓fNeg, ↓fNot, ↓fAnd, ↓fOr, ↓bNot, ↓bAnd, ↓bOr, ↓bYes, ↓obnd_x, ob_some, ↓sbnd_x, sb_some, ↓ite_x, iteK_t, iteK_f, gN, gT, gC, gE, ↓rng1I, ↓rng2I, ↓seqI, ↓enumA, ↓zipI, ↓strI, ↓fLc, ↓fDc, ↓fM, ↓fSl, ↓oNone, ↓oSome, ↓fRev, wipeE, ↓kwM, permM, permL, List.foldr, List.length_cons, List.length_nil, List.map_cons, List.map_nil, List.cons_append, List.nil_append, List.replicate, List.replicate_succ, List.replicate_zero, List.getElem?_cons_zero, List.getElem?_cons_succ, List.set_cons_zero, List.set_cons_succ, if_true, if_false, reduceIte, Nat.reduceAdd, Nat.reduceSub, Nat.reduceEqDiff, Nat.reduceLT, Nat.reduceLeDiff, Int.reduceLT, Int.reduceLE, Int.reduceNeg, Int.reduceMul, Int.reduceAdd, Int.reduceSub, Int.reduceToNat, Int.reducePow, Int.reduceEq, ok, bok, deref, mkL, lstW, tupW, dats, Option.map_some, appendW, insertW, setL, isL, listW, tupleW, lenW, absW, intC, maxW, minW, idxW, addW, subW_e, modW_e, divW_e, powW_e, mulW, intW, lt_e, gt_e, le_e, ge_e, ltW, allW_e, anyW_e, sumW_e, lW, setW, lstAt, cutW, backW, isW, isiW, iLT_none, iLT_bool, iLT_int, iLT_str, iLT_list, iLT_tup, iL_none, iL_bool, iL_int, iL_str, iL_list, iL_tup, iT_none, iT_bool, iT_int, iT_str, iT_list, iT_tup, iS_none, iS_bool, iS_int, iS_str, iS_list, iS_tup, iI_none, iI_bool, iI_int, iI_str, iI_list, iI_tup, iB_none, iB_bool, iB_int, iB_str, iB_list, iB_tup, Bool.false_eq_true, reduceCtorEq, Bool.not_true, Bool.not_false, decide_true, decide_false, List.zip_cons_cons, List.zip_nil_left, List.foldl_cons, List.foldl_nil, and_self, and_true, true_and, Bool.and_true, Bool.true_and, Bool.or_true, Bool.true_or, *])
noncomputable def foldBody : SM := sSub (f2 (addW false) (f2 idxW (fVar 2) (f2 modW (fVar 3) (fVar 1))) (f2 (mulW false) (fVar 4) (f2 (addW false) (fVar 3) (fC (.int 2))))) (fVar 2) (f2 modW (fVar 3) (fVar 1))
theorem fold_run {g : Hh} {x : W} {p j : Nat} {k m v a : Int} {cs : List D} (m0 : decide (0 < m) = true) (hg : g[p]? = some (some (.lst cs))) (ha : L2.atI cs (k % m) = some (.int a)) (hj : ixN cs.length (k % m) = some j) (k0 : -18446744073709551616 < k + 2) (k1 : k + 2 < 18446744073709551616) :
    foldBody [some x, some (.dat (.int m)), some (.ref p), some (.dat (.int k)), some (.dat (.int v))] g = some (.nx [some x, some (.dat (.int m)), some (.ref p), some (.dat (.int k)), some (.dat (.int v))], g.set p (some (.lst (cs.set j (.int (a + v * (k + 2))))))) := by
  unfold foldBody
  walk_at "dl"
theorem ints_at {cs : List Int} {i : Nat} (h : i < cs.length) : L2.atI (cs.map PyData.int) (i : Int) = some (.int cs[i]) :=
  atI_nat (xs := cs.map PyData.int) (j := i) (by rw [List.getElem?_map, List.getElem?_eq_getElem h]; rfl)
theorem ixN_nat {n i : Nat} (h : i < n) : ixN n (i : Int) = some i := by
  unfold ixN
  rw [if_pos (by omega), if_pos (by omega)]
  simp
theorem enum_int {ms : List Int} {j : Nat} {d : D} (e : (enumD 0 (ms.map .int))[j]? = some d) : ∃ v : Int, j < ms.length ∧ d = .tuple [.int (j : Int), .int v] := by
  obtain ⟨s, hs, rfl⟩ := enumD_get e
  rw [List.getElem?_map] at hs
  obtain ⟨v, hv, rfl⟩ := Option.map_eq_some_iff.mp hs
  exact ⟨v, (List.getElem?_eq_some_iff.mp hv).1, by rw [Nat.zero_add]⟩
theorem shp_ints (cs : List Int) : shp (.list (cs.map .int)) = true := by
  have h1 : ∀ cs : List Int, PyData.canLayAll0 (cs.map .int) = true := fun cs => by
    induction cs with
    | nil => rfl
    | cons a t ih => rw [List.map_cons, PyData.canLayAll0, ih]; simp [PyData.canLay0]
  have h2 : ∀ cs : List Int, PyData.depthAll (cs.map .int) = 0 := fun cs => by
    induction cs with
    | nil => rfl
    | cons a t ih => rw [List.map_cons, PyData.depthAll, ih]; simp [PyData.depth]
  unfold shp
  rw [PyData.canLay0, h1, PyData.depth, h2]
  rfl
theorem eqW_ints_nil {cs : List Int} {h : Hh} : eqW true (.dat (.list (cs.map .int))) (.dat (.list [])) h = some (.dat (.bool (decide (cs ≠ []))), h) := by
  have hs := shp_ints cs
  have h0 : shp (.list []) = true := by decide +kernel
  have e : PyData.eqv (.list (cs.map .int)) (.list []) = decide (cs = []) := by
    cases cs with
    | nil => decide +kernel
    | cons a l => simp [PyData.eqv, PyData.eqvAll]
  unfold eqW
  simp only [deref, eqS, hs, h0, e, Bool.and_self, if_true]
  show bok (!decide (cs = [])) h = _
  rw [← decide_not]; rfl
theorem fold_end {ns : List Int} {h : Hh} {cs : List Int} {m : Int} {z : Bool} {A B : List Int} {v3 v4 : Option W} (i3 : ∀ n, isR n v3 = false) (i4 : ∀ n, isR n v4 = false) (eA : cutG ns none (some m) = A) (eB : cutG ns (some m) (some 63) = B)
    (e1 : forL (gT 2 (gC (gN 3) (gC (gN 4) (gE)))) foldBody (enumD 0 (B.map .int)) [some (.scr ns), some (.dat (.int m)), some (.ref h.length), none, none] (h ++ [some (.lst (A.map .int))]) = some (.nx [some (.scr ns), some (.dat (.int m)), some (.ref h.length), v3, v4], h ++ [some (.lst (cs.map .int))])) (ez : decide (cs ≠ []) = z) :
    m__law_folded [.scr ns, .dat (.int m)] h = some (.dat (.list (if z = true then cs.map .int else [.int 0])), h) := by
  have e2 := eqW_ints_nil (cs := cs) (h := h ++ [none])
  rw [ez] at e2
  have c0 : 0 ≤ sizeLine := Nat.zero_le _
  have c1 : 1 ≤ sizeLine := by decide
  have hf : frz 2 [some (.scr ns), some (.dat (.int m)), some (.ref h.length), v3, v4] (h ++ [some (.lst (cs.map .int))]) = some ([some (.scr ns), some (.dat (.int m)), some (.dat (.list (cs.map .int))), v3, v4], h ++ [none]) := by
    have g1 : (h ++ [some (MO.lst (cs.map .int))])[h.length]? = some (some (.lst (cs.map .int))) := app_get rfl
    have g2 : (h ++ [some (MO.lst (cs.map .int))]).set h.length none = h ++ [none] := app_set rfl
    unfold frz
    simp only [List.getElem?_cons_zero, List.getElem?_cons_succ, g1, g2, List.set_cons_zero, List.set_cons_succ, List.any_cons, List.any_nil, i3, i4, isR_ref, isR_dat, isR_scr, isR_none, Bool.or_false, Bool.false_or, isTab, Bool.false_eq_true, if_false, moD]
  have lv := fun d : D => show leave false h (.dat d) (h ++ [none]) = some (.dat d, h) by
    have e : (h ++ [none]).take h.length = h := app_take rfl
    rw [leave_dat (by rw [e]), e]
  unfold foldBody at e1
  unfold m__law_folded
  clear i3 i4 ez
  cases z with
  | true => walk_at "dl"
  | false => walk_at "dl"
theorem folded_ok {ns : List Int} {h : Hh} (hn : ns.length ≤ 63) : ∃ cs : List Int, m__law_folded [.scr ns, .dat (.int 3)] h = some (.dat (.list (cs.map .int)), h) ∧ 0 < cs.length ∧ cs.length ≤ 3 := by
  have eA : cutG ns none (some (3 : Int)) = ns.take 3 := cut_to ns (k := 3)
  have eB : cutG ns (some (3 : Int)) (some 63) = ns.drop 3 := by
    have e : HT.sIx ns.length 0 (some (3 : Int)) = min 3 ns.length := HT.sIx_nat ns.length 0 3
    have e0 : HT.sIx ns.length ns.length (some (63 : Int)) = min 63 ns.length := HT.sIx_nat ns.length ns.length 63
    unfold cutG
    rw [e, e0, Nat.min_eq_right hn]
    rcases Nat.le_total 3 ns.length with q | q
    · rw [Nat.min_eq_left q]
      exact List.take_of_length_le (by rw [List.length_drop]; omega)
    · rw [Nat.min_eq_right q, List.drop_eq_nil_of_le q]
      simp
  obtain ⟨ρ', g, e1, v3, v4, cs, rfl, i3, i4, rfl, hl⟩ := forL_end (k := gT 2 (gC (gN 3) (gC (gN 4) (gE)))) (body := foldBody) (fun _ ρ g => ∃ (v3 v4 : Option W) (cs : List Int), ρ = [some (.scr ns), some (.dat (.int 3)), some (.ref h.length), v3, v4] ∧ (∀ n, isR n v3 = false) ∧ (∀ n, isR n v4 = false) ∧ g = h ++ [some (.lst (cs.map .int))] ∧ cs.length = (ns.take 3).length)
    (ds := enumD 0 ((ns.drop 3).map .int)) (ρ := [some (.scr ns), some (.dat (.int 3)), some (.ref h.length), none, none]) (h := h ++ [some (.lst ((ns.take 3).map .int))]) ⟨none, none, ns.take 3, rfl, fun _ => rfl, fun _ => rfl, rfl, rfl⟩ (by
      intro j d ej ρ g hi
      obtain ⟨v3, v4, cs, rfl, i3, i4, rfl, hl⟩ := hi
      obtain ⟨v, hj, rfl⟩ := enum_int ej
      rw [List.length_drop] at hj
      have h3 : cs.length = 3 := by rw [hl, List.length_take]; omega
      have hk : j % 3 < cs.length := by omega
      have ek : (j : Int) % 3 = ((j % 3 : Nat) : Int) := by omega
      have et := fold_run (x := .scr ns) (p := h.length) (j := j % 3) (k := (j : Int)) (m := 3) (v := v) (a := cs[j % 3]) (cs := cs.map .int) (g := h ++ [some (.lst (cs.map .int))]) rfl (app_get rfl) (by rw [ek]; exact ints_at hk) (by rw [List.length_map, ek]; exact ixN_nat hk) (by omega) (by omega)
      rw [app_set rfl] at et
      refine ⟨_, _, _, ?_, et, some (.dat (.int (j : Int))), some (.dat (.int v)), cs.set (j % 3) (cs[j % 3] + v * ((j : Int) + 2)), rfl, fun _ => rfl, fun _ => rfl, ?_, by rw [List.length_set]; exact hl⟩
      · clear et hj h3 hk ek hl ej eA eB hn i3 i4
        walk_at "dl"
      · rw [List.map_set])
  by_cases z : cs = []
  · refine ⟨[0], ?_, by simp, by simp⟩
    rw [fold_end (z := false) i3 i4 eA eB e1 (by simp [z])]
    rfl
  · refine ⟨cs, ?_, List.length_pos_iff.mpr z, by rw [hl, List.length_take]; omega⟩
    rw [fold_end (z := true) i3 i4 eA eB e1 (by simp [z])]
    rfl
theorem boxL_run {cs : List Int} {k cell a n : Int} {z : Bool} {h : Hh} (hn : ((cs.map PyData.int).length : Int) = n) (h1 : decide (k < n) = true) (h2 : L2.atI (cs.map PyData.int) k = some (.int cell)) (ha : (if cell < 0 then -cell else cell) = a) (hz : decide (1000000000000000000 ≤ a) = z) :
    m__law_box [.dat (.list (cs.map .int)), .dat (.int k)] h = some (.ref h.length, h ++ [some (.lst [.int (a * (if z = true then 1 else 0)), .int (cell % 2147483629 + 7919 * k + 11), .int 0])]) := by
  have c7 : 3 ≤ sizeLine := by decide
  have hna : Int.natAbs 10 < 18446744073709551616 := by decide
  have lv := leave_ref (h := h) (ds := [.int (a * (if z = true then 1 else 0)), .int (cell % 2147483629 + 7919 * k + 11), .int 0])
  unfold m__law_box
  cases z with
  | true => walk_at "dl"; exact leave_ref
  | false => walk_at "dl"; exact leave_ref
theorem boxL_new {cs : List Int} {k : Nat} {h : Hh} (hk : k < cs.length) (hk2 : k < 100) :
    ∃ d s : Int, m__law_box [.dat (.list (cs.map .int)), .dat (.int (k : Int))] h = some (.ref h.length, h ++ [some (.lst [.int d, .int s, .int 0])]) ∧ 0 ≤ d ∧ 0 ≤ s ∧ s < 1099511627776 := by
  refine ⟨_, _, boxL_run (n := (cs.length : Int)) (by rw [List.length_map]) (by simp; omega) (ints_at hk) rfl rfl, ?_, by omega, by omega⟩
  split <;> split <;> omega
noncomputable def lawTurn (T : Int) (right : FM) : SM := (sSeq (sAsg (fA (m__law_box) (fCons (fVar 1) (fCons (fVar 2) (fNil)))) (gN 3))
    (sIf (bNot (fB (fA allW (fCons (fLc false (rng1I (fCons (fC (.int T)) (fNil))) (gN 4) (bYes) (fA right (fCons (fVar 3) (fNil))) [4]) (fNil))))) (sRet (fC (.bool false))) (sSkip)))
noncomputable def lawF (T : Int) (right : FM) : FM := fnM false 1 5 (sSeq (sAsg (fA (m__law_folded) (fCons (fVar 0) (fCons (fC (.int 3)) (fNil)))) (gN 1))
    (sSeq (sFor (rng1I (fCons (fA lenW (fCons (fVar 1) (fNil))) (fNil))) (gN 2)
    (sSeq (sAsg (fA (m__law_box) (fCons (fVar 1) (fCons (fVar 2) (fNil)))) (gN 3))
    (sIf (bNot (fB (fA allW (fCons (fLc false (rng1I (fCons (fC (.int T)) (fNil))) (gN 4) (bYes) (fA right (fCons (fVar 3) (fNil))) [4]) (fNil))))) (sRet (fC (.bool false))) (sSkip))))
    (sRet (fC (.bool true)))))
theorem lawF_turn {T : Int} {t : Nat} {h0 : Hh} (hT : T.toNat = t) (T0 : -1000000000 ≤ T) (T1 : T ≤ 1000000000) (T2 : t ≤ sizeLine) {right : FM} {cost : Nat} (hr : ∀ (h : Hh) (b c : Nat), Pre h0 h → h0.length ≤ b → BoxAt h b c → c ≤ t * cost → ∃ h', right [.ref b] h = some (.dat (.bool true), h') ∧ BoxAt h' b (c + cost) ∧ Only b h h') {ns cs : List Int} {k : Nat} (k0 : k < cs.length) (k1 : k < 100) (v3 v4 : Option W) (h : Hh) (hp : Pre h0 h) (hl0 : h0.length ≤ h.length) :
    ∃ w3 h', lawTurn T right [some (.scr ns), some (.dat (.list (cs.map .int))), some (.dat (.int (k : Int))), v3, v4] h = some (.nx [some (.scr ns), some (.dat (.list (cs.map .int))), some (.dat (.int (k : Int))), w3, v4], h') ∧ Pre h0 h' ∧ h0.length ≤ h'.length := by
  obtain ⟨d, s, e, hd, hs, hs2⟩ := boxL_new (h := h) k0 k1
  have hb : BoxAt (h ++ [some (.lst [.int d, .int s, .int 0])]) h.length 0 := ⟨d, s, 0, by simp, hd, hs, hs2, by omega, by omega⟩
  obtain ⟨rs, h', e2, hl, hall, _, hp', hl1⟩ := lcL_inv (k := gN 4) (f := fA right (fCons (fVar 3) (fNil))) (ρ := [some (.scr ns), some (.dat (.list (cs.map .int))), some (.dat (.int (k : Int))), some (.ref h.length), none])
    (fun n g => BoxAt g h.length (n * cost) ∧ Pre h0 g ∧ h0.length ≤ g.length) (fun _ d => d = .bool true) (ds := rngD 0 T.toNat) (n := 0) (h := h ++ [some (.lst [.int d, .int s, .int 0])]) (by rw [Nat.zero_mul]; exact ⟨hb, hp.app hl0, by simp; omega⟩) (by
      intro j d' ej g hi
      obtain ⟨hi, hp1, hl1⟩ := hi
      rw [Nat.zero_add] at hi ⊢
      have hj := (rng_get ej).1
      obtain ⟨g', e3, b3, o3⟩ := hr g h.length _ hp1 hl0 hi (Nat.mul_le_mul_right _ (by omega))
      refine ⟨[some (.scr ns), some (.dat (.list (cs.map .int))), some (.dat (.int (k : Int))), some (.ref h.length), some (.dat d')], .bool true, g', rfl, ?_, rfl, by rw [Nat.succ_mul]; exact b3, hp1.only hl0 o3, by rw [o3.len]; exact hl1⟩
      clear hp hp1 hl0 hl1 k0 k1 e
      walk_at "dl")
  have er : rs = List.replicate rs.length (.bool true) := bools_all fun r hr => by
    obtain ⟨j, hj, rfl⟩ := List.getElem_of_mem hr
    exact hall j _ (List.getElem?_eq_getElem hj)
  have hl' : rs.length = t := by rw [hl, rng_len, hT]
  rw [hl'] at er
  subst er
  have e4 := bools_true t
  have e5 := all_true t
  have e6 : (List.replicate t (PyData.bool true)).length ≤ sizeLine := by rw [List.length_replicate]; exact T2
  refine ⟨some (.ref h.length), h', ?_, hp', hl1⟩
  unfold lawTurn
  clear hall hl hl' hb hr hp hp' hl0 hl1 k0 k1
  rw [hT] at e2
  walk_at "dl"
theorem law_okF {T : Int} {t : Nat} {h0 : Hh} (hT : T.toNat = t) (T0 : -1000000000 ≤ T) (T1 : T ≤ 1000000000) (T2 : t ≤ sizeLine) {right : FM} {cost : Nat} (hr : ∀ (h : Hh) (b c : Nat), Pre h0 h → h0.length ≤ b → BoxAt h b c → c ≤ t * cost → ∃ h', right [.ref b] h = some (.dat (.bool true), h') ∧ BoxAt h' b (c + cost) ∧ Only b h h') (ns : List Int) (hn : ns.length ≤ 63) :
    ∃ h', lawF T right [.scr ns] h0 = some (.dat (.bool true), h') := by
  obtain ⟨cs, ec, c0, c3⟩ := folded_ok (h := h0) hn
  obtain ⟨ρ', h', e, w2, w3, w4, rfl, hp, hl⟩ := forL_end (k := gN 2) (body := lawTurn T right) (fun _ ρ g => ∃ w2 w3 w4 : Option W, ρ = [some (.scr ns), some (.dat (.list (cs.map .int))), w2, w3, w4] ∧ Pre h0 g ∧ h0.length ≤ g.length) (ds := rngD 0 cs.length) (ρ := [some (.scr ns), some (.dat (.list (cs.map .int))), none, none, none]) (h := h0) ⟨none, none, none, rfl, fun _ _ => rfl, Nat.le_refl _⟩ (by
      intro j d ej ρ h hi
      obtain ⟨w2, w3, w4, rfl, hp, hl⟩ := hi
      obtain ⟨hj, rfl⟩ := rng_get ej
      obtain ⟨w3', h', e, hp', hl'⟩ := lawF_turn hT T0 T1 T2 hr (ns := ns) (cs := cs) (k := j) hj (by omega) w3 w4 h hp hl
      exact ⟨_, _, h', rfl, e, _, _, _, rfl, hp', hl'⟩)
  refine ⟨h0, ?_⟩
  obtain ⟨n, hn'⟩ : ∃ n : Int, ((cs.map PyData.int).length : Int) = n := ⟨_, rfl⟩
  have b0 : -1000000000 ≤ n := by omega
  have b1 : n ≤ 1000000000 := by rw [← hn', List.length_map]; omega
  have b2 : n.toNat = cs.length := by rw [← hn', List.length_map]; simp
  have lv : leave false h0 (.dat (.bool true)) h' = some (.dat (.bool true), h0) := by
    have e := hp.take hl
    rw [leave_dat (by rw [e]), e]
  unfold lawTurn at e
  unfold lawF
  clear hr T0 T1 T2 hp hl c0 c3
  walk_at "dl"
end DL
set_option maxRecDepth 100000
set_option maxHeartbeats 400000
namespace DL
open PySem L2
local macro_rules | `(tactic| walk_at "dl") => `(tactic| simp (config := { dsimp := false }) only [↓fnM_e, ↓sSeq_e, seqK_nx, seqK_rt, seqK_bk, seqK_ct, retK_rt, retK_nx, ↓sFrz_e, frK_some, ↓sAsg, ↓sRet, ↓sRetN, ↓sIf, ↓sExpr, ↓sSkip, ↓sNever, ↓sPar, ↓sFor, ↓sSub, ↓fVar, ↓fC, ↓fNil, ↓fCons, ↓fA, ↓f1, ↓f2, ↓fB, ↓fIf, ↓fNeg, ↓fNot, ↓fAnd, ↓fOr, ↓bNot, ↓bAnd, ↓bOr, ↓bYes, ↓obnd_x, ob_some, ↓sbnd_x, sb_some, ↓ite_x, iteK_t, iteK_f, gN, gT, gC, gE, ↓rng1I, ↓rng2I, ↓seqI, ↓enumA, ↓zipI, ↓strI, ↓fLc, ↓fDc, ↓fM, ↓fSl, ↓oNone, ↓oSome, ↓fRev, wipeE, ↓kwM, permM, permL, List.foldr, List.length_cons, List.length_nil, List.map_cons, List.map_nil, List.cons_append, List.nil_append, List.replicate, List.replicate_succ, List.replicate_zero, List.getElem?_cons_zero, List.getElem?_cons_succ, List.set_cons_zero, List.set_cons_succ, if_true, if_false, reduceIte, Nat.reduceAdd, Nat.reduceSub, Nat.reduceEqDiff, Nat.reduceLT, Nat.reduceLeDiff, Int.reduceLT, Int.reduceLE, Int.reduceNeg, Int.reduceMul, Int.reduceAdd, Int.reduceSub, Int.reduceToNat, Int.reducePow, Int.reduceEq, ok, bok, deref, mkL, lstW, tupW, dats, Option.map_some, appendW, insertW, setL, isL, listW, tupleW, lenW, absW, intC, maxW, minW, idxW, addW, subW_e, modW_e, divW_e, powW_e, mulW, intW, lt_e, gt_e, le_e, ge_e, ltW, allW_e, anyW_e, sumW_e, lW, setW, lstAt, cutW, backW, isW, isiW, iLT_none, iLT_bool, iLT_int, iLT_str, iLT_list, iLT_tup, iL_none, iL_bool, iL_int, iL_str, iL_list, iL_tup, iT_none, iT_bool, iT_int, iT_str, iT_list, iT_tup, iS_none, iS_bool, iS_int, iS_str, iS_list, iS_tup, iI_none, iI_bool, iI_int, iI_str, iI_list, iI_tup, iB_none, iB_bool, iB_int, iB_str, iB_list, iB_tup, Bool.false_eq_true, reduceCtorEq, Bool.not_true, Bool.not_false, decide_true, decide_false, List.zip_cons_cons, List.zip_nil_left, List.foldl_cons, List.foldl_nil, and_self, and_true, true_and, Bool.and_true, Bool.true_and, Bool.or_true, Bool.true_or, *])
end DL
set_option maxRecDepth 100000
set_option maxHeartbeats 400000
namespace DL
open PySem L2
def restOf (r : List Str) (a : Str) : List Str := r.filter fun s => !decide (s = a)
def goN (r : List Str) (a t : Str) : Nat := (restOf r a).idxOf t + (if r.idxOf t < r.idxOf a then 1 else 0)
end DL
set_option maxRecDepth 100000
set_option maxHeartbeats 400000
namespace DL
open PySem L2
end DL
set_option maxRecDepth 100000
set_option maxHeartbeats 400000
namespace DL
open PySem L2
end DL
set_option maxRecDepth 100000
set_option maxHeartbeats 400000
namespace DL
open PySem L2
local macro_rules | `(tactic| walk_at "dl") => `(tactic| simp (config := { dsimp := false }) only [↓fnM_e, ↓sSeq_e, seqK_nx, seqK_rt, seqK_bk, seqK_ct, retK_rt, retK_nx, ↓sFrz_e, frK_some, ↓sAsg, ↓sRet, ↓sRetN, ↓sIf, ↓sExpr, ↓sSkip, ↓sNever, ↓sPar, ↓sFor, ↓sSub, ↓fVar, ↓fC, ↓fNil, ↓fCons, ↓fA, ↓f1, ↓f2, ↓fB, ↓fIf, ↓fNeg, ↓fNot, ↓fAnd, ↓fOr, ↓bNot, ↓bAnd, ↓bOr, ↓bYes, ↓obnd_x, ob_some, ↓sbnd_x, sb_some, ↓ite_x, iteK_t, iteK_f, gN, gT, gC, gE, ↓rng1I, ↓rng2I, ↓seqI, ↓enumA, ↓zipI, ↓strI, ↓fLc, ↓fDc, ↓fM, ↓fSl, ↓oNone, ↓oSome, ↓fRev, wipeE, ↓kwM, permM, permL, List.foldr, List.length_cons, List.length_nil, List.map_cons, List.map_nil, List.cons_append, List.nil_append, List.replicate, List.replicate_succ, List.replicate_zero, List.getElem?_cons_zero, List.getElem?_cons_succ, List.set_cons_zero, List.set_cons_succ, if_true, if_false, reduceIte, Nat.reduceAdd, Nat.reduceSub, Nat.reduceEqDiff, Nat.reduceLT, Nat.reduceLeDiff, Int.reduceLT, Int.reduceLE, Int.reduceNeg, Int.reduceMul, Int.reduceAdd, Int.reduceSub, Int.reduceToNat, Int.reducePow, Int.reduceEq, ok, bok, deref, mkL, lstW, tupW, dats, Option.map_some, appendW, insertW, setL, isL, listW, tupleW, lenW, absW, intC, maxW, minW, idxW, addW, subW_e, modW_e, divW_e, powW_e, mulW, intW, lt_e, gt_e, le_e, ge_e, ltW, allW_e, anyW_e, sumW_e, lW, setW, lstAt, cutW, backW, isW, isiW, iLT_none, iLT_bool, iLT_int, iLT_str, iLT_list, iLT_tup, iL_none, iL_bool, iL_int, iL_str, iL_list, iL_tup, iT_none, iT_bool, iT_int, iT_str, iT_list, iT_tup, iS_none, iS_bool, iS_int, iS_str, iS_list, iS_tup, iI_none, iI_bool, iI_int, iI_str, iI_list, iI_tup, iB_none, iB_bool, iB_int, iB_str, iB_list, iB_tup, Bool.false_eq_true, reduceCtorEq, Bool.not_true, Bool.not_false, decide_true, decide_false, List.zip_cons_cons, List.zip_nil_left, List.foldl_cons, List.foldl_nil, and_self, and_true, true_and, Bool.and_true, Bool.true_and, Bool.or_true, Bool.true_or, *])
def digN (many few : Nat) : Nat := ((List.range (many + 1)).find? fun d => decide (many ≤ few ^ d)).getD 0
theorem pow_ge {few : Nat} (h : 2 ≤ few) : ∀ n : Nat, n < few ^ n
  | 0 => by simp
  | n + 1 => by
    have ih := pow_ge h n
    rw [Nat.pow_succ]
    have : few ^ n * 2 ≤ few ^ n * few := Nat.mul_le_mul_left _ h
    omega
theorem dig_some {many few : Nat} (h : 2 ≤ few) : ((List.range (many + 1)).find? fun d => decide (many ≤ few ^ d)) = some (digN many few) := by
  unfold digN
  cases e : (List.range (many + 1)).find? fun d => decide (many ≤ few ^ d) with
  | some d => rfl
  | none =>
    have := List.find?_eq_none.mp e many (by simp)
    have p := pow_ge h many
    simp only [decide_eq_true_eq] at this
    omega
theorem dig_ge {many few : Nat} (h : 2 ≤ few) : many ≤ few ^ digN many few := by
  have e := dig_some (many := many) h
  have := List.find?_some e
  simpa using this
theorem dig_lt {many few j : Nat} (h : 2 ≤ few) (hj : j < digN many few) : few ^ j < many := by
  have e := dig_some (many := many) h
  obtain ⟨_, as, bs, ea, hn⟩ := List.find?_eq_some_iff_append.mp e
  have hl : digN many few < many + 1 := by
    have := List.mem_of_find?_eq_some e
    simpa using this
  have hr : (List.range (many + 1))[as.length]? = some (digN many few) := by rw [ea]; simp
  rw [List.getElem?_range (by
    have := congrArg List.length ea
    simp at this
    omega)] at hr
  have hr : as.length = digN many few := Option.some.inj hr
  rw [← hr] at hj hl
  have hm : j ∈ as := by
    have e2 : (List.range (many + 1))[j]? = as[j]? := by rw [ea, List.getElem?_append_left hj]
    rw [List.getElem?_range (by omega)] at e2
    exact List.mem_of_getElem? e2.symm
  have := hn j hm
  simpa using this
theorem dig_le {many few j : Nat} (h : 2 ≤ few) (hj : many ≤ few ^ j) : digN many few ≤ j := by
  apply Nat.le_of_not_lt
  intro c
  have := dig_lt h c
  omega
theorem dig_top {many few : Nat} (h : 2 ≤ few) : digN many few ≤ many := dig_le h (Nat.le_of_lt (pow_ge h many))
noncomputable def digBody : SM := (sSeq (sAug gMul 3 (fVar 1))
    (sAug gAdd 2 (fC (.int 1))))
theorem dig_turn {m f r k : Int} {h : Hh} (f0 : -18446744073709551616 < f) (f1 : f < 18446744073709551616) : digBody [some (.dat (.int m)), some (.dat (.int f)), some (.dat (.int k)), some (.dat (.int r))] h = some (.nx [some (.dat (.int m)), some (.dat (.int f)), some (.dat (.int (k + 1))), some (.dat (.int (r * f)))], h) := by
  have g : gMul r f = some (r * f) := by
    unfold gMul
    simp [f0, f1]
  have a : gAdd k 1 = some (k + 1) := rfl
  unfold digBody
  simp only [sSeq, sAug, fVar, fC, List.getElem?_cons_succ, List.getElem?_cons_zero, sbnd, g, a, List.set_cons_succ, List.set_cons_zero]
theorem digits_ok {m f : Nat} {h : Hh} (h0 : 1 ≤ m) (h1 : m ≤ 1000) (h2 : 2 ≤ f) (h3 : f ≤ 1000) : m_digits_wanted [.dat (.int (m : Int)), .dat (.int (f : Int))] h = some (.dat (.int (digN m f : Int)), h) := by
  have key := whileL_run (t := fB (f2 lt_W (fVar 3) (fVar 0))) (body := digBody) (fun n ρ g => g = h ∧ ρ = [some (.dat (.int (m : Int))), some (.dat (.int (f : Int))), some (.dat (.int (n : Int))), some (.dat (.int ((f ^ n : Nat) : Int)))]) (digN m f) (n := 0) (fuel := 100000) (ρ := [some (.dat (.int (m : Int))), some (.dat (.int (f : Int))), some (.dat (.int 0)), some (.dat (.int 1))]) (h := h)
    (by have := dig_top (many := m) h2; omega) ⟨rfl, by simp⟩ (by
      rintro j ρ g _ hj ⟨rfl, rfl⟩
      have lt := dig_lt (many := m) h2 (j := j) (by omega)
      refine ⟨g, [some (.dat (.int (m : Int))), some (.dat (.int (f : Int))), some (.dat (.int ((j : Int) + 1))), some (.dat (.int (((f ^ j : Nat) : Int) * (f : Int))))], g, ?_, ?_, rfl, ?_⟩
      · have d : decide (((f ^ j : Nat) : Int) < (m : Int)) = true := by simp only [decide_eq_true_eq]; exact Int.ofNat_lt.mpr lt
        generalize ((f ^ j : Nat) : Int) = r at d ⊢
        clear lt
        walk_at "dl"
      · exact dig_turn (by omega) (by omega)
      · have e : ((f ^ j : Nat) : Int) * (f : Int) = ((f ^ (j + 1) : Nat) : Int) := by rw [Nat.pow_succ, Int.natCast_mul]
        rw [e]
        rfl) (by
      rintro ρ g ⟨rfl, rfl⟩
      have ge := dig_ge (many := m) h2
      rw [Nat.zero_add]
      have d : decide (((f ^ digN m f : Nat) : Int) < (m : Int)) = false := by
        simp only [decide_eq_false_iff_not, Int.not_lt]
        exact Int.ofNat_le.mpr ge
      generalize ((f ^ digN m f : Nat) : Int) = r at d ⊢
      clear ge
      walk_at "dl")
  rw [Nat.zero_add] at key
  obtain ⟨ρ', g', ew, rfl, rfl⟩ := key
  have ew' : sWhile 100000 (fB (f2 lt_W (fVar 3) (fVar 0))) (sSeq (sAug gMul 3 (fVar 1)) (sAug gAdd 2 (fC (.int 1)))) [some (.dat (.int (m : Int))), some (.dat (.int (f : Int))), some (.dat (.int 0)), some (.dat (.int 1))] g' = some (.nx [some (.dat (.int (m : Int))), some (.dat (.int (f : Int))), some (.dat (.int (digN m f : Int))), some (.dat (.int ((f ^ digN m f : Nat) : Int)))], g') := ew
  have lv := leave_same' (h := g') (d := .int (digN m f : Int))
  generalize ((f ^ digN m f : Nat) : Int) = r at ew'
  generalize (digN m f : Int) = dd at ew' lv ⊢
  have c2 : 2 ≤ sizeLine := by decide
  unfold m_digits_wanted
  clear ew h0 h1 h2 h3
  walk_at "dl"
def cnt (g : Nat → Nat) : Nat → Nat
  | 0 => 0
  | i + 1 => cnt g i + if g (i + 1) < g i then 1 else 0
theorem falls_bd {r m : List Str} : fallsN r m ≤ m.length := by
  unfold fallsN
  refine Nat.le_trans (List.length_filter_le _ _) ?_
  rw [List.length_zip, List.length_drop]
  omega
theorem fewest_ok {x y : D} {r m : List Str} {f : Nat} {h : Hh} (hx : IsSeq x (r.map .str)) (hy : IsSeq y (m.map .str)) (p : r.Perm m) (nd : r.Nodup) (hl : r.length ≤ 900) (ht : Txts r) (h2 : 2 ≤ f) (h3 : f ≤ 1000) : m_fewest_calls [.dat x, .dat y, .dat (.int (f : Int))] h = some (.dat (.int (digN (fallsN r m + 1) f : Int)), h) := by
  have e1 := falls_ok (h := h) hx hy p nd (by omega) ht
  have b := falls_bd (r := r) (m := m)
  have pl := p.length_eq
  have e2 := digits_ok (h := h) (m := fallsN r m + 1) (f := f) (by omega) (by omega) h2 h3
  rw [Int.natCast_add] at e2
  have e3 : m_digits_wanted [.dat (.int ((fallsN r m : Int) + 1)), .dat (.int (f : Int))] h = some (.dat (.int (digN (fallsN r m + 1) f : Int)), h) := e2
  have lv := leave_same' (h := h) (d := .int (digN (fallsN r m + 1) f : Int))
  generalize (digN (fallsN r m + 1) f : Int) = dd at e3 lv ⊢
  generalize (fallsN r m : Int) = ff at e1 e3
  generalize (f : Int) = fi at e3 ⊢
  unfold m_fewest_calls
  clear e2 hx hy b pl h2 h3
  walk_at "dl"
end DL
set_option maxRecDepth 100000
set_option maxHeartbeats 400000
namespace DL
open PySem L2
theorem at_nat {xs : List D} {j : Nat} {d : D} (h : xs[j]? = some d) : L2.atI xs (j : Int) = some d := by
  obtain ⟨hl, e⟩ := List.getElem?_eq_some_iff.mp h
  unfold L2.atI
  rw [ixN_nat hl]
  exact h
theorem lcL_list {α : Type} {k : TM} {f : EM} {ρ : Env} {h : Hh} (em : α → D) (g : α → D) : ∀ {xs : List α}, (∀ x ∈ xs, ∃ ρ1, k (.dat (em x)) ρ h = some ρ1 ∧ f ρ1 h = some (.dat (g x), h)) → lcL k bYes f ρ (xs.map em) h = some (xs.map g, h)
  | [], _ => rfl
  | x :: xs, H => by
    obtain ⟨ρ1, e1, e2⟩ := H x List.mem_cons_self
    rw [List.map_cons, List.map_cons, lcL]
    simp only [e1, bYes, obnd, if_true, e2]
    rw [lcL_list em g fun y hy => H y (List.mem_cons_of_mem _ hy)]
end DL
set_option maxRecDepth 100000
set_option maxHeartbeats 400000
namespace DL
open PySem L2
def OkA (h : Hh) : Prop := h.all okM = true
theorem OkA.nil : OkA [] := rfl
theorem OkA.app {h : Hh} {o : Option MO} (x : OkA h) (y : okM o = true) : OkA (h ++ [o]) := by
  unfold OkA at *
  rw [List.all_append, x]
  simp [y]
theorem okM_ints (a b c : Int) : okM (some (.lst [.int a, .int b, .int c])) = true := by simp [okM, noLs, noL]
theorem OkA.only {h h' : Hh} {b c : Nat} (x : OkA h) (o : Only b h h') (bx : BoxAt h' b c) : OkA h' := by
  unfold OkA at *
  rw [List.all_eq_true] at *
  intro z hz
  obtain ⟨i, hi, e⟩ := List.getElem_of_mem hz
  have e' : h'[i]? = some z := by rw [List.getElem?_eq_getElem hi, e]
  by_cases hb : i = b
  · subst hb
    obtain ⟨d, s, k, q, _⟩ := bx
    rw [q] at e'
    cases e'
    exact okM_ints _ _ _
  · rw [o.off i hb] at e'
    exact x z (List.mem_of_getElem? e')
theorem OkA.take {h : Hh} (n : Nat) (x : OkA h) : OkA (h.take n) := by
  unfold OkA at *
  rw [List.all_eq_true] at *
  exact fun z hz => x z (List.mem_of_mem_take hz)
end DL
set_option maxRecDepth 100000
set_option maxHeartbeats 400000
namespace DL
open PySem L2
def Srt (r : List Str) (key : Str → Nat) (m : List Str) : Prop := m.Perm r ∧ m.Pairwise fun a b => key a < key b ∨ (key a = key b ∧ r.idxOf a < r.idxOf b)
theorem Srt.eq {r m m' : List Str} {key : Str → Nat} (h : Srt r key m) (h' : Srt r key m') : m = m' := by
  refine List.Perm.eq_of_pairwise (fun a b ha hb h1 h2 => ?_) h.2 h'.2 (h.1.trans h'.1.symm)
  omega
theorem Srt.congr {r m : List Str} {key key' : Str → Nat} (h : Srt r key m) (e : ∀ s ∈ r, key s = key' s) : Srt r key' m := by
  refine ⟨h.1, List.Pairwise.imp_of_mem ?_ h.2⟩
  intro a b ha hb q
  rw [← e a (h.1.mem_iff.mp ha), ← e b (h.1.mem_iff.mp hb)]
  exact q
end DL
set_option maxRecDepth 100000
set_option maxHeartbeats 400000
namespace DL
open PySem L2
end DL
set_option maxRecDepth 100000
set_option maxHeartbeats 400000
namespace DL
open PySem L2
end DL
set_option maxRecDepth 100000
set_option maxHeartbeats 400000
namespace DL
open PySem L2
theorem all_noDM_app {h : Hh} {o : Option MO} (hk : h.all noDM = true) (ho : noDM o = true) : (h ++ [o]).all noDM = true := by
  rw [List.all_append, hk]
  simp [ho]
end DL
set_option maxRecDepth 100000
set_option maxHeartbeats 400000
namespace DL
open PySem L2
end DL
set_option maxRecDepth 100000
set_option maxHeartbeats 400000
namespace DL
open PySem L2
structure JD (h0 h : Hh) : Prop where
  pre : Pre h0 h
  len : h0.length ≤ h.length
  nod : h.all noDM = true
theorem JD.app {h0 h : Hh} (j : JD h0 h) {o : Option MO} (ho : noDM o = true) : JD h0 (h ++ [o]) := ⟨j.pre.app j.len, by rw [List.length_append]; have := j.len; omega, all_noDM_app j.nod ho⟩
theorem noDM_ints (a b c : Int) : noDM (some (.lst [.int a, .int b, .int c])) = true := by simp [noDM, noDs, noD]
theorem nod_only {h h' : Hh} {b c : Nat} (hk : h.all noDM = true) (o : Only b h h') (bx : BoxAt h' b c) : h'.all noDM = true := by
  rw [List.all_eq_true] at *
  intro z hz
  obtain ⟨i, hi, e⟩ := List.getElem_of_mem hz
  have e' : h'[i]? = some z := by rw [List.getElem?_eq_getElem hi, e]
  by_cases hb : i = b
  · subst hb
    obtain ⟨d, s, k, q, _⟩ := bx
    rw [q] at e'
    cases e'
    exact noDM_ints _ _ _
  · rw [o.off i hb] at e'
    exact hk z (List.mem_of_getElem? e')
theorem JD.only {h0 h h' : Hh} {b c : Nat} (j : JD h0 h) (hb : h0.length ≤ b) (o : Only b h h') (bx : BoxAt h' b c) : JD h0 h' := ⟨j.pre.only hb o, by rw [o.len]; exact j.len, nod_only j.nod o bx⟩
end DL
set_option maxRecDepth 100000
set_option maxHeartbeats 400000
namespace DL
open PySem L2
end DL
set_option maxRecDepth 100000
set_option maxHeartbeats 400000
namespace DL
open PySem L2
end DL
set_option maxRecDepth 100000
set_option maxHeartbeats 400000
namespace DL
open PySem L2
end DL
set_option maxRecDepth 100000
set_option maxHeartbeats 400000
namespace DL
open PySem L2
def fldK (C : Addr) (f : Str) (w : W) (h1 : Hh) : Option (W × Hh) := match insF C w h1 with
  | some fs => match fs.lookup f with
    | some d => some (.dat d, h1)
    | none => none
  | none => none
theorem fFld_e (C : Addr) (f : Str) (g : EM) (ρ : DL.Env) (h : Hh) : fFld C f g ρ h = ob (fldK C f) () (g ρ h) := rfl
def metK (C : Addr) (m : Str) (mm : FM) (ga : AM) (ρ : DL.Env) (w : W) (h1 : Hh) : Option (W × Hh) := match insF C w h1 with
  | some fs => match fs.lookup m with
    | some _ => none
    | none => ob (fun ws h2 => mm (w :: ws) h2) () (ga ρ h1)
  | none => none
theorem fMeth_e (C : Addr) (m : Str) (mm : FM) (go : EM) (ga : AM) (ρ : DL.Env) (h : Hh) : fMeth C m mm go ga ρ h = ob (metK C m mm ga ρ) () (go ρ h) := rfl
def mkT (C : Addr) (mi : FM) (ws : List W) (h1 : Hh) : Option (W × Hh) := match mi (.ref h1.length :: ws) (h1 ++ [some (.ins C [])]) with
  | some (.dat .none, h2) => match h2[h1.length]? with
    | some (some (.ins C' fs)) => if C' = C then some (.ins C fs, h2.set h1.length none) else none
    | _ => none
  | _ => none
theorem fMk_e (C : Addr) (mi : FM) (ga : AM) (ρ : DL.Env) (h : Hh) : fMk C mi ga ρ h = ob (mkT C mi) () (ga ρ h) := rfl
theorem fld_n {C : Addr} {a b : D} {h : Hh} : fldK C "own_names" (.ins C [("own_names", a), ("own_pairs", b)]) h = some (.dat a, h) := by
  simp only [fldK, insF, if_true]; rfl
theorem fld_p {C : Addr} {a b : D} {h : Hh} : fldK C "own_pairs" (.ins C [("own_names", a), ("own_pairs", b)]) h = some (.dat b, h) := by
  simp only [fldK, insF, if_true]; rfl
theorem met_t {C : Addr} {m : Str} {mm : FM} {ga : AM} {ρ : DL.Env} {a b : D} {h : Hh} (hm : List.lookup m [(("own_names" : Str), a), ("own_pairs", b)] = none) : metK C m mm ga ρ (.ins C [("own_names", a), ("own_pairs", b)]) h = ob (fun ws h2 => mm (.ins C [("own_names", a), ("own_pairs", b)] :: ws) h2) () (ga ρ h) := by
  simp only [metK, insF, if_true, hm]
theorem met_leads {C : Addr} {mm : FM} {ga : AM} {ρ : DL.Env} {a b : D} {h : Hh} : metK C "leads" mm ga ρ (.ins C [("own_names", a), ("own_pairs", b)]) h = ob (fun ws h2 => mm (.ins C [("own_names", a), ("own_pairs", b)] :: ws) h2) () (ga ρ h) := met_t rfl
theorem met_then {C : Addr} {mm : FM} {ga : AM} {ρ : DL.Env} {a b : D} {h : Hh} : metK C "then" mm ga ρ (.ins C [("own_names", a), ("own_pairs", b)]) h = ob (fun ws h2 => mm (.ins C [("own_names", a), ("own_pairs", b)] :: ws) h2) () (ga ρ h) := met_t rfl
theorem met_times {C : Addr} {mm : FM} {ga : AM} {ρ : DL.Env} {a b : D} {h : Hh} : metK C "times" mm ga ρ (.ins C [("own_names", a), ("own_pairs", b)]) h = ob (fun ws h2 => mm (.ins C [("own_names", a), ("own_pairs", b)] :: ws) h2) () (ga ρ h) := met_t rfl
theorem met_made {C : Addr} {mm : FM} {ga : AM} {ρ : DL.Env} {a b : D} {h : Hh} : metK C "made" mm ga ρ (.ins C [("own_names", a), ("own_pairs", b)]) h = ob (fun ws h2 => mm (.ins C [("own_names", a), ("own_pairs", b)] :: ws) h2) () (ga ρ h) := met_t rfl
theorem met_tells {C : Addr} {mm : FM} {ga : AM} {ρ : DL.Env} {a b : D} {h : Hh} : metK C "tells" mm ga ρ (.ins C [("own_names", a), ("own_pairs", b)]) h = ob (fun ws h2 => mm (.ins C [("own_names", a), ("own_pairs", b)] :: ws) h2) () (ga ρ h) := met_t rfl
theorem met_names {C : Addr} {mm : FM} {ga : AM} {ρ : DL.Env} {a b : D} {h : Hh} : metK C "names" mm ga ρ (.ins C [("own_names", a), ("own_pairs", b)]) h = ob (fun ws h2 => mm (.ins C [("own_names", a), ("own_pairs", b)] :: ws) h2) () (ga ρ h) := met_t rfl
end DL
set_option maxRecDepth 100000
set_option maxHeartbeats 400000
namespace DL
open PySem L2
theorem nd_inj {S : List Str} (nd : S.Nodup) {i j : Nat} (hi : i < S.length) (hj : j < S.length) (e : S[i] = S[j]) : i = j := by
  rcases Nat.lt_trichotomy i j with h | h | h
  · exact absurd e (List.pairwise_iff_getElem.mp nd i j hi hj h)
  · exact h
  · exact absurd e.symm (List.pairwise_iff_getElem.mp nd j i hj hi h)
theorem eqv_txts : ∀ a b : List Str, PyData.eqvAll (a.map .str) (b.map .str) = decide (a = b)
  | [], [] => by simp [PyData.eqvAll]
  | [], b :: l => by simp [PyData.eqvAll]
  | a :: k, [] => by simp [PyData.eqvAll]
  | a :: k, b :: l => by
    rw [List.map_cons, List.map_cons, PyData.eqvAll, eqv_txts k l]
    by_cases h : a = b
    · subst h; simp [PyData.eqv]
    · simp [PyData.eqv, h]
theorem eqW_rows {neg : Bool} {a b : List Str} {h : Hh} (ha : Txts a) (hb : Txts b) : eqW neg (.dat (.tuple (a.map .str))) (.dat (.tuple (b.map .str))) h = some (.dat (.bool (if neg = true then !decide (a = b) else decide (a = b))), h) := by
  have sh : ∀ {l : List Str}, Txts l → shp (.tuple (l.map .str)) = true := fun {l} ht => by
    unfold shp
    rw [PyData.canLay0, canLay_strs ht, PyData.depth, depth_strs]
    rfl
  have e : PyData.eqv (.tuple (a.map .str)) (.tuple (b.map .str)) = decide (a = b) := by
    rw [PyData.eqv, eqv_txts]
  unfold eqW
  simp only [deref, eqS, sh ha, sh hb, e, Bool.and_self, if_true]
  rfl
structure Nam (l : List Str) (ms : List (Str × Str)) : Prop where
  key : ms.map (·.1) = l
  nd : l.Nodup
  inj : (ms.map (·.2)).Nodup
  txt : Txts (ms.map (·.2))
section
variable {l : List Str} {ms : List (Str × Str)} (N : Nam l ms)
include N
theorem Nam.nk : (ms.map (·.1)).Nodup := by rw [N.key]; exact N.nd
theorem Nam.look {s : Str} (hs : s ∈ l) : ∃ p ∈ ms, p.1 = s ∧ goal ms s = p.2 ∧ ms.lookup s = some p.2 := by
  rw [← N.key] at hs
  obtain ⟨p, hp, rfl⟩ := List.mem_map.mp hs
  refine ⟨p, hp, rfl, goal_of N.nk p hp, ?_⟩
  have : ∀ {ms : List (Str × Str)}, (ms.map (·.1)).Nodup → p ∈ ms → ms.lookup p.1 = some p.2 := fun {ms} => by
    induction ms with
    | nil => intro _ h; cases h
    | cons q ms ih =>
      intro nd h
      rw [List.map_cons, List.nodup_cons] at nd
      rcases List.mem_cons.mp h with rfl | h
      · rw [List.lookup_cons]; simp
      · rw [List.lookup_cons]
        have : p.1 ≠ q.1 := fun z => nd.1 (z ▸ List.mem_map.mpr ⟨p, h, rfl⟩)
        rw [beq_eq_false_iff_ne.mpr this]
        exact ih nd.2 h
  exact this N.nk hp
theorem Nam.get {s : Str} (hs : s ∈ l) : getD (sdic (tld ms)) (.str s) = some (some (.str (goal ms s))) := by
  obtain ⟨p, _, _, e1, e2⟩ := N.look hs
  rw [getD_sdic, look_tld, e2, e1]; rfl
theorem Nam.map : l.map (goal ms) = ms.map (·.2) := by
  rw [← N.key, List.map_map]
  apply List.map_congr_left
  intro p hp
  exact goal_of N.nk p hp
theorem Nam.one {a b : Str} (ha : a ∈ l) (hb : b ∈ l) : goal ms a = goal ms b ↔ a = b := by
  constructor
  · intro e
    obtain ⟨i, hi, rfl⟩ := List.getElem_of_mem ha
    obtain ⟨j, hj, rfl⟩ := List.getElem_of_mem hb
    have nd := N.inj
    rw [← N.map] at nd
    have q : (l.map (DL.goal ms))[i]'(by rw [List.length_map]; exact hi) = (l.map (DL.goal ms))[j]'(by rw [List.length_map]; exact hj) := by rw [List.getElem_map, List.getElem_map]; exact e
    have := nd_inj nd (by rw [List.length_map]; exact hi) (by rw [List.length_map]; exact hj) q
    subst this; rfl
  · rintro rfl; rfl
end
noncomputable def leP (a b : Str × Str) : Bool := PySem.W.dataLe false (fun d : D => d) (prT a) (prT b)
theorem sortD_prs (ps : List (Str × Str)) : sortD (ps.map prT) = (ps.mergeSort leP).map prT := by
  unfold sortD
  rw [← PySem.W.sort_maps (r := leP) (s := PySem.W.dataLe false fun d : D => d) prT (l := ps) fun a _ b _ => rfl]
theorem shp_pr {p : Str × Str} (h1 : TxtOk p.1) (h2 : TxtOk p.2) : shp (prT p) = true := by
  have := shp_row (l := [p.1, p.2]) (fun s hs => by
    rcases List.mem_cons.mp hs with rfl | hs
    · exact h1
    · rw [List.mem_singleton] at hs; subst hs; exact h2)
  exact this
theorem sortable_prs {ps : List (Str × Str)} (ht : TxtP ps) : sortable (ps.map prT) = true := by
  unfold sortable
  have h1 : ((ps.map prT).all fun d => (ps.map prT).all fun e => PySem.W.alike d e) = true := by
    rw [List.all_eq_true]
    intro d hd
    rw [List.all_eq_true]
    intro e he
    obtain ⟨a, _, rfl⟩ := List.mem_map.mp hd
    obtain ⟨b, _, rfl⟩ := List.mem_map.mp he
    simp [PySem.W.alike, PySem.W.alikeAll]
  have h3 : (ps.map prT).all shp = true := by
    rw [List.all_eq_true]
    intro d hd
    obtain ⟨a, ha, rfl⟩ := List.mem_map.mp hd
    exact shp_pr (ht a ha).1 (ht a ha).2
  rw [h1, h3]
  simp only [Bool.true_and, Bool.and_true, Bool.or_eq_true]
  left
  rw [List.all_eq_true]
  intro d hd
  obtain ⟨a, _, rfl⟩ := List.mem_map.mp hd
  rfl
section
variable {r : List Str} {ms ps : List (Str × Str)} (N : Nam r ms) (c : CallOf r ps)
include N c
end
end DL
set_option maxRecDepth 100000
set_option maxHeartbeats 400000
namespace DL
open PySem L2
end DL
set_option maxRecDepth 100000
set_option maxHeartbeats 400000
namespace DL
open PySem L2
end DL
set_option maxRecDepth 100000
set_option maxHeartbeats 400000
namespace DL
open PySem L2
structure GoodC (ps : List (Str × Str)) : Prop where
  pos : 0 < ps.length
  few : ps.length ≤ 30
  nam : ∀ p ∈ ps, NameOk p.1 ∧ NameOk p.2
  nd : (ps.map (·.1)).Nodup
  pw : (ps.map (·.1)).Pairwise fun a b => leS a b = true
  tgt : ∀ p ∈ ps, p.2 ∈ ps.map (·.1)
theorem GoodC.txts {ps : List (Str × Str)} (g : GoodC ps) : Txts (ps.map (·.1)) := fun s hs => by
  obtain ⟨p, hp, rfl⟩ := List.mem_map.mp hs
  exact (g.nam p hp).1.txt
end DL
set_option maxRecDepth 100000
set_option maxHeartbeats 400000
namespace DL
open PySem L2
end DL
set_option maxRecDepth 100000
set_option maxHeartbeats 400000
namespace DL
open PySem L2
section
variable {ρ ρ1 ρ2 : DL.Env} {h h1 h2 : Hh}
theorem xN : fNil ρ h = some ([], h) := rfl
theorem xC {E : EM} {g : AM} {w : W} {ws : List W} (he : E ρ h = some (w, h1)) (hg : g ρ h1 = some (ws, h2)) : fCons E g ρ h = some (w :: ws, h2) := by simp only [fCons, obnd, he, hg]
theorem xA {m : FM} {g : AM} {ws : List W} {r : Option (W × Hh)} (hg : g ρ h = some (ws, h1)) (hm : m ws h1 = r) : fA m g ρ h = r := by simp only [fA, obnd, hg, hm]
theorem x2 {f : W → W → Hh → Option (W × Hh)} {A B : EM} {x y : W} {r : Option (W × Hh)} (ha : A ρ h = some (x, h1)) (hb : B ρ h1 = some (y, h2)) (hf : f x y h2 = r) : f2 f A B ρ h = r := by simp only [f2, obnd, ha, hb, hf]
theorem xL {IT : IM} {k : TM} {f : EM} {vs : List Nat} {ds rs : List D} (hi : IT ρ h = some (ds, h1)) (e : lcL k bYes f (wipeE ρ vs) ds h1 = some (rs, h2)) (hl : rs.length ≤ sizeLine) : fLc false IT k bYes f vs ρ h = some (.dat (.list rs), h2) := by
  unfold fLc
  simp only [hi, obnd, e]
  rw [if_pos hl]
  rfl
theorem xS {E : EM} {x : D} {ds : List D} (he : E ρ h = some (.dat x, h1)) (hx : IsSeq x ds) : seqI E ρ h = some (ds, h1) := by
  unfold seqI
  simp only [he, obnd]
  rcases hx with rfl | rfl <;> rfl
theorem xT {E : EM} (he : E ρ h = some (.dat (.bool true), h1)) : bNot (fB E) ρ h = some (false, h1) := by
  unfold bNot fB
  simp only [he, obnd]
  rfl
theorem xO {A B : BM} {r : Option (Bool × Hh)} (ha : A ρ h = some (false, h1)) (hb : B ρ h1 = r) : bOr A B ρ h = r := by
  unfold bOr
  simp only [ha, obnd]
  exact hb
theorem xTup {x : D} {ds : List D} (hx : IsSeq x ds) : tupleW [.dat x] h = some (.dat (.tuple ds), h) := by rcases hx with rfl | rfl <;> rfl
theorem xList {x : D} {ds : List D} (hx : IsSeq x ds) : listW false [.dat x] h = some (.dat (.list ds), h) := by rcases hx with rfl | rfl <;> rfl
theorem xLst {ws : List W} {ds : List D} (e : dats ws = some ds) (hl : ds.length ≤ sizeLine) : lstW false ws h = some (.dat (.list ds), h) := by
  unfold lstW
  simp only [e, hl, if_true]
  rfl
theorem xTp {ws : List W} {ds : List D} (e : dats ws = some ds) (hl : ds.length ≤ sizeLine) : tupW ws h = some (.dat (.tuple ds), h) := by
  unfold tupW
  simp only [e, hl, if_true]
  rfl
theorem xAdd {a b : List D} (hl : a.length + b.length ≤ sizeLine) : addW false (.dat (.list a)) (.dat (.list b)) h = some (.dat (.list (a ++ b)), h) := by
  unfold addW
  simp only [deref, hl, if_true]
  rfl
theorem xK {n : Nat} {is : List Nat} {m : FM} {ws l : List W} {r : Option (W × Hh)} (hn : ws.length = n) (hp : permL is ws = some l) (hm : m l h = r) : kwM n is m ws h = r := by
  unfold kwM permM
  rw [if_pos hn, hp]
  exact hm
theorem zA {E : EM} {k : TM} {rest : SM} {w : W} (he : E ρ h = some (w, h1)) (hk : k w ρ h1 = some ρ1) : sSeq (sAsg E k) rest ρ h = rest ρ1 h1 := by
  unfold sSeq sAsg
  simp only [he, sbnd, hk]
theorem zI {t : BM} {a rest : SM} (ht : t ρ h = some (false, h1)) : sSeq (sIf t a sSkip) rest ρ h = rest ρ h1 := by
  unfold sSeq sIf
  simp only [ht, sbnd, Bool.false_eq_true, if_false, sSkip]
theorem zF {IT : IM} {k : TM} {body rest : SM} {ds : List D} (hi : IT ρ h = some (ds, h1)) (e : forL k body ds ρ h1 = some (.nx ρ2, h2)) : sSeq (sFor IT k body) rest ρ h = rest ρ2 h2 := by
  unfold sSeq sFor
  simp only [hi, sbnd, e]
theorem zP {g : AM} {is : List Nat} {rest : SM} {ws : List W} (hg : g ρ h = some (ws, h1)) (hl : ws.length = is.length) (hr : (is.zip ws).foldl (fun ρ p => ρ.set p.1 (some p.2)) ρ = ρ1) : sSeq (sPar g is) rest ρ h = rest ρ1 h1 := by
  unfold sSeq sPar
  simp only [hg, sbnd, hl, if_true, hr]
theorem zR {E : EM} {w : W} (he : E ρ h = some (w, h1)) : sRet E ρ h = some (.rt w, h1) := by
  unfold sRet
  simp only [he, sbnd]
theorem zZ {i : Nat} {f : SM} (e : frz i ρ h = some (ρ1, h1)) : sFrz i f ρ h = f ρ1 h1 := by
  unfold sFrz
  rw [e]
end
end DL
set_option maxRecDepth 100000
set_option maxHeartbeats 400000
namespace DL
open PySem L2
end DL
set_option maxRecDepth 100000
set_option maxHeartbeats 400000
namespace DL
open PySem L2
local macro_rules | `(tactic| walk_at "dl") => `(tactic| simp (config := { dsimp := false }) only [↓fnM_e, ↓sSeq_e, seqK_nx, seqK_rt, seqK_bk, seqK_ct, retK_rt, retK_nx, ↓sFrz_e, frK_some, ↓sAsg, ↓sRet, ↓sRetN, ↓sIf, ↓sExpr, ↓sSkip, ↓sNever, ↓sPar, ↓sFor, ↓sSub, ↓fVar, ↓fC, ↓fNil, ↓fCons, ↓fA, ↓f1, ↓f2, ↓fB, ↓fIf, ↓fNeg, ↓fNot, ↓fAnd, ↓fOr, ↓bNot, ↓bAnd, ↓bOr, ↓bYes, ↓obnd_x, ob_some, ↓sbnd_x, sb_some, ↓ite_x, iteK_t, iteK_f, gN, gT, gC, gE, ↓rng1I, ↓rng2I, ↓seqI, ↓enumA, ↓zipI, ↓strI, ↓fLc, ↓fDc, ↓fM, ↓fSl, ↓oNone, ↓oSome, ↓fRev, wipeE, ↓kwM, permM, permL, List.foldr, List.length_cons, List.length_nil, List.map_cons, List.map_nil, List.cons_append, List.nil_append, List.replicate, List.replicate_succ, List.replicate_zero, List.getElem?_cons_zero, List.getElem?_cons_succ, List.set_cons_zero, List.set_cons_succ, if_true, if_false, reduceIte, Nat.reduceAdd, Nat.reduceSub, Nat.reduceEqDiff, Nat.reduceLT, Nat.reduceLeDiff, Int.reduceLT, Int.reduceLE, Int.reduceNeg, Int.reduceMul, Int.reduceAdd, Int.reduceSub, Int.reduceToNat, Int.reducePow, Int.reduceEq, ok, bok, deref, mkL, lstW, tupW, dats, Option.map_some, appendW, insertW, setL, isL, listW, tupleW, lenW, absW, intC, maxW, minW, idxW, addW, subW_e, modW_e, divW_e, powW_e, mulW, intW, lt_e, gt_e, le_e, ge_e, ltW, allW_e, anyW_e, sumW_e, lW, setW, lstAt, cutW, backW, isW, isiW, iLT_none, iLT_bool, iLT_int, iLT_str, iLT_list, iLT_tup, iL_none, iL_bool, iL_int, iL_str, iL_list, iL_tup, iT_none, iT_bool, iT_int, iT_str, iT_list, iT_tup, iS_none, iS_bool, iS_int, iS_str, iS_list, iS_tup, iI_none, iI_bool, iI_int, iI_str, iI_list, iI_tup, iB_none, iB_bool, iB_int, iB_str, iB_list, iB_tup, Bool.false_eq_true, reduceCtorEq, Bool.not_true, Bool.not_false, decide_true, decide_false, List.zip_cons_cons, List.zip_nil_left, List.foldl_cons, List.foldl_nil, and_self, and_true, true_and, Bool.and_true, Bool.true_and, Bool.or_true, Bool.true_or, *])
local macro_rules | `(tactic| walk_at "tg") => `(tactic| simp (config := { dsimp := false }) only [divBW_e, ↓fFld_e, ↓fMeth_e, ↓fMk_e, fld_n, fld_p, met_leads, met_then, met_times, met_made, met_tells, met_names, ↓fnM_e, ↓sSeq_e, seqK_nx, seqK_rt, seqK_bk, seqK_ct, retK_rt, retK_nx, ↓sFrz_e, frK_some, ↓sAsg, ↓sRet, ↓sRetN, ↓sIf, ↓sExpr, ↓sSkip, ↓sNever, ↓sPar, ↓sFor, ↓sSub, ↓fVar, ↓fC, ↓fNil, ↓fCons, ↓fA, ↓f1, ↓f2, ↓fB, ↓fIf, ↓fNeg, ↓fNot, ↓fAnd, ↓fOr, ↓bNot, ↓bAnd, ↓bOr, ↓bYes, ↓obnd_x, ob_some, ↓sbnd_x, sb_some, ↓ite_x, iteK_t, iteK_f, gN, gT, gC, gE, ↓rng1I, ↓rng2I, ↓seqI, ↓enumA, ↓zipI, ↓strI, ↓fLc, ↓fDc, ↓fM, ↓fSl, ↓oNone, ↓oSome, ↓fRev, wipeE, ↓kwM, permM, permL, List.foldr, List.length_cons, List.length_nil, List.map_cons, List.map_nil, List.cons_append, List.nil_append, List.replicate, List.replicate_succ, List.replicate_zero, List.getElem?_cons_zero, List.getElem?_cons_succ, List.set_cons_zero, List.set_cons_succ, if_true, if_false, reduceIte, Nat.reduceAdd, Nat.reduceSub, Nat.reduceEqDiff, Nat.reduceLT, Nat.reduceLeDiff, Int.reduceLT, Int.reduceLE, Int.reduceNeg, Int.reduceMul, Int.reduceAdd, Int.reduceSub, Int.reduceToNat, Int.reducePow, Int.reduceEq, ok, bok, deref, mkL, lstW, tupW, dats, Option.map_some, appendW, insertW, setL, isL, listW, tupleW, lenW, absW, intC, maxW, minW, idxW, addW, subW_e, modW_e, divW_e, powW_e, mulW, intW, lt_e, gt_e, le_e, ge_e, ltW, allW_e, anyW_e, sumW_e, lW, setW, lstAt, cutW, backW, isW, isiW, iLT_none, iLT_bool, iLT_int, iLT_str, iLT_list, iLT_tup, iL_none, iL_bool, iL_int, iL_str, iL_list, iL_tup, iT_none, iT_bool, iT_int, iT_str, iT_list, iT_tup, iS_none, iS_bool, iS_int, iS_str, iS_list, iS_tup, iI_none, iI_bool, iI_int, iI_str, iI_list, iI_tup, iB_none, iB_bool, iB_int, iB_str, iB_list, iB_tup, Bool.false_eq_true, reduceCtorEq, Bool.not_true, Bool.not_false, decide_true, decide_false, List.zip_cons_cons, List.zip_nil_left, List.foldl_cons, List.foldl_nil, and_self, and_true, true_and, Bool.and_true, Bool.true_and, Bool.or_true, Bool.true_or, *])
end DL
set_option maxRecDepth 100000
set_option maxHeartbeats 400000
namespace DL
open PySem L2
end DL
set_option maxRecDepth 100000
set_option maxHeartbeats 400000
namespace DL
open PySem L2
def EvP (t : Nat → Bool) (a k : Nat) : Prop := ∀ n, a ≤ n → t (n + k) = t n
theorem EvP.mono {t : Nat → Bool} {a b k : Nat} (h : EvP t a k) (q : a ≤ b) : EvP t b k := fun n hn => h n (by omega)
end DL
set_option maxRecDepth 100000
set_option maxHeartbeats 400000
namespace DL
open PySem L2
end DL
set_option maxRecDepth 100000
set_option maxHeartbeats 400000
namespace DL
open PySem L2
end DL
set_option maxRecDepth 100000
set_option maxHeartbeats 400000
namespace DL
open PySem L2
def tl (t : Nat → Bool) (a n : Nat) : List Bool := (List.range n).map fun s => t (a + s)
theorem idxW_list {x : List D} {i : Int} {d : D} {h : Hh} (a : L2.atI x i = some d) : idxW (.dat (.list x)) (.dat (.int i)) h = some (.dat d, h) := by
  unfold idxW
  simp only [deref, a]; rfl
end DL
set_option maxRecDepth 100000
set_option maxHeartbeats 400000
namespace DL
open PySem L2
end DL
set_option maxRecDepth 100000
set_option maxHeartbeats 400000
namespace DL
open PySem L2
end DL
set_option maxRecDepth 100000
set_option maxHeartbeats 400000
namespace DL
open PySem L2
end DL
set_option maxRecDepth 100000
set_option maxHeartbeats 400000
namespace DL
open PySem L2
theorem fnM_rt {rm : Bool} {np nl : Nat} {body : SM} {ws : List W} {h h' : Hh} {w : W} {r : Option (W × Hh)} (hb : body (ws.map some ++ List.replicate (nl - np) none) h = some (.rt w, h')) (e : ws.length = np) (lv : leave rm h w h' = r) : fnM rm np nl body ws h = r := by
  rw [fnM_e _ _ _ _ _ _ e, hb, retK_rt, lv]
theorem replD (d : D) (n : Nat) : (List.replicate n [d]).flatten = List.replicate n d := by
  induction n with
  | zero => rfl
  | succ n ih => rw [List.replicate_succ, List.flatten_cons, ih]; rfl
section
variable {h : Hh}
theorem add_i {i j : Int} : addW false (.dat (.int i)) (.dat (.int j)) h = some (.dat (.int (i + j)), h) := rfl
theorem sub_i {i j : Int} : subW (.dat (.int i)) (.dat (.int j)) h = some (.dat (.int (i - j)), h) := by
  unfold subW intW
  simp only [deref, if_true]
  rfl
theorem mul_i {i j : Int} (h1 : -18446744073709551616 < i) (h2 : i < 18446744073709551616) : mulW false (.dat (.int i)) (.dat (.int j)) h = some (.dat (.int (i * j)), h) := by
  have c1 := decide_eq_true h1
  have c2 := decide_eq_true h2
  unfold mulW
  simp only [deref, c1, c2, Bool.and_self, Bool.true_or, if_true]
  rfl
theorem xB {E : EM} {ρ : DL.Env} {b : Bool} (e : E ρ h = some (.dat (.bool b), h)) : fB E ρ h = some (b, h) := by
  unfold fB
  simp only [e, obnd]
end
abbrev zz : Str := "zz"
end DL
set_option maxRecDepth 100000
set_option maxHeartbeats 400000
namespace DL
open PySem L2
structure Grow (b : Nat) (h h' : Hh) : Prop where
  le : h.length ≤ h'.length
  off : ∀ i : Nat, i < h.length → i ≠ b → h'[i]? = h[i]?
theorem Grow.only {b : Nat} {h h' : Hh} (o : Only b h h') : Grow b h h' := ⟨by rw [o.len]; exact Nat.le_refl _, fun i _ n => o.off i n⟩
theorem Grow.app {b : Nat} {h l : Hh} : Grow b h (h ++ l) := ⟨by rw [List.length_append]; omega, fun i hi _ => List.getElem?_append_left hi⟩
theorem Grow.trans {b : Nat} {h h1 h2 : Hh} (x : Grow b h h1) (y : Grow b h1 h2) : Grow b h h2 := ⟨Nat.le_trans x.le y.le, fun i hi n => (y.off i (Nat.lt_of_lt_of_le hi x.le) n).trans (x.off i hi n)⟩
theorem Grow.fin {b c c' : Nat} {h h' : Hh} (x : Grow b h h') (hb : BoxAt h b c) (y : BoxAt h' b c') : (∀ d : D, leave false h (.dat d) h' = some (.dat d, h'.take h.length)) ∧ BoxAt (h'.take h.length) b c' ∧ Only b h (h'.take h.length) := by
  have hl : (h'.take h.length).length = h.length := by rw [List.length_take]; have := x.le; omega
  have o : Only b h (h'.take h.length) := ⟨hl, fun i n => by
    by_cases q : i < h.length
    · rw [List.getElem?_take_of_lt q]; exact x.off i q n
    · rw [List.getElem?_eq_none (by omega), List.getElem?_eq_none (by omega)]⟩
  have bx := box_take y hb.lt
  exact ⟨fun d => leave_dat (live_only hb bx o), bx, o⟩
end DL
set_option maxRecDepth 100000
set_option maxHeartbeats 400000
namespace DL
open PySem L2
def chg (t : Nat → Bool) (a : Nat) : Nat → Nat
  | 0 => 0
  | n + 1 => chg t a n + if t (a + n) = t (a + n + 1) then 0 else 1
end DL
set_option maxRecDepth 100000
set_option maxHeartbeats 400000
namespace DL
open PySem L2
end DL
set_option maxRecDepth 100000
set_option maxHeartbeats 400000
namespace DL
open PySem L2
theorem zS {a rest : SM} {ρ ρ1 : DL.Env} {h h1 : Hh} (e : a ρ h = some (.nx ρ1, h1)) : sSeq a rest ρ h = rest ρ1 h1 := by
  unfold sSeq
  rw [e]
section
variable {ρ ρ1 : DL.Env} {h h1 h2 : Hh}
theorem zApp {A E : EM} {rest : SM} {n : Nat} {ds : List D} {d : D} (ha : A ρ h = some (.ref n, h1)) (hn : h1[n]? = some (some (.lst ds))) (he : E ρ h1 = some (.dat d, h2)) (hn2 : h2[n]? = some (some (.lst ds))) (hl : ds.length < sizeLine) :
    sSeq (sExpr (fM isL appendW A (fCons E fNil))) rest ρ h = rest ρ (h2.set n (some (.lst (ds ++ [d])))) := by
  have il : isL (.ref n) h1 = true := by simp only [isL, deref, hn]
  have ap : appendW (.ref n) [.dat d] h2 = some (.dat .none, h2.set n (some (.lst (ds ++ [d])))) := by
    simp only [appendW, lstAt, hn2, setL, hl, if_true]
  unfold sSeq sExpr fM
  simp only [ha, obnd, il, if_true, xC he xN, ap, sbnd]
theorem zAppE {A E : EM} {n : Nat} {ds : List D} {d : D} (ha : A ρ h = some (.ref n, h1)) (hn : h1[n]? = some (some (.lst ds))) (he : E ρ h1 = some (.dat d, h2)) (hn2 : h2[n]? = some (some (.lst ds))) (hl : ds.length < sizeLine) :
    sExpr (fM isL appendW A (fCons E fNil)) ρ h = some (.nx ρ, h2.set n (some (.lst (ds ++ [d])))) := by
  have il : isL (.ref n) h1 = true := by simp only [isL, deref, hn]
  have ap : appendW (.ref n) [.dat d] h2 = some (.dat .none, h2.set n (some (.lst (ds ++ [d])))) := by
    simp only [appendW, lstAt, hn2, setL, hl, if_true]
  unfold sExpr fM
  simp only [ha, obnd, il, if_true, xC he xN, ap, sbnd]
theorem zIt {t : BM} {a b rest : SM} {r : Option (Out × Hh)} (ht : t ρ h = some (true, h1)) (q : sSeq a rest ρ h1 = r) : sSeq (sIf t a b) rest ρ h = r := by
  unfold sSeq sIf at *
  simp only [ht, sbnd, if_true]
  exact q
end
theorem xAddT {a b : List D} {h : Hh} (hl : a.length + b.length ≤ sizeLine) : addW false (.dat (.tuple a)) (.dat (.tuple b)) h = some (.dat (.tuple (a ++ b)), h) := by
  unfold addW
  simp only [deref, if_pos hl]
  rfl
end DL
set_option maxHeartbeats 400000
namespace LW
open PySem L2 DL
local macro_rules | `(tactic| walk_at "dl") => `(tactic| simp (config := { dsimp := false }) only [↓fnM_e, ↓sSeq_e, seqK_nx, seqK_rt, seqK_bk, seqK_ct, retK_rt, retK_nx, ↓sFrz_e, frK_some, ↓sAsg, ↓sRet, ↓sRetN, ↓sIf, ↓sExpr, ↓sSkip, ↓sNever, ↓sPar, ↓sFor, ↓sSub, ↓fVar, ↓fC, ↓fNil, ↓fCons, ↓fA, ↓f1, ↓f2, ↓fB, ↓fIf, ↓fNeg, ↓fNot, ↓fAnd, ↓fOr, ↓bNot, ↓bAnd, ↓bOr, ↓bYes, ↓obnd_x, ob_some, ↓sbnd_x, sb_some, ↓ite_x, iteK_t, iteK_f, gN, gT, gC, gE, ↓rng1I, ↓rng2I, ↓seqI, ↓enumA, ↓zipI, ↓strI, ↓fLc, ↓fDc, ↓fM, ↓fSl, ↓oNone, ↓oSome, ↓fRev, wipeE, ↓kwM, permM, permL, List.foldr, List.length_cons, List.length_nil, List.map_cons, List.map_nil, List.cons_append, List.nil_append, List.replicate, List.replicate_succ, List.replicate_zero, List.getElem?_cons_zero, List.getElem?_cons_succ, List.set_cons_zero, List.set_cons_succ, if_true, if_false, reduceIte, Nat.reduceAdd, Nat.reduceSub, Nat.reduceEqDiff, Nat.reduceLT, Nat.reduceLeDiff, Int.reduceLT, Int.reduceLE, Int.reduceNeg, Int.reduceMul, Int.reduceAdd, Int.reduceSub, Int.reduceToNat, Int.reducePow, Int.reduceEq, ok, bok, deref, mkL, lstW, tupW, dats, Option.map_some, appendW, insertW, setL, isL, listW, tupleW, lenW, absW, intC, maxW, minW, idxW, addW, subW_e, modW_e, divW_e, powW_e, mulW, intW, lt_e, gt_e, le_e, ge_e, ltW, allW_e, anyW_e, sumW_e, lW, setW, lstAt, cutW, backW, isW, isiW, iLT_none, iLT_bool, iLT_int, iLT_str, iLT_list, iLT_tup, iL_none, iL_bool, iL_int, iL_str, iL_list, iL_tup, iT_none, iT_bool, iT_int, iT_str, iT_list, iT_tup, iS_none, iS_bool, iS_int, iS_str, iS_list, iS_tup, iI_none, iI_bool, iI_int, iI_str, iI_list, iI_tup, iB_none, iB_bool, iB_int, iB_str, iB_list, iB_tup, Bool.false_eq_true, reduceCtorEq, Bool.not_true, Bool.not_false, decide_true, decide_false, List.zip_cons_cons, List.zip_nil_left, List.foldl_cons, List.foldl_nil, and_self, and_true, true_and, Bool.and_true, Bool.true_and, Bool.or_true, Bool.true_or, *])
noncomputable def m_choices : FM := fnM false 2 4 (sSeq (sIf (bNot (fB (fChain le_W le_W (fC (.int 0)) (fVar 1) (fVar 0)))) (sRet (fC (.int 0))) (sSkip))
    (sSeq (sAsg (fC (.int 1)) (gN 2))
    (sSeq (sFor (rng1I (fCons (fVar 1) (fNil))) (gN 3)
    (sAsg (f2 divW (f2 (mulW false) (fVar 2) (f2 subW (fVar 0) (fVar 3))) (f2 (addW false) (fVar 3) (fC (.int 1)))) (gN 2)))
    (sRet (fVar 2)))))
noncomputable def m_risen : FM := fnM false 2 7 (sSeq (sAsg (fDc false (enumA (fCons (fVar 0) (fNil))) (gT 2 (gC (gN 4) (gC (gN 5) (gE)))) (bYes) (fVar 5) (fVar 4) [4, 5]) (gN 2))
    (sSeq (sAsg (fLc false (zipI (fCons (fVar 1) (fCons (fSl false (fVar 1) (oSome (fC (.int 1))) (oNone)) (fNil)))) (gT 2 (gC (gN 6) (gC (gN 5) (gE)))) (bYes) (fA intC (fCons (f2 lt_W (f2 idxW (fVar 2) (fVar 5)) (f2 idxW (fVar 2) (fVar 6))) (fNil))) [6, 5]) (gN 3))
    (sRet (f2 (addW false) (fA (lstW false) (fCons (fC (.int 0)) (fNil))) (fVar 3)))))
noncomputable def m_call_by : FM := fnM false 3 5 (sRet (fA tupleW (fCons (fA (sortW false) (fCons (fLc false (zipSS (fCons (fVar 1) (fCons (fVar 2) (fNil)))) (gT 2 (gC (gN 3) (gC (gN 4) (gE)))) (bYes) (fA tupW (fCons (fVar 3) (fCons (f2 idxW (fVar 0) (fVar 4)) (fNil)))) [3, 4]) (fNil))) (fNil))))
noncomputable def m__law_all_calls : FM := fnM false 1 6 (sSeq (sAsg (fA (lstW false) (fCons (fA tupW (fNil)) (fNil))) (gN 1))
    (sSeq (sFor (seqI (fVar 0)) (gN 2)
    (sSeq (sAsg (fA (lstW true) (fNil)) (gN 3))
    (sSeq (sFor (seqI (fVar 1)) (gN 4)
    (sExpr (fM isL extendW (fVar 3) (fCons (fLc false (seqI (fVar 0)) (gN 5) (bYes) (f2 (addW false) (fVar 4) (fA tupW (fCons (fA tupW (fCons (fVar 2) (fCons (fVar 5) (fNil)))) (fNil)))) [5]) (fNil)))))
    (sFrz 3 (sAsg (fVar 3) (gN 1))))))
    (sRet (fVar 1))))
noncomputable def m__law_going : FM := fnM false 1 3 (sRet (fA lenW (fCons (fLc false (seqI (fVar 0)) (gT 2 (gC (gN 1) (gC (gN 2) (gE)))) (fB (f2 (eqW true) (fVar 1) (fVar 2))) (fVar 1) [1, 2]) (fNil))))
noncomputable def m_ways_on : FM := fnM false 4 5 (sSeq (sAsg (f2 subW (f2 subW (fVar 0) (fC (.int 1))) (fVar 2)) (gN 4))
    (sRet (fA (m_choices) (fCons (f2 (addW false) (f2 subW (f2 subW (f2 subW (fVar 0) (fC (.int 1))) (fVar 3)) (fA sumW (fCons (fSl false (fVar 1) (oSome (f2 (addW false) (fVar 2) (fC (.int 1)))) (oNone)) (fNil)))) (fVar 4)) (fCons (fVar 4) (fNil))))))
noncomputable def m_most_stay : FM := fnM false 2 9 (sSeq (sPar (fCons (f2 (addW false) (fA (m_risen) (fCons (fVar 0) (fCons (fVar 1) (fNil)))) (fA (lstW false) (fCons (fC (.int 0)) (fNil)))) (fCons (fA lenW (fCons (fVar 0) (fNil))) (fNil))) [4, 5])
    (sSeq (sAsg (fA (lstW true) (fCons (f2 (mulW false) (fA (lstW false) (fCons (fC (.int 0)) (fNil))) (f2 (addW false) (fVar 5) (fC (.int 1)))) (fNil))) (gN 2))
    (sSeq (sFor (rng3I (fCons (f2 subW (fVar 5) (fC (.int 1))) (fCons (fNeg (fC (.int 1))) (fCons (fNeg (fC (.int 1))) (fNil))))) (gN 3)
    (sSeq (sAsg (fA (lstW true) (fCons (f2 (mulW false) (fNeg (fC (.int 2))) (fVar 5)) (fNil))) (gN 6))
    (sSeq (sFor (rng3I (fCons (f2 subW (fVar 5) (fC (.int 1))) (fCons (fNeg (fC (.int 1))) (fCons (fNeg (fC (.int 1))) (fNil))))) (gN 7)
    (sSeq (sAsg (f2 (addW false) (fA intC (fCons (f2 (eqW false) (f2 idxW (fVar 0) (fVar 7)) (f2 idxW (fVar 1) (fVar 3))) (fNil))) (f2 idxW (f2 idxW (fVar 2) (fNeg (fC (.int 1)))) (f2 (addW false) (fVar 7) (f2 idxW (fVar 4) (f2 (addW false) (fVar 3) (fC (.int 1))))))) (gN 8))
    (sExpr (fM isL appendW (fVar 6) (fCons (fA maxW (fCons (f2 idxW (fVar 6) (fNeg (fC (.int 1)))) (fCons (fVar 8) (fNil)))) (fNil))))))
    (sFrz 6 (sExpr (fM isL appendW (fVar 2) (fCons (fRev false (fVar 6)) (fNil))))))))
    (sFrz 2 (sRet (fRev false (fVar 2)))))))
noncomputable def m__law_rowR : FM := fnM false 2 4 (sSeq (sPar (fCons (fA (listW true) (fCons (fVar 1) (fNil))) (fCons (fA (lstW true) (fNil)) (fNil))) [2, 3])
    (sSeq (sWhile 100000 (fB (f2 (eqW true) (fVar 2) (fA (lstW false) (fNil))))
    (sExpr (fM isL appendW (fVar 3) (fCons (fM isL popAtW (fVar 2) (fCons (fA (m__law_take) (fCons (fVar 0) (fCons (fA lenW (fCons (fVar 2) (fNil))) (fNil)))) (fNil))) (fNil)))))
    (sFrz 3 (sRet (fA tupRW (fCons (fVar 3) (fNil)))))))
noncomputable def m__law_by_all : FM := fnM false 3 8 (sSeq (sAsg (fA (lstW true) (fNil)) (gN 3))
    (sSeq (sFor (seqI (fVar 2)) (gN 4)
    (sIf (fB (f2 (eqW false) (fA (m__law_called) (fCons (fAsT (fVar 0)) (fCons (fVar 4) (fNil)))) (fVar 1))) (sSeq (sAsg (fA (dictA false) (fCons (fVar 4) (fNil))) (gN 6))
    (sExpr (fM isL appendW (fVar 3) (fCons (fA tupW (fCons (fA (m__law_going) (fCons (fVar 4) (fNil))) (fCons (fA tupleW (fCons (fLc false (seqI (fVar 1)) (gN 7) (bYes) (fM isRow indexR (fVar 0) (fCons (f2 idxW (fVar 6) (fVar 7)) (fNil))) [7]) (fNil))) (fCons (fVar 4) (fNil))))) (fNil))))) (sSkip)))
    (sFrz 3 (sSeq (sAsg (fA minDW (fCons (fVar 3) (fNil))) (gN 5))
    (sRet (fA tupW (fCons (f2 idxW (fVar 5) (fC (.int 0))) (fCons (f2 idxW (fVar 5) (fC (.int 2))) (fNil)))))))))
noncomputable def m_calls_many : FM := fnM false 2 2 (sRet (fA (m_choices) (fCons (f2 subW (f2 subW (f2 (mulW false) (fC (.int 2)) (fA lenW (fCons (fVar 0) (fNil)))) (fC (.int 1))) (fA (m_falls) (fCons (fVar 0) (fCons (fVar 1) (fNil))))) (fCons (fA lenW (fCons (fVar 0) (fNil))) (fNil)))))
noncomputable def m_fewest_goers : FM := fnM false 2 2 (sSeq (sExpr (fA (m_falls) (fCons (fVar 0) (fCons (fVar 1) (fNil)))))
    (sRet (f2 subW (fA lenW (fCons (fVar 0) (fNil))) (f2 idxW (f2 idxW (fA (m_most_stay) (fCons (fVar 0) (fCons (fVar 1) (fNil)))) (fC (.int 0))) (fC (.int 0))))))
noncomputable def m_call_of_fewest : FM := fnM false 2 10 (sSeq (sExpr (fA (m_falls) (fCons (fVar 0) (fCons (fVar 1) (fNil)))))
    (sSeq (sPar (fCons (fA (m_most_stay) (fCons (fVar 0) (fCons (fVar 1) (fNil)))) (fCons (f2 (addW false) (fA (m_risen) (fCons (fVar 0) (fCons (fVar 1) (fNil)))) (fA (lstW false) (fCons (fC (.int 0)) (fNil)))) (fCons (fA (lstW true) (fNil)) (fCons (fC (.int 0)) (fNil))))) [3, 4, 5, 6])
    (sSeq (sAsg (f2 idxW (f2 idxW (fVar 3) (fC (.int 0))) (fC (.int 0))) (gN 2))
    (sSeq (sFor (enumA (fCons (fVar 1) (fNil))) (gT 2 (gC (gN 7) (gC (gN 8) (gE))))
    (sSeq (sAsg (fVar 6) (gN 9))
    (sSeq (sWhile 100000 (fB (f2 (eqW true) (f2 (addW false) (fA intC (fCons (f2 (eqW false) (f2 idxW (fVar 0) (fVar 9)) (fVar 8)) (fNil))) (f2 idxW (f2 idxW (fVar 3) (f2 (addW false) (fVar 7) (fC (.int 1)))) (f2 (addW false) (fVar 9) (f2 idxW (fVar 4) (f2 (addW false) (fVar 7) (fC (.int 1))))))) (fVar 2)))
    (sAug gAdd 9 (fC (.int 1))))
    (sSeq (sAug gSub 2 (fA intC (fCons (f2 (eqW false) (f2 idxW (fVar 0) (fVar 9)) (fVar 8)) (fNil))))
    (sSeq (sExpr (fM isL appendW (fVar 5) (fCons (fVar 9) (fNil))))
    (sAsg (f2 (addW false) (fVar 9) (f2 idxW (fVar 4) (f2 (addW false) (fVar 7) (fC (.int 1))))) (gN 6)))))))
    (sFrz 5 (sRet (fA (m_call_by) (fCons (fVar 0) (fCons (fVar 1) (fCons (fVar 5) (fNil)))))))))))
noncomputable def m_call_at : FM := fnM false 3 9 (sSeq (sIf (bNot (fB (fChain le_W lt_W (fC (.int 0)) (fVar 2) (fA (m_calls_many) (fCons (fVar 0) (fCons (fVar 1) (fNil))))))) (sNever) (sSkip))
    (sSeq (sPar (fCons (fA (m_risen) (fCons (fVar 0) (fCons (fVar 1) (fNil)))) (fCons (fA (lstW true) (fNil)) (fCons (fVar 2) (fNil)))) [3, 4, 5])
    (sSeq (sFor (enumA (fCons (fVar 3) (fNil))) (gT 2 (gC (gN 6) (gC (gN 7) (gE))))
    (sSeq (sAsg (fIf (fB (f2 gt_W (fVar 6) (fC (.int 0)))) (f2 (addW false) (f2 idxW (fVar 4) (fNeg (fC (.int 1)))) (fVar 7)) (fC (.int 0))) (gN 8))
    (sSeq (sWhile 100000 (fB (f2 ge_W (fVar 5) (fA (m_ways_on) (fCons (fA lenW (fCons (fVar 0) (fNil))) (fCons (fVar 3) (fCons (fVar 6) (fCons (fVar 8) (fNil))))))))
    (sSeq (sAug gSub 5 (fA (m_ways_on) (fCons (fA lenW (fCons (fVar 0) (fNil))) (fCons (fVar 3) (fCons (fVar 6) (fCons (fVar 8) (fNil)))))))
    (sAug gAdd 8 (fC (.int 1)))))
    (sExpr (fM isL appendW (fVar 4) (fCons (fVar 8) (fNil)))))))
    (sFrz 4 (sRet (fA (m_call_by) (fCons (fVar 0) (fCons (fVar 1) (fCons (fVar 4) (fNil))))))))))
noncomputable def m__law_right : FM := fnM false 1 16 (sSeq (sAsg (fA (m__law_names) (fCons (fVar 0) (fCons (fC (.int 4)) (fNil)))) (gN 1))
    (sSeq (sPar (fCons (fA (m__law_rowR) (fCons (fVar 0) (fCons (fVar 1) (fNil)))) (fCons (fAsT (fA (m__law_rowR) (fCons (fVar 0) (fCons (fVar 1) (fNil))))) (fNil))) [3, 7])
    (sSeq (sAsg (fA (m__law_by_all) (fCons (fVar 3) (fCons (fVar 7) (fCons (fA (m__law_all_calls) (fCons (fVar 1) (fNil))) (fNil))))) (gT 2 (gC (gN 10) (gC (gN 8) (gE)))))
    (sSeq (sIf (bNot (fB (fA (m__law_same 12) (fCons (fA (lstW false) (fCons (fA (m_fewest_goers) (fCons (fAsT (fVar 3)) (fCons (fVar 7) (fNil)))) (fCons (fA (m_call_of_fewest) (fCons (fAsT (fVar 3)) (fCons (fVar 7) (fNil)))) (fNil)))) (fCons (fA (lstW false) (fCons (fVar 10) (fCons (fVar 8) (fNil)))) (fNil)))))) (sRet (fC (.bool false))) (sSkip))
    (sSeq (sAsg (fA (lstW false) (fCons (fA (kwM 2 [1, 0] (m_fewest_goers)) (fCons (fA (listW false) (fCons (fVar 7) (fNil))) (fCons (fA (listW false) (fCons (fAsT (fVar 3)) (fNil))) (fNil)))) (fCons (fA (kwM 2 [1, 0] (m_call_of_fewest)) (fCons (fA (listW false) (fCons (fVar 7) (fNil))) (fCons (fA (listW false) (fCons (fAsT (fVar 3)) (fNil))) (fNil)))) (fNil)))) (gN 2))
    (sSeq (sIf (bOr (bNot (fB (fA (m__law_same 12) (fCons (fVar 2) (fCons (fA (lstW false) (fCons (fVar 10) (fCons (fVar 8) (fNil)))) (fNil)))))) (bNot (fB (fA (m__law_same 12) (fCons (fA (m_fewest_goers) (fCons (fAsT (fVar 3)) (fCons (fAsT (fVar 3)) (fNil)))) (fCons (fC (.int 0)) (fNil))))))) (sRet (fC (.bool false))) (sSkip))
    (sSeq (sAsg (fA (m__law_names) (fCons (fVar 0) (fCons (fC (.int 9)) (fNil)))) (gN 1))
    (sSeq (sAsg (fA (m__law_rowR) (fCons (fVar 0) (fCons (fVar 1) (fNil)))) (gN 3))
    (sSeq (sAsg (fA (dictA true) (fCons (fLc false (seqI (fVar 1)) (gN 13) (bYes) (fA tupW (fCons (fVar 13) (fCons (fVar 13) (fNil)))) [13]) (fNil))) (gN 4))
    (sSeq (sFor (rng1I (fCons (fA (m__law_take) (fCons (fVar 0) (fCons (fC (.int 4)) (fNil)))) (fNil))) (gN 5)
    (sPut (fA (m__law_pick) (fCons (fVar 0) (fCons (fVar 1) (fNil)))) (fVar 4) (fA (m__law_pick) (fCons (fVar 0) (fCons (fVar 1) (fNil))))))
    (sFrz 4 (sSeq (sAsg (fA tupleW (fCons (fLc false (seqI (fVar 1)) (gN 13) (bYes) (fA tupW (fCons (fVar 13) (fCons (f2 idxW (fVar 4) (fVar 13)) (fNil)))) [13]) (fNil))) (gN 6))
    (sSeq (sAsg (fA (m__law_called) (fCons (fAsT (fVar 3)) (fCons (fVar 6) (fNil)))) (gN 7))
    (sSeq (sAsg (fA (m_call_of_fewest) (fCons (fAsT (fVar 3)) (fCons (fVar 7) (fNil)))) (gN 8))
    (sSeq (sIf (bOr (fB (f2 (eqW true) (fA (m__law_called) (fCons (fAsT (fVar 3)) (fCons (fVar 8) (fNil)))) (fVar 7))) (fB (f2 (eqW true) (fA (m__law_going) (fCons (fVar 8) (fNil))) (fA (m_fewest_goers) (fCons (fAsT (fVar 3)) (fCons (fVar 7) (fNil))))))) (sRet (fC (.bool false))) (sSkip))
    (sSeq (sAsg (fA (m_calls_many) (fCons (fAsT (fVar 3)) (fCons (fVar 7) (fNil)))) (gN 9))
    (sSeq (sIf (fB (f2 lt_W (fVar 9) (fC (.int 200)))) (sSeq (sAsg (fLc false (rng1I (fCons (fVar 9) (fNil))) (gN 14) (bYes) (fA (m_call_at) (fCons (fAsT (fVar 3)) (fCons (fVar 7) (fCons (fVar 14) (fNil))))) [14]) (gN 11))
    (sSeq (sAsg (fLc false (seqI (fVar 11)) (gN 15) (bYes) (fA (m__law_going) (fCons (fVar 15) (fNil))) [15]) (gN 12))
    (sIf (fB (f2 (eqW true) (fVar 8) (f2 idxW (fVar 11) (fM isL indexI (fVar 12) (fCons (fA (mxW mnI) (fCons (fVar 12) (fNil))) (fNil)))))) (sRet (fC (.bool false))) (sSkip)))) (sSkip))
    (sRet (f2 le_W (fA (m__law_going) (fCons (fVar 8) (fNil))) (fA (m__law_going) (fCons (fVar 6) (fNil))))))))))))))))))))))
noncomputable def m_law : FM := fnM false 1 5 (sSeq (sAsg (fA (m__law_folded) (fCons (fVar 0) (fCons (fC (.int 3)) (fNil)))) (gN 1))
    (sSeq (sFor (rng1I (fCons (fA lenW (fCons (fVar 1) (fNil))) (fNil))) (gN 2)
    (sSeq (sAsg (fA (m__law_box) (fCons (fVar 1) (fCons (fVar 2) (fNil)))) (gN 3))
    (sIf (bNot (fB (fA allW (fCons (fLc false (rng1I (fCons (fC (.int 2)) (fNil))) (gN 4) (bYes) (fA (m__law_right) (fCons (fVar 3) (fNil))) [4]) (fNil))))) (sRet (fC (.bool false))) (sSkip))))
    (sRet (fC (.bool true)))))
def bin : Nat → Nat → Nat
  | _, 0 => 1
  | 0, _ + 1 => 0
  | N + 1, t + 1 => bin N t + bin N (t + 1)
theorem bin_zero (N : Nat) : bin N 0 = 1 := by cases N <;> rfl
theorem bin_gt : ∀ {N t : Nat}, N < t → bin N t = 0
  | 0, t + 1, _ => rfl
  | N + 1, t + 1, h => by rw [bin, bin_gt (show N < t by omega), bin_gt (show N < t + 1 by omega)]
theorem bin_pos : ∀ {N t : Nat}, t ≤ N → 1 ≤ bin N t
  | N, 0, _ => by rw [bin_zero]; exact Nat.le_refl _
  | N + 1, t + 1, h => by
    rw [bin]
    have := bin_pos (show t ≤ N by omega)
    omega
theorem bin_abs : ∀ (N t : Nat), (t + 1) * bin N (t + 1) = (N - t) * bin N t
  | 0, t => by rw [bin, Nat.zero_sub, Nat.zero_mul, Nat.mul_zero]
  | N + 1, 0 => by
    have ih := bin_abs N 0
    rw [bin_zero] at ih ⊢
    rw [bin, bin_zero]
    omega
  | N + 1, s + 1 => by
    have i1 := bin_abs N (s + 1)
    have i0 := bin_abs N s
    rw [show bin (N + 1) (s + 1 + 1) = bin N (s + 1) + bin N (s + 1 + 1) from rfl, show bin (N + 1) (s + 1) = bin N s + bin N (s + 1) from rfl]
    by_cases h : s + 1 ≤ N
    · obtain ⟨d, rfl⟩ : ∃ d, N = s + 1 + d := ⟨N - (s + 1), by omega⟩
      have e1 : s + 1 + d - (s + 1) = d := by omega
      have e2 : s + 1 + d - s = d + 1 := by omega
      have e3 : s + 1 + d + 1 - (s + 1) = d + 1 := by omega
      rw [e1] at i1
      rw [e2] at i0
      rw [e3, Nat.mul_add, Nat.mul_add, i1, ← i0, ← Nat.add_mul, ← Nat.add_mul]
      congr 1
      omega
    · have z1 : bin N (s + 1) = 0 := bin_gt (by omega)
      have z2 : bin N (s + 1 + 1) = 0 := bin_gt (by omega)
      rw [z1, z2]
      by_cases h2 : s ≤ N
      · have : s = N := by omega
        subst this
        rw [show s + 1 - (s + 1) = 0 by omega, Nat.zero_mul, Nat.add_zero, Nat.mul_zero]
      · rw [bin_gt (show N < s by omega)]
        simp
def sumR (f : Nat → Nat) (a : Nat) : Nat → Nat
  | 0 => 0
  | k + 1 => sumR f a k + f (a + k)
theorem sumR_front (f : Nat → Nat) (a : Nat) : ∀ k, sumR f a (k + 1) = f a + sumR f (a + 1) k
  | 0 => by simp [sumR]
  | k + 1 => by
    rw [sumR, sumR_front f a k, sumR, show a + (k + 1) = a + 1 + k by omega]
    omega
theorem sumR_mono (f : Nat → Nat) (a : Nat) {k m : Nat} (h : k ≤ m) : sumR f a k ≤ sumR f a m := by
  induction m with
  | zero => rw [Nat.le_zero.mp h]; exact Nat.le_refl _
  | succ m ih =>
    by_cases e : k = m + 1
    · rw [e]; exact Nat.le_refl _
    · have := ih (by omega)
      rw [sumR]
      omega
theorem sumR_find (f : Nat → Nat) (a : Nat) {t : Nat} : ∀ {k : Nat}, t < sumR f a k → ∃ j, j < k ∧ sumR f a j ≤ t ∧ t < sumR f a (j + 1)
  | 0, h => by simp [sumR] at h
  | k + 1, h => by
    by_cases z : t < sumR f a k
    · obtain ⟨j, h1, h2⟩ := sumR_find f a z
      exact ⟨j, by omega, h2⟩
    · exact ⟨k, by omega, by omega, h⟩
def VQ (n : Nat) : List Nat → Nat → List Nat → Prop
  | [], _, [] => True
  | r :: R, lo, v :: vs => lo ≤ v ∧ v < n ∧ VQ n R (v + r) vs
  | _, _, _ => False
def cnt (n : Nat) : List Nat → Nat → Nat
  | [], _ => 1
  | r :: R, lo => sumR (fun v => cnt n R (v + r)) lo (n - lo)
def rk (n : Nat) : List Nat → Nat → List Nat → Nat
  | r :: R, lo, v :: vs => sumR (fun v => cnt n R (v + r)) lo (v - lo) + rk n R (v + r) vs
  | _, _, _ => 0
def lexle : List Nat → List Nat → Prop
  | u :: us, v :: vs => u < v ∨ (u = v ∧ lexle us vs)
  | _, _ => True
theorem VQ.len {n : Nat} : ∀ {R : List Nat} {lo : Nat} {vs : List Nat}, VQ n R lo vs → vs.length = R.length
  | [], _, [], _ => rfl
  | _ :: R, _, _ :: vs, h => by rw [List.length_cons, List.length_cons, VQ.len h.2.2]
  | [], _, _ :: _, h => h.elim
  | _ :: _, _, [], h => h.elim
theorem VQ.lt {n : Nat} : ∀ {R : List Nat} {lo : Nat} {vs : List Nat}, VQ n R lo vs → ∀ v ∈ vs, v < n
  | [], _, [], _, _, hv => by cases hv
  | _ :: R, _, _ :: vs, h, v, hv => by
    rcases List.mem_cons.mp hv with rfl | hv
    · exact h.2.1
    · exact VQ.lt h.2.2 v hv
  | [], _, _ :: _, h, _, _ => h.elim
  | _ :: _, _, [], h, _, _ => h.elim
theorem rk_lt {n : Nat} : ∀ {R : List Nat} {lo : Nat} {vs : List Nat}, VQ n R lo vs → rk n R lo vs < cnt n R lo
  | [], _, [], _ => by simp [rk, cnt]
  | r :: R, lo, v :: vs, h => by
    obtain ⟨h1, h2, h3⟩ := h
    have ih := rk_lt h3
    have s1 : sumR (fun v => cnt n R (v + r)) lo (v - lo + 1) = sumR (fun v => cnt n R (v + r)) lo (v - lo) + cnt n R (v + r) := by
      rw [sumR, show lo + (v - lo) = v by omega]
    have s2 := sumR_mono (fun v => cnt n R (v + r)) lo (show v - lo + 1 ≤ n - lo by omega)
    show sumR _ lo (v - lo) + rk n R (v + r) vs < sumR _ lo (n - lo)
    omega
  | [], _, _ :: _, h => h.elim
  | _ :: _, _, [], h => h.elim
theorem rk_le {n : Nat} : ∀ {R : List Nat} {lo : Nat} {us vs : List Nat}, VQ n R lo us → VQ n R lo vs → lexle us vs → rk n R lo us ≤ rk n R lo vs
  | [], _, [], [], _, _, _ => Nat.le_refl _
  | r :: R, lo, u :: us, v :: vs, h, g, l => by
    obtain ⟨h1, h2, h3⟩ := h
    obtain ⟨g1, g2, g3⟩ := g
    show sumR _ lo (u - lo) + rk n R (u + r) us ≤ sumR _ lo (v - lo) + rk n R (v + r) vs
    rcases l with l | ⟨rfl, l⟩
    · have lt := rk_lt h3
      have s1 : sumR (fun v => cnt n R (v + r)) lo (u - lo + 1) = sumR (fun v => cnt n R (v + r)) lo (u - lo) + cnt n R (u + r) := by
        rw [sumR, show lo + (u - lo) = u by omega]
      have s2 := sumR_mono (fun v => cnt n R (v + r)) lo (show u - lo + 1 ≤ v - lo by omega)
      omega
    · have := rk_le h3 g3 l
      omega
  | [], _, _ :: _, _, h, _, _ => h.elim
  | _ :: _, _, [], _, h, _, _ => h.elim
  | [], _, [], _ :: _, _, g, _ => g.elim
  | _ :: _, _, _ :: _, [], _, g, _ => g.elim
theorem unrk_step {n r lo t : Nat} {R : List Nat} (h : t < cnt n (r :: R) lo) : ∃ v, lo ≤ v ∧ v < n ∧ sumR (fun v => cnt n R (v + r)) lo (v - lo) ≤ t ∧ t - sumR (fun v => cnt n R (v + r)) lo (v - lo) < cnt n R (v + r) := by
  obtain ⟨j, h1, h2, h3⟩ := sumR_find _ _ (show t < sumR (fun v => cnt n R (v + r)) lo (n - lo) from h)
  rw [sumR] at h3
  refine ⟨lo + j, by omega, by omega, ?_, ?_⟩
  · rw [show lo + j - lo = j by omega]; exact h2
  · rw [show lo + j - lo = j by omega]
    have h3' : t < sumR (fun v => cnt n R (v + r)) lo j + cnt n R (lo + j + r) := h3
    omega
def Z0 : List Nat → Prop
  | [] => True
  | [r] => r = 0
  | _ :: s :: R => Z0 (s :: R)
theorem Z0.tail {r : Nat} : ∀ {R : List Nat}, Z0 (r :: R) → Z0 R
  | [], _ => trivial
  | _ :: _, h => h
theorem cnt_closed {n : Nat} : ∀ {R : List Nat} {lo : Nat}, Z0 R → (R = [] → lo < n) → cnt n R lo = if lo + R.sum < n then bin (n - 1 - lo - R.sum + R.length) R.length else 0
  | [], lo, _, hl => by
    have := hl rfl
    rw [if_pos (by simpa using this)]
    simp [cnt, bin_zero]
  | r :: R, lo, hz, _ => by
    have key : ∀ k a : Nat, a + k = n → sumR (fun v => cnt n R (v + r)) a k = if a + (r + R.sum) < n then bin (n - 1 - a - (r + R.sum) + (R.length + 1)) (R.length + 1) else 0 := by
      intro k
      induction k with
      | zero =>
        intro a ha
        rw [if_neg (by omega)]; rfl
      | succ k ih =>
        intro a ha
        have ih' := ih (a + 1) (by omega)
        rw [sumR_front, ih']
        have fa : cnt n R (a + r) = if a + r + R.sum < n then bin (n - 1 - (a + r) - R.sum + R.length) R.length else 0 := cnt_closed hz.tail fun e => by
          subst e
          have : r = 0 := hz
          omega
        rw [fa]
        by_cases c : a + (r + R.sum) < n
        · rw [if_pos (by omega), if_pos c]
          obtain ⟨M, hM⟩ : ∃ M, n - 1 - a - (r + R.sum) + R.length = M := ⟨_, rfl⟩
          rw [show n - 1 - (a + r) - R.sum + R.length = M by omega, show n - 1 - a - (r + R.sum) + (R.length + 1) = M + 1 by omega]
          show _ = bin M R.length + bin M (R.length + 1)
          congr 1
          by_cases d : a + 1 + (r + R.sum) < n
          · rw [if_pos d, show n - 1 - (a + 1) - (r + R.sum) + (R.length + 1) = M by omega]
          · rw [if_neg d]
            exact (bin_gt (by omega)).symm
        · rw [if_neg (by omega), if_neg c, if_neg (by omega)]
    show sumR _ lo (n - lo) = _
    by_cases c : lo ≤ n
    · rw [key (n - lo) lo (by omega), List.sum_cons, List.length_cons]
    · rw [show n - lo = 0 by omega, if_neg (by rw [List.sum_cons]; omega)]; rfl
def Fk (n : Nat) (s : Nat → Nat) (r : Nat) (next : Nat → Int) : Nat → Int
  | 0 => -(2 * n : Int)
  | k + 1 => max (Fk n s r next k) (s (n - (k + 1)) + next (n - (k + 1) + r))
def F (n : Nat) : List ((Nat → Nat) × Nat) → Nat → Int
  | [], _ => 0
  | (s, r) :: L, v => Fk n s r (F n L) (n - v)
def sc : List ((Nat → Nat) × Nat) → List Nat → Nat
  | (s, _) :: L, v :: vs => s v + sc L vs
  | _, _ => 0
theorem Fk_mono (n : Nat) (s : Nat → Nat) (r : Nat) (next : Nat → Int) {j k : Nat} (h : j ≤ k) : Fk n s r next j ≤ Fk n s r next k := by
  induction k with
  | zero => rw [Nat.le_zero.mp h]; exact Int.le_refl _
  | succ k ih =>
    by_cases e : j = k + 1
    · rw [e]; exact Int.le_refl _
    · have := ih (by omega)
      rw [Fk]
      omega
theorem Fk_ge {n : Nat} {s : Nat → Nat} {r : Nat} {next : Nat → Int} {lo v : Nat} (h1 : lo ≤ v) (h2 : v < n) : (s v : Int) + next (v + r) ≤ Fk n s r next (n - lo) := by
  have e := Fk_mono n s r next (show n - v ≤ n - lo by omega)
  have q : Fk n s r next (n - v) = max (Fk n s r next (n - v - 1)) (s v + next (v + r)) := by
    obtain ⟨k, hk⟩ : ∃ k, n - v = k + 1 := ⟨n - v - 1, by omega⟩
    rw [hk, Fk, show n - (k + 1) = v by omega]
    rfl
  omega
theorem Fk_at {n : Nat} {s : Nat → Nat} {r : Nat} {next : Nat → Int} (h0 : 0 < n) : ∀ {k : Nat}, k ≤ n → 0 ≤ Fk n s r next k → ∃ v, n - k ≤ v ∧ v < n ∧ (s v : Int) + next (v + r) = Fk n s r next k
  | 0, _, h => by rw [Fk] at h; omega
  | k + 1, hk, h => by
    rw [Fk] at h ⊢
    by_cases c : Fk n s r next k ≤ s (n - (k + 1)) + next (n - (k + 1) + r)
    · exact ⟨n - (k + 1), Nat.le_refl _, by omega, by omega⟩
    · obtain ⟨v, h1, h2, h3⟩ := Fk_at (s := s) (r := r) (next := next) h0 (k := k) (by omega) (by omega)
      exact ⟨v, by omega, h2, by omega⟩
theorem sc_le {n : Nat} : ∀ {L : List ((Nat → Nat) × Nat)} {lo : Nat} {vs : List Nat}, VQ n (L.map (·.2)) lo vs → (sc L vs : Int) ≤ F n L lo
  | [], _, [], _ => by simp [sc, F]
  | (s, r) :: L, lo, v :: vs, h => by
    obtain ⟨h1, h2, h3⟩ := h
    have ih : (sc L vs : Int) ≤ F n L (v + r) := sc_le h3
    have g := Fk_ge (s := s) (r := r) (next := F n L) h1 h2
    show ((s v + sc L vs : Nat) : Int) ≤ Fk n s r (F n L) (n - lo)
    omega
  | [], _, _ :: _, h => h.elim
  | _ :: _, _, [], h => h.elim
def Gr (n : Nat) : List ((Nat → Nat) × Nat) → Nat → List Nat → Prop
  | [], _, [] => True
  | (s, r) :: L, lo, v :: vs => lo ≤ v ∧ v < n ∧ (s v : Int) + F n L (v + r) = F n ((s, r) :: L) lo ∧ (∀ u, lo ≤ u → u < v → (s u : Int) + F n L (u + r) ≠ F n ((s, r) :: L) lo) ∧ Gr n L (v + r) vs
  | _, _, _ => False
theorem least_of {P : Nat → Prop} : ∀ {v : Nat}, P v → ∃ u, P u ∧ u ≤ v ∧ ∀ w, w < u → ¬ P w := fun {v} => by
  induction v using Nat.strongRecOn with
  | ind v ih =>
    intro h
    by_cases c : ∃ w, w < v ∧ P w
    · obtain ⟨w, h1, h2⟩ := c
      obtain ⟨u, a, b, d⟩ := ih w h1 h2
      exact ⟨u, a, by omega, d⟩
    · exact ⟨v, h, Nat.le_refl _, fun w h1 h2 => c ⟨w, h1, h2⟩⟩
theorem Fk_neg {n m : Nat} {s : Nat → Nat} {r : Nat} {next : Nat → Int} (hs : ∀ v, s v ≤ 1) (hn : ∀ y, next y < 0 → next y ≤ -(2 * n : Int) + m) : ∀ {k : Nat}, Fk n s r next k < 0 → Fk n s r next k ≤ -(2 * n : Int) + m + 1
  | 0, _ => by rw [Fk]; omega
  | k + 1, h => by
    rw [Fk] at h ⊢
    have a := Fk_neg (r := r) hs hn (k := k) (by omega)
    have b := hn (n - (k + 1) + r) (by omega)
    have c := hs (n - (k + 1))
    omega
theorem F_neg {n : Nat} : ∀ {L : List ((Nat → Nat) × Nat)} {x : Nat}, (∀ q ∈ L, ∀ v, q.1 v ≤ 1) → F n L x < 0 → F n L x ≤ -(2 * n : Int) + L.length
  | [], _, _, h => by simp [F] at h
  | (s, r) :: L, x, hs, h => by
    have : Fk n s r (F n L) (n - x) ≤ -(2 * n : Int) + L.length + 1 := Fk_neg (m := L.length) (r := r) (next := F n L) (hs (s, r) List.mem_cons_self) (fun y hy => F_neg (fun q hq => hs q (List.mem_cons_of_mem _ hq)) hy) (k := n - x) h
    show Fk n s r (F n L) (n - x) ≤ _
    rw [List.length_cons]
    omega
theorem gr_ex {n : Nat} (h0 : 0 < n) : ∀ {L : List ((Nat → Nat) × Nat)} {lo : Nat}, L.length ≤ n → (∀ q ∈ L, ∀ v, q.1 v ≤ 1) → 0 ≤ F n L lo → ∃ vs, Gr n L lo vs
  | [], _, _, _, _ => ⟨[], trivial⟩
  | (s, r) :: L, lo, hl, hs, h => by
    obtain ⟨v, h1, h2, h3⟩ := Fk_at (s := s) (r := r) (next := F n L) h0 (k := n - lo) (by omega) h
    by_cases c : lo ≤ n
    · obtain ⟨u, ⟨u1, u2, u3⟩, _, u4⟩ := least_of (P := fun v => lo ≤ v ∧ v < n ∧ (s v : Int) + F n L (v + r) = F n ((s, r) :: L) lo) (v := v) ⟨by omega, h2, h3⟩
      have s1 : s u ≤ 1 := hs (s, r) List.mem_cons_self u
      rw [List.length_cons] at hl
      have pos : 0 ≤ F n L (u + r) := by
        by_cases f : F n L (u + r) < 0
        · have := F_neg (fun q hq => hs q (List.mem_cons_of_mem _ hq)) f
          omega
        · omega
      obtain ⟨vs, g⟩ := gr_ex h0 (by omega) (fun q hq => hs q (List.mem_cons_of_mem _ hq)) pos
      exact ⟨u :: vs, u1, u2, u3, fun w w1 w2 e => u4 w w2 ⟨w1, by omega, e⟩, g⟩
    · rw [show n - lo = 0 by omega] at h1
      omega
theorem gr_vq {n : Nat} : ∀ {L : List ((Nat → Nat) × Nat)} {lo : Nat} {vs : List Nat}, Gr n L lo vs → VQ n (L.map (·.2)) lo vs
  | [], _, [], _ => trivial
  | (s, r) :: L, _, v :: vs, h => ⟨h.1, h.2.1, gr_vq h.2.2.2.2⟩
  | [], _, _ :: _, h => h.elim
  | _ :: _, _, [], h => h.elim
theorem gr_sc {n : Nat} : ∀ {L : List ((Nat → Nat) × Nat)} {lo : Nat} {vs : List Nat}, Gr n L lo vs → (sc L vs : Int) = F n L lo
  | [], _, [], _ => by simp [sc, F]
  | (s, r) :: L, lo, v :: vs, h => by
    have ih : (sc L vs : Int) = F n L (v + r) := gr_sc h.2.2.2.2
    have e := h.2.2.1
    show ((s v + sc L vs : Nat) : Int) = _
    omega
  | [], _, _ :: _, h => h.elim
  | _ :: _, _, [], h => h.elim
theorem gr_lex {n : Nat} : ∀ {L : List ((Nat → Nat) × Nat)} {lo : Nat} {vs us : List Nat}, Gr n L lo vs → VQ n (L.map (·.2)) lo us → (sc L us : Int) = F n L lo → lexle vs us
  | [], _, [], _, _, _, _ => trivial
  | (s, r) :: L, lo, v :: vs, u :: us, h, g, e => by
    obtain ⟨g1, g2, g3⟩ := g
    have ub : (sc L us : Int) ≤ F n L (u + r) := sc_le g3
    have ge := Fk_ge (s := s) (r := r) (next := F n L) g1 g2
    have e' : ((s u + sc L us : Nat) : Int) = F n ((s, r) :: L) lo := e
    have ge' : (s u : Int) + F n L (u + r) ≤ F n ((s, r) :: L) lo := ge
    have q : (s u : Int) + F n L (u + r) = F n ((s, r) :: L) lo := by omega
    by_cases c : v = u
    · subst c
      exact .inr ⟨rfl, gr_lex h.2.2.2.2 g3 (by omega)⟩
    · refine .inl ?_
      by_cases d : u < v
      · exact absurd q (h.2.2.2.1 u g1 d)
      · omega
  | [], _, _ :: _, _, h, _, _ => h.elim
  | _ :: _, _, [], _, h, _, _ => h.elim
  | _ :: _, _, _ :: _, [], _, g, _ => g.elim
def stv (A : List Str) (b : Str) (v : Nat) : Nat := if A[v]? = some b then 1 else 0
def items (A : List Str) : List Str → List ((Nat → Nat) × Nat)
  | [] => []
  | [b] => [(stv A b, 0)]
  | b :: b' :: B => (stv A b, if A.idxOf b' < A.idxOf b then 1 else 0) :: items A (b' :: B)
def nxt (A B : List Str) : List Nat := (items A B).map (·.2)
theorem stv_le (A : List Str) (b : Str) (v : Nat) : stv A b v ≤ 1 := by unfold stv; split <;> omega
theorem items_len (A : List Str) : ∀ B, (items A B).length = B.length
  | [] => rfl
  | [_] => rfl
  | b :: b' :: B => by rw [items, List.length_cons, items_len A (b' :: B)]; rfl
theorem items_le (A : List Str) : ∀ (B : List Str), ∀ q ∈ items A B, ∀ v, q.1 v ≤ 1
  | [], q, h, _ => by cases h
  | [b], q, h, v => by
    rw [items, List.mem_singleton] at h
    subst h
    exact stv_le A b v
  | b :: b' :: B, q, h, v => by
    rw [items] at h
    rcases List.mem_cons.mp h with rfl | h
    · exact stv_le A b v
    · exact items_le A (b' :: B) q h v
theorem nxt_cons (A : List Str) (b b' : Str) (B : List Str) : nxt A (b :: b' :: B) = (if A.idxOf b' < A.idxOf b then 1 else 0) :: nxt A (b' :: B) := rfl
theorem nxt_len (A B : List Str) : (nxt A B).length = B.length := by unfold nxt; rw [List.length_map, items_len]
theorem nxt_z (A : List Str) : ∀ B, Z0 (nxt A B)
  | [] => trivial
  | [_] => rfl
  | b :: b' :: B => by
    have ih := nxt_z A (b' :: B)
    rw [nxt_cons]
    obtain ⟨r, R, e⟩ : ∃ r R, nxt A (b' :: B) = r :: R := by
      cases h : nxt A (b' :: B) with
      | nil => have := nxt_len A (b' :: B); rw [h] at this; simp at this
      | cons r R => exact ⟨r, R, rfl⟩
    rw [e] at ih ⊢
    exact ih
theorem nxt_sum (A : List Str) : ∀ B, (nxt A B).sum = fallsN A B
  | [] => rfl
  | [_] => rfl
  | b :: b' :: B => by
    have ih := nxt_sum A (b' :: B)
    rw [nxt_cons, List.sum_cons, ih]
    unfold fallsN
    show _ = (((b, b') :: (b' :: B).zip B).filter _).length
    have e : ((b' :: B).zip (List.drop 1 (b' :: B))) = (b' :: B).zip B := rfl
    rw [e, List.filter_cons]
    by_cases c : A.idxOf b' < A.idxOf b
    · rw [if_pos c, if_pos (decide_eq_true c), List.length_cons]
      omega
    · rw [if_neg c, if_neg (by simpa using c)]
      omega
def seqF (A B : List Str) (ps : List (Str × Str)) : List Nat := B.map fun b => A.idxOf (goal ps b)
theorem leK_keys {A : List Str} {ps : List (Str × Str)} {a b : Str} : leK (keyN A ps a) (keyN A ps b) = true ↔ (A.idxOf (goal ps a) < A.idxOf (goal ps b) ∨ (A.idxOf (goal ps a) = A.idxOf (goal ps b) ∧ A.idxOf a ≤ A.idxOf b)) := by
  unfold leK keyN
  exact decide_eq_true_iff
theorem seq_vq {A : List Str} {ps : List (Str × Str)} : ∀ {B : List Str} {lo : Nat}, (∀ b ∈ B, goal ps b ∈ A) → (B.Pairwise fun a b => leK (keyN A ps a) (keyN A ps b) = true) → (∀ b, B.head? = some b → lo ≤ A.idxOf (goal ps b)) → VQ A.length (nxt A B) lo (seqF A B ps)
  | [], _, _, _, _ => trivial
  | [b], lo, hm, _, hl => ⟨hl b rfl, List.idxOf_lt_length_of_mem (hm b List.mem_cons_self), trivial⟩
  | b :: b' :: B, lo, hm, pw, hl => by
    rw [List.pairwise_cons] at pw
    have k := leK_keys.mp (pw.1 b' List.mem_cons_self)
    refine ⟨hl b rfl, List.idxOf_lt_length_of_mem (hm b List.mem_cons_self), ?_⟩
    refine seq_vq (B := b' :: B) (fun x hx => hm x (List.mem_cons_of_mem _ hx)) pw.2 fun x hx => ?_
    cases hx
    show A.idxOf (goal ps b) + (if A.idxOf b' < A.idxOf b then 1 else 0) ≤ _
    split <;> omega
theorem VQ.head {n lo v : Nat} {vs : List Nat} : ∀ {R : List Nat}, VQ n R lo (v :: vs) → lo ≤ v
  | [], h => h.elim
  | _ :: _, h => h.1
theorem vq_pw {A : List Str} {ps : List (Str × Str)} {n : Nat} : ∀ {B : List Str} {lo : Nat}, VQ n (nxt A B) lo (seqF A B ps) → B.Pairwise fun a b => leK (keyN A ps a) (keyN A ps b) = true
  | [], _, _ => List.Pairwise.nil
  | [b], _, _ => List.pairwise_singleton _ _
  | b :: b' :: B, lo, h => by
    have ih := vq_pw (B := b' :: B) h.2.2
    have h2 : A.idxOf (goal ps b) + (if A.idxOf b' < A.idxOf b then 1 else 0) ≤ A.idxOf (goal ps b') := VQ.head h.2.2
    have k : leK (keyN A ps b) (keyN A ps b') = true := by
      rw [leK_keys]
      split at h2 <;> omega
    rw [List.pairwise_cons]
    refine ⟨fun x hx => ?_, ih⟩
    rcases List.mem_cons.mp hx with rfl | hx
    · exact k
    · rw [List.pairwise_cons] at ih
      exact leK_trans _ _ _ k (ih.1 x hx)
theorem led_seq {A B : List Str} {ps : List (Str × Str)} (c : CallOf A ps) (e : led A ps = B) : VQ A.length (nxt A B) 0 (seqF A B ps) := by
  subst e
  exact seq_vq (fun b hb => (c.goal_mem ((led_perm A ps).mem_iff.mp hb)).2) (led_pw A ps) fun _ _ => Nat.zero_le _
theorem seq_led {A B : List Str} {ps : List (Str × Str)} (p : B.Perm A) (h : VQ A.length (nxt A B) 0 (seqF A B ps)) : led A ps = B := (led_eq p (vq_pw h)).symm
def goN (ps : List (Str × Str)) : Nat := (ps.filter fun p => !decide (p.1 = p.2)).length
theorem filt_two {α : Type} (p : α → Bool) : ∀ l : List α, (l.filter fun x => !p x).length + (l.filter p).length = l.length
  | [] => rfl
  | x :: l => by
    have ih := filt_two p l
    rw [List.filter_cons, List.filter_cons]
    cases p x <;> simp <;> omega
theorem sc_seq {A : List Str} {ps : List (Str × Str)} (nd : A.Nodup) : ∀ {B : List Str}, (∀ b ∈ B, goal ps b ∈ A) → sc (items A B) (seqF A B ps) = (B.filter fun b => decide (goal ps b = b)).length
  | [], _ => rfl
  | [b], h => by
    have g := List.getElem_idxOf (List.idxOf_lt_length_of_mem (h b List.mem_cons_self))
    show stv A b (A.idxOf (goal ps b)) + 0 = _
    unfold stv
    rw [List.getElem?_eq_getElem (List.idxOf_lt_length_of_mem (h b List.mem_cons_self)), g, List.filter_cons]
    by_cases c : goal ps b = b
    · simp [c]
    · simp [c]
  | b :: b' :: B, h => by
    have ih := sc_seq nd (B := b' :: B) fun x hx => h x (List.mem_cons_of_mem _ hx)
    have g := List.getElem_idxOf (List.idxOf_lt_length_of_mem (h b List.mem_cons_self))
    show stv A b (A.idxOf (goal ps b)) + sc (items A (b' :: B)) (seqF A (b' :: B) ps) = _
    rw [ih, List.filter_cons (x := b)]
    unfold stv
    rw [List.getElem?_eq_getElem (List.idxOf_lt_length_of_mem (h b List.mem_cons_self)), g]
    by_cases c : goal ps b = b
    · rw [if_pos (by rw [c]), if_pos (decide_eq_true c), List.length_cons]; omega
    · rw [if_neg (by simpa using c), if_neg (by simpa using c)]; omega
theorem go_sc {A B : List Str} {ps : List (Str × Str)} (c : CallOf A ps) (nd : A.Nodup) (p : B.Perm A) : goN ps + sc (items A B) (seqF A B ps) = A.length := by
  rw [sc_seq nd fun b hb => (c.goal_mem (p.mem_iff.mp hb)).2]
  have ng := goal_of (c.nodup nd)
  have e : (ps.filter fun q => decide (q.1 = q.2)).length = (B.filter fun b => decide (goal ps b = b)).length := by
    have e1 : (ps.filter fun q => decide (q.1 = q.2)).length = ((ps.map (·.1)).filter fun b => decide (goal ps b = b)).length := by
      rw [List.filter_map, List.length_map]
      congr 1
      refine List.filter_congr fun q hq => ?_
      show decide (q.1 = q.2) = decide (goal ps q.1 = q.1)
      rw [ng q hq, decide_eq_decide]
      exact ⟨Eq.symm, Eq.symm⟩
    rw [e1]
    exact ((c.perm.trans p.symm).filter _).length_eq
  rw [← e]
  unfold goN
  have := filt_two (fun q : Str × Str => decide (q.1 = q.2)) ps
  rw [this, ← List.length_map (f := fun q : Str × Str => q.1)]
  exact c.perm.length_eq
noncomputable def callV (A B : List Str) (vs : List Nat) : List (Str × Str) := (B.zip (vs.map fun v => A[v]?.getD ("" : Str))).mergeSort leP
theorem callV_of {A B : List Str} {vs : List Nat} (nd : A.Nodup) (p : B.Perm A) (hl : vs.length = B.length) (hv : ∀ v ∈ vs, v < A.length) : CallOf A (callV A B vs) ∧ seqF A B (callV A B vs) = vs := by
  have pm : (callV A B vs).Perm (B.zip (vs.map fun v => A[v]?.getD ("" : Str))) := List.mergeSort_perm _ _
  have lz : B.length ≤ (vs.map fun v => A[v]?.getD ("" : Str)).length := by rw [List.length_map]; omega
  have fs : (callV A B vs).map (·.1) |>.Perm B := by
    have := pm.map (·.1)
    rwa [List.map_fst_zip lz] at this
  have c : CallOf A (callV A B vs) := ⟨fs.trans p, fun q hq => by
    have := (List.of_mem_zip (pm.mem_iff.mp hq)).2
    obtain ⟨v, h1, h2⟩ := List.mem_map.mp this
    have := hv v h1
    rw [List.getElem?_eq_getElem this] at h2
    rw [← h2]
    exact List.getElem_mem this⟩
  refine ⟨c, ?_⟩
  have ng := goal_of (c.nodup nd)
  unfold seqF
  apply List.ext_getElem (by rw [List.length_map, hl])
  intro i h1 h2
  rw [List.length_map] at h1
  rw [List.getElem_map]
  have hvi := hv vs[i] (List.getElem_mem h2)
  have m : (B[i], A[vs[i]]) ∈ callV A B vs := by
    rw [pm.mem_iff]
    have : (B.zip (vs.map fun v => A[v]?.getD ("" : Str)))[i]'(by rw [List.length_zip, List.length_map]; omega) = (B[i], A[vs[i]]) := by
      rw [List.getElem_zip, List.getElem_map, List.getElem?_eq_getElem hvi]
      rfl
    rw [← this]
    exact List.getElem_mem _
  rw [ng _ m]
  exact idx_of nd hvi
theorem callV_led {A B : List Str} {vs : List Nat} (nd : A.Nodup) (p : B.Perm A) (h : VQ A.length (nxt A B) 0 vs) : CallOf A (callV A B vs) ∧ seqF A B (callV A B vs) = vs ∧ led A (callV A B vs) = B := by
  obtain ⟨c, e⟩ := callV_of nd p (by rw [h.len, nxt_len]) h.lt
  refine ⟨c, e, seq_led p ?_⟩
  rw [e]; exact h
def FW (A B : List Str) : Int := F A.length (items A B) 0
theorem fw_ub {A B : List Str} {ps : List (Str × Str)} (c : CallOf A ps) (nd : A.Nodup) (e : led A ps = B) : (A.length : Int) - goN ps ≤ FW A B := by
  have p : B.Perm A := e ▸ led_perm A ps
  have := sc_le (L := items A B) (led_seq c e)
  have g := go_sc c nd p
  unfold FW
  omega
theorem fw_at {A B : List Str} (nd : A.Nodup) (p : B.Perm A) (h0 : 0 < A.length) (h : 0 ≤ FW A B) : ∃ vs, Gr A.length (items A B) 0 vs ∧ CallOf A (callV A B vs) ∧ seqF A B (callV A B vs) = vs ∧ led A (callV A B vs) = B ∧ (goN (callV A B vs) : Int) = A.length - FW A B := by
  obtain ⟨vs, g⟩ := gr_ex h0 (by rw [items_len, p.length_eq]; exact Nat.le_refl _) (items_le A B) h
  obtain ⟨c, e, l⟩ := callV_led nd p (gr_vq g)
  refine ⟨vs, g, c, e, l, ?_⟩
  have := go_sc c nd p
  rw [e] at this
  have s := gr_sc g
  unfold FW
  omega
noncomputable def chB : SM := (sAsg (f2 divW (f2 (mulW false) (fVar 2) (f2 subW (fVar 0) (fVar 3))) (f2 (addW false) (fVar 3) (fC (.int 1)))) (gN 2))
theorem ch_turn {N r t a d q : Int} {v1 : Option W} {h : Hh} (ha : N - t = a) (hd : t + 1 = d) (a0 : -18446744073709551616 < a) (a1 : a < 18446744073709551616) (d0 : decide (0 < d ∧ d < 1073741824) = true) (hq : r * a / d = q) : chB [some (.dat (.int N)), v1, some (.dat (.int r)), some (.dat (.int t))] h = some (.nx [some (.dat (.int N)), v1, some (.dat (.int q)), some (.dat (.int t))], h) := by
  have gm : (decide (-18446744073709551616 < r) && decide (r < 18446744073709551616) || decide (-18446744073709551616 < a) && decide (a < 18446744073709551616)) = true := by simp [a0, a1]
  unfold chB
  clear a0 a1
  walk_at "dl"
theorem ch_loop {N n : Nat} {h : Hh} (hN : N ≤ 1000000) (hn : n ≤ N) : ∃ v', forL (gN 3) chB (rngD 0 n) [some (.dat (.int (N : Int))), some (.dat (.int (n : Int))), some (.dat (.int 1)), none] h = some (.nx [some (.dat (.int (N : Int))), some (.dat (.int (n : Int))), some (.dat (.int (bin N n : Int))), v'], h) := by
  obtain ⟨ρ', h', e, rfl, v', rfl⟩ := forL_end (k := gN 3) (body := chB) (fun j ρ g => g = h ∧ ∃ v : Option W, ρ = [some (.dat (.int (N : Int))), some (.dat (.int (n : Int))), some (.dat (.int (bin N j : Int))), v]) (ds := rngD 0 n) (ρ := [some (.dat (.int (N : Int))), some (.dat (.int (n : Int))), some (.dat (.int 1)), none]) (h := h) ⟨rfl, none, by rw [bin_zero]; rfl⟩ (by
    rintro j d ej ρ g ⟨rfl, v, rfl⟩
    obtain ⟨hj, rfl⟩ := rng_get ej
    have ab := bin_abs N j
    have hq : (bin N j : Int) * ((N - j : Nat) : Int) / ((j + 1 : Nat) : Int) = (bin N (j + 1) : Int) := by
      rw [← Int.natCast_mul, Nat.mul_comm, ← ab, Int.natCast_mul]
      exact Int.mul_ediv_cancel_left _ (by omega)
    have et := ch_turn (N := (N : Int)) (r := (bin N j : Int)) (t := (j : Int)) (a := ((N - j : Nat) : Int)) (d := ((j + 1 : Nat) : Int)) (q := (bin N (j + 1) : Int)) (v1 := some (.dat (.int (n : Int)))) (h := g) (by omega) (by omega) (by omega) (by omega) (by simp; omega) hq
    exact ⟨_, _, g, rfl, et, rfl, _, rfl⟩)
  rw [rng_len] at e
  exact ⟨v', e⟩
theorem choices_run {N n q : Int} {m : Nat} {IT : List D} {v' : Option W} {h : Hh} (d1 : decide (0 ≤ n) = true) (d2 : decide (n ≤ N) = true) (b0 : -1000000000 ≤ n) (b1 : n ≤ 1000000000) (hm : n.toNat = m) (hi : rngD 0 m = IT) (e : forL (gN 3) chB IT [some (.dat (.int N)), some (.dat (.int n)), some (.dat (.int 1)), none] h = some (.nx [some (.dat (.int N)), some (.dat (.int n)), some (.dat (.int q)), v'], h)) : m_choices [.dat (.int N), .dat (.int n)] h = some (.dat (.int q), h) := by
  have lv := leave_same' (h := h) (d := .int q)
  unfold chB at e
  unfold m_choices fChain
  walk_at "dl"
theorem choices_ok {N n : Nat} {h : Hh} (hN : N ≤ 1000000) (hn : n ≤ N) : m_choices [.dat (.int (N : Int)), .dat (.int (n : Int))] h = some (.dat (.int (bin N n : Int)), h) := by
  obtain ⟨v', e⟩ := ch_loop (h := h) hN hn
  exact choices_run (m := n) (by simp) (by simp; exact hn) (by omega) (by omega) rfl rfl e
theorem choices_none {N n : Int} {h : Hh} (d1 : decide (0 ≤ n) = true) (d2 : decide (n ≤ N) = false) : m_choices [.dat (.int N), .dat (.int n)] h = some (.dat (.int 0), h) := by
  have lv := leave_same' (h := h) (d := .int 0)
  unfold m_choices fChain
  walk_at "dl"
theorem choicesZ {N : Int} {n : Nat} {h : Hh} (hN : N ≤ 1000000) : m_choices [.dat (.int N), .dat (.int (n : Int))] h = some (.dat (.int ((if (n : Int) ≤ N then bin N.toNat n else 0 : Nat) : Int)), h) := by
  by_cases c : (n : Int) ≤ N
  · rw [if_pos c]
    have e := choices_ok (h := h) (N := N.toNat) (n := n) (by omega) (by omega)
    rwa [show ((N.toNat : Nat) : Int) = N by omega] at e
  · rw [if_neg c]
    exact choices_none (by simp) (by simpa using c)
def zipR (A B : List Str) : List Nat := (B.zip (B.drop 1)).map fun p => if A.idxOf p.2 < A.idxOf p.1 then 1 else 0
def rsN (A B : List Str) : List Nat := 0 :: zipR A B
theorem nxt_zip (A : List Str) : ∀ {B : List Str}, B ≠ [] → nxt A B = zipR A B ++ [0]
  | [], h => absurd rfl h
  | [_], _ => rfl
  | b :: b' :: B, _ => by
    rw [nxt_cons, nxt_zip A (B := b' :: B) (by simp)]
    rfl
def intsL (l : List Nat) : List D := l.map fun r : Nat => (.int (r : Int) : D)
abbrev lN (l : List Nat) : D := .list (intsL l)
theorem zipOk_s : ∀ (l : List Str) (ys : List D), zipOk (l.map .str) ys = true
  | [], ys => rfl
  | a :: l, [] => rfl
  | a :: l, y :: ys => by
    have ih := zipOk_s l ys
    unfold zipOk at ih ⊢
    rw [List.map_cons, zipD, List.all_cons, ih]
    rfl
theorem plc_get {A : List Str} {s : Str} (hs : s ∈ A) : getD (sdic (plc 0 A)) (.str s) = some (some (.int (A.idxOf s : Int))) := by rw [getD_sdic, plc_look, if_pos hs, Nat.zero_add]
theorem xIdx {x y : W} {d : D} {es : List (D × D)} {s : Str} {A B : EM} {ρ : DL.Env} {h : Hh} (ha : A ρ h = some (.dat (.dict es), h)) (hb : B ρ h = some (.dat (.str s), h)) (e : getD es (.str s) = some (some d)) : f2 idxW A B ρ h = some (.dat d, h) := by
  refine x2 ha hb ?_
  unfold idxW
  simp only [deref, e]
  rfl
theorem places_dc {x : D} {A : List Str} {ρ ρ0 : DL.Env} {h : Hh} {i j : Nat} (hx : IsSeq x (A.map .str)) (nd : A.Nodup) (hl : A.length ≤ 1000) (e0 : fVar 0 ρ h = some (.dat x, h)) (hw : wipeE ρ [i, j] = ρ0)
    (H : ∀ (k : Nat) (s : Str), ∃ ρ1, (gT 2 (gC (gN i) (gC (gN j) (gE)))) (.dat (.tuple [.int (k : Int), .str s])) ρ0 h = some ρ1 ∧ fVar j ρ1 h = some (.dat (.str s), h) ∧ fVar i ρ1 h = some (.dat (.int (k : Int)), h)) :
    fDc false (enumA (fCons (fVar 0) (fNil))) (gT 2 (gC (gN i) (gC (gN j) (gE)))) (bYes) (fVar j) (fVar i) [i, j] ρ h = some (.dat (.dict (sdic (plc 0 A))), h) := by
  have e := dcL_sdic (k := gT 2 (gC (gN i) (gC (gN j) gE))) (fk := fVar j) (fv := fVar i) (ρ := ρ0) (h := h) enP (ds := enumD 0 (A.map .str)) (l := []) (by rw [List.nil_append, enum_plc, plc_keys]; exact nd)
    (by rw [List.nil_append, List.length_map, enumD_len, List.length_map]; exact Nat.le_trans hl (by decide)) (by
      intro d hd
      obtain ⟨k, s, rfl⟩ := enum_mem hd
      obtain ⟨ρ1, h1, h2, h3⟩ := H k s
      exact ⟨ρ1, h1, h2, h3⟩)
  rw [List.nil_append, enum_plc] at e
  have en : enumA (fCons (fVar 0) (fNil)) ρ h = some (enumD 0 (A.map .str), h) := by
    unfold enumA
    rw [xC e0 xN]
    rcases hx with rfl | rfl <;> rfl
  have e' : dcL (gT 2 (gC (gN i) (gC (gN j) gE))) bYes (fVar j) (fVar i) ρ0 (enumD 0 (A.map .str)) [] h = some (sdic (plc 0 A), h) := e
  unfold fDc
  rw [en]
  simp only [obnd_some, hw, e']
  rfl
section
variable {A B : List Str} {x y : D} {h : Hh}
theorem risen_ok (hx : IsSeq x (A.map .str)) (hy : IsSeq y (B.map .str)) (nd : A.Nodup) (hl : A.length ≤ 1000) (p : B.Perm A) : m_risen [.dat x, .dat y] h = some (.dat (lN (rsN A B)), h) := by
  have hz : sizeLine = 16777216 := rfl
  have lB := p.length_eq
  have e1 := places_dc (x := x) (ρ := [some (.dat x), some (.dat y), none, none, none, none, none]) (ρ0 := [some (.dat x), some (.dat y), none, none, none, none, none]) (h := h) (i := 4) (j := 5) hx nd hl rfl rfl fun k s => ⟨[some (.dat x), some (.dat y), none, none, some (.dat (.int (k : Int))), some (.dat (.str s)), none], rfl, rfl, rfl⟩
  let V (v4 v5 v6 : Option W) : DL.Env := [some (.dat x), some (.dat y), some (.dat (.dict (sdic (plc 0 A)))), none, v4, v5, v6]
  have zi : zipI (fCons (fVar 1) (fCons (fSl false (fVar 1) (oSome (fC (.int 1))) (oNone)) (fNil))) (V none none none) h = some ((B.zip (B.drop 1)).map fun p => prT p, h) := by
    have c1 := cut1 (B.map PyData.str)
    have z1 : zipD (B.map .str) ((B.map .str).drop 1) = (B.zip (B.drop 1)).map fun p => prT p := by
      rw [← List.map_drop, zipD_map]
      first | rfl | done
    have ok := zipOk_s B ((B.map .str).drop 1)
    rcases hy with rfl | rfl
    · have s : fSl false (fVar 1) (oSome (fC (.int 1))) (oNone) (V none none none) h = some (.dat (.list ((B.map .str).drop 1)), h) := by
        rw [← c1]; rfl
      unfold zipI
      rw [xC (E := fVar 1) rfl (xC s xN)]
      simp only [obnd_some, ok, if_true, z1]
    · have s : fSl false (fVar 1) (oSome (fC (.int 1))) (oNone) (V none none none) h = some (.dat (.tuple ((B.map .str).drop 1)), h) := by
        rw [← c1]; rfl
      unfold zipI
      rw [xC (E := fVar 1) rfl (xC s xN)]
      simp only [obnd_some, ok, if_true, z1]
  have lc : lcL (gT 2 (gC (gN 6) (gC (gN 5) (gE)))) (bYes) (fA intC (fCons (f2 lt_W (f2 idxW (fVar 2) (fVar 5)) (f2 idxW (fVar 2) (fVar 6))) (fNil))) (V none none none) ((B.zip (B.drop 1)).map fun p => prT p) h = some ((B.zip (B.drop 1)).map fun p => .int (((if A.idxOf p.2 < A.idxOf p.1 then 1 else 0 : Nat)) : Int), h) :=
    lcL_list prT (fun p : Str × Str => PyData.int (((if A.idxOf p.2 < A.idxOf p.1 then 1 else 0 : Nat)) : Int)) fun q hq => ⟨V none (some (.dat (.str q.2))) (some (.dat (.str q.1))), rfl, by
      have m1 := (List.of_mem_zip hq).1
      have m2 := List.mem_of_mem_drop (List.of_mem_zip hq).2
      refine xA (xC (x2 (xIdx (x := .dat x) (y := .dat x) (A := fVar 2) (B := fVar 5) rfl rfl (plc_get (p.mem_iff.mp m2))) (xIdx (x := .dat x) (y := .dat x) (A := fVar 2) (B := fVar 6) rfl rfl (plc_get (p.mem_iff.mp m1))) (r := some (.dat (.bool (decide (A.idxOf q.2 < A.idxOf q.1))), h)) ?_) xN) ?_
      · rw [lt_e]
        simp [ltW, deref, bok]
      · by_cases c : A.idxOf q.2 < A.idxOf q.1
        · simp [intC, c, ok]
        · simp [intC, c, ok]⟩
  have lz : (zipR A B).length ≤ 1000 := by unfold zipR; rw [List.length_map, List.length_zip]; omega
  unfold m_risen
  refine fnM_rt (w := .dat (lN (rsN A B))) (h' := h) ?_ rfl leave_same'
  refine (zA (ρ1 := V none none none) e1 rfl).trans ?_
  refine (zA (ρ1 := [some (.dat x), some (.dat y), some (.dat (.dict (sdic (plc 0 A)))), some (.dat (lN (zipR A B))), none, none, none]) (xL zi (vs := [6, 5]) lc (by rw [List.length_map, List.length_zip]; omega)) ?_).trans ?_
  · have : lN (zipR A B) = .list ((B.zip (B.drop 1)).map fun p => .int (((if A.idxOf p.2 < A.idxOf p.1 then 1 else 0 : Nat)) : Int)) := by
      unfold lN intsL zipR
      rw [List.map_map]; rfl
    rw [this]; rfl
  · refine zR (x2 (xA (xC (E := fC (.int 0)) rfl xN) (xLst (ds := [.int 0]) rfl (by decide))) (B := fVar 3) rfl ?_)
    refine xAdd ?_
    rw [intsL, List.length_map]
    simp; omega
end
section
variable {h : Hh} {ρ : DL.Env}
theorem intsL_len (l : List Nat) : (intsL l).length = l.length := by unfold intsL; rw [List.length_map]
theorem intsL_at {l : List Nat} {i : Nat} (hi : i < l.length) : L2.atI (intsL l) (i : Int) = some (.int ((l[i]?.getD 0 : Nat) : Int)) := by
  apply at_nat
  unfold intsL
  rw [List.getElem?_map, List.getElem?_eq_getElem hi]; rfl
theorem intsL_sum : ∀ l : List Nat, intsD (intsL l) = some (l.map fun r : Nat => (r : Int))
  | [] => rfl
  | r :: l => by
    have ih := intsL_sum l
    unfold intsL at ih ⊢
    rw [List.map_cons, intsD, ih]; rfl
theorem sum_cast : ∀ l : List Nat, (l.map fun r : Nat => (r : Int)).sum = ((l.sum : Nat) : Int)
  | [] => rfl
  | r :: l => by rw [List.map_cons, List.sum_cons, List.sum_cons, sum_cast l]; omega
theorem sum_ok (l : List Nat) : sumW [.dat (lN l)] h = some (.dat (.int ((l.sum : Nat) : Int)), h) := by
  rw [sumW_e]
  unfold lW
  simp only [deref, intsL_sum, sum_cast]
  rfl
theorem cutN {xs : List D} {k : Nat} : cutG xs (some (k : Int)) none = xs.drop k := by
  unfold cutG
  rw [show HT.sIx xs.length 0 (some (k : Int)) = min k xs.length from HT.sIx_nat xs.length 0 k, HT.sIx_none]
  by_cases c : k ≤ xs.length
  · rw [Nat.min_eq_left c]
    exact List.take_of_length_le (by rw [List.length_drop]; exact Nat.le_refl _)
  · rw [Nat.min_eq_right (by omega), Nat.sub_self, List.take_zero, List.drop_eq_nil_of_le (by omega)]
theorem xDrop {A E : EM} {l : List Nat} {k : Nat} (ha : A ρ h = some (.dat (lN l), h)) (he : E ρ h = some (.dat (.int (k : Int)), h)) : fSl false A (oSome E) (oNone) ρ h = some (.dat (lN (l.drop k)), h) := by
  have e : cutG (intsL l) (some (k : Int)) none = intsL (l.drop k) := by
    rw [cutN]
    unfold intsL
    rw [List.map_drop]
  unfold fSl oSome oNone
  simp only [ha, he, obnd]
  rw [show (lN (l.drop k)) = .list (cutG (intsL l) (some (k : Int)) none) by rw [e]]
  rfl
theorem xIx {A E : EM} {l : List Nat} {i : Nat} (ha : A ρ h = some (.dat (lN l), h)) (he : E ρ h = some (.dat (.int (i : Int)), h)) (hi : i < l.length) : f2 idxW A E ρ h = some (.dat (.int ((l[i]?.getD 0 : Nat) : Int)), h) := x2 ha he (idxW_list (intsL_at hi))
theorem xSub {A B : EM} {i j k : Int} (ha : A ρ h = some (.dat (.int i), h)) (hb : B ρ h = some (.dat (.int j), h)) (e : i - j = k) : f2 subW A B ρ h = some (.dat (.int k), h) := by
  rw [← e]
  exact x2 ha hb sub_i
theorem xAdI {A B : EM} {i j k : Int} (ha : A ρ h = some (.dat (.int i), h)) (hb : B ρ h = some (.dat (.int j), h)) (e : i + j = k) : f2 (addW false) A B ρ h = some (.dat (.int k), h) := by
  rw [← e]
  exact x2 ha hb add_i
end
def wN (A B : List Str) (a v : Nat) : Nat := cnt A.length ((nxt A B).drop (a + 1)) (v + (nxt A B)[a]?.getD 0)
theorem rs_drop {A B : List Str} (hB : B ≠ []) {k : Nat} (hk : k < B.length) : ((rsN A B).drop (k + 1)).sum = ((nxt A B).drop k).sum := by
  unfold rsN
  rw [List.drop_succ_cons, nxt_zip A hB]
  have hl : (zipR A B).length = B.length - 1 := by unfold zipR; rw [List.length_map, List.length_zip, List.length_drop]; omega
  rw [List.drop_append_of_le_length (by omega), List.sum_append]
  simp
theorem Z0.drop : ∀ {R : List Nat} (k : Nat), Z0 R → Z0 (R.drop k)
  | _, 0, h => h
  | [], k + 1, _ => trivial
  | r :: R, k + 1, h => Z0.drop (R := R) k h.tail
section
variable {A B : List Str} {h : Hh}
theorem wN_closed (p : B.Perm A) {a v : Nat} (ha : a < A.length) (hv : v < A.length) : wN A B a v = if v + ((nxt A B).drop a).sum < A.length then bin (A.length - 1 - v - ((nxt A B).drop a).sum + (A.length - 1 - a)) (A.length - 1 - a) else 0 := by
  have lB := p.length_eq
  have ln : (nxt A B).length = A.length := by rw [nxt_len, lB]
  have e : (nxt A B).drop a = ((nxt A B)[a]?.getD 0) :: (nxt A B).drop (a + 1) := by
    rw [List.drop_eq_getElem_cons (by omega), List.getElem?_eq_getElem (by omega)]; rfl
  have ld : ((nxt A B).drop (a + 1)).length = A.length - 1 - a := by rw [List.length_drop, ln]; omega
  have z := Z0.drop a (nxt_z A B)
  rw [e] at z
  unfold wN
  rw [cnt_closed z.tail (fun en => by
    rw [en] at z
    have : (nxt A B)[a]?.getD 0 = 0 := z
    omega), ld, e, List.sum_cons]
  by_cases c : v + (nxt A B)[a]?.getD 0 + ((nxt A B).drop (a + 1)).sum < A.length
  · rw [if_pos c, if_pos (by omega)]
    congr 1
    omega
  · rw [if_neg c, if_neg (by omega)]
theorem ways_ok (p : B.Perm A) (hl : A.length ≤ 100) {a v : Nat} (ha : a < A.length) (hv : v < A.length) : m_ways_on [.dat (.int (A.length : Int)), .dat (lN (rsN A B)), .dat (.int (a : Int)), .dat (.int (v : Int))] h = some (.dat (.int (wN A B a v : Int)), h) := by
  have lB := p.length_eq
  have hB : B ≠ [] := fun z => by rw [z] at lB; simp at lB; omega
  have hs := rs_drop (A := A) hB (k := a) (by omega)
  have hc := choicesZ (h := h) (N := (A.length : Int) - 1 - v - (((rsN A B).drop (a + 1)).sum : Nat) + ((A.length - 1 - a : Nat) : Int)) (n := A.length - 1 - a) (by omega)
  have ev : (if ((A.length - 1 - a : Nat) : Int) ≤ (A.length : Int) - 1 - v - (((rsN A B).drop (a + 1)).sum : Nat) + ((A.length - 1 - a : Nat) : Int) then bin ((A.length : Int) - 1 - v - (((rsN A B).drop (a + 1)).sum : Nat) + ((A.length - 1 - a : Nat) : Int)).toNat (A.length - 1 - a) else 0) = wN A B a v := by
    rw [wN_closed p ha hv, hs]
    by_cases c : v + ((nxt A B).drop a).sum < A.length
    · rw [if_pos c, if_pos (by omega)]
      congr 1
      omega
    · rw [if_neg c, if_neg (by omega)]
  rw [ev] at hc
  unfold m_ways_on
  let ρ : DL.Env := [some (.dat (.int (A.length : Int))), some (.dat (lN (rsN A B))), some (.dat (.int (a : Int))), some (.dat (.int (v : Int))), some (.dat (.int ((A.length - 1 - a : Nat) : Int)))]
  refine fnM_rt (w := .dat (.int (wN A B a v : Int))) (h' := h) ?_ rfl leave_same'
  refine (zA (ρ1 := ρ) (w := .dat (.int ((A.length - 1 - a : Nat) : Int))) (xSub (xSub (A := fVar 0) rfl (B := fC (.int 1)) rfl rfl) (B := fVar 2) rfl (by omega)) rfl).trans ?_
  refine zR (xA (xC (xAdI (xSub (xSub (xSub (A := fVar 0) rfl (B := fC (.int 1)) rfl rfl) (B := fVar 3) rfl rfl) (xA (xC (xDrop (A := fVar 1) (l := rsN A B) (k := a + 1) rfl (xAdI (A := fVar 2) rfl (B := fC (.int 1)) rfl (by omega))) xN) (sum_ok _)) rfl) (B := fVar 4) rfl rfl) (xC (E := fVar 4) rfl xN)) hc)
theorem calls_many_ok {x y : D} (hx : IsSeq x (A.map .str)) (hy : IsSeq y (B.map .str)) (p : B.Perm A) (nd : A.Nodup) (h0 : 0 < A.length) (hl : A.length ≤ 100) (ht : Txts A) : m_calls_many [.dat x, .dat y] h = some (.dat (.int (cnt A.length (nxt A B) 0 : Int)), h) := by
  have lB := p.length_eq
  have hB : B ≠ [] := fun z => by rw [z] at lB; simp at lB; omega
  have e1 := falls_ok (h := h) hx hy p.symm nd (by omega) ht
  have hc := choicesZ (h := h) (N := 2 * (A.length : Int) - 1 - (fallsN A B : Nat)) (n := A.length) (by omega)
  have ev : (if ((A.length : Nat) : Int) ≤ 2 * (A.length : Int) - 1 - (fallsN A B : Nat) then bin (2 * (A.length : Int) - 1 - (fallsN A B : Nat)).toNat A.length else 0) = cnt A.length (nxt A B) 0 := by
    rw [cnt_closed (nxt_z A B) (fun en => by have := nxt_len A B; rw [en] at this; simp at this; omega), nxt_sum, nxt_len, lB]
    by_cases c : 0 + fallsN A B < A.length
    · rw [if_pos c, if_pos (by omega)]
      congr 1
      omega
    · rw [if_neg c, if_neg (by omega)]
  rw [ev] at hc
  have lx : lenW [.dat x] h = some (.dat (.int (A.length : Int)), h) := by
    rcases hx with rfl | rfl <;> (unfold lenW; simp only [deref, List.length_map]; rfl)
  unfold m_calls_many
  refine fnM_rt (w := .dat (.int (cnt A.length (nxt A B) 0 : Int))) (h' := h) ?_ rfl leave_same'
  exact zR (xA (xC (xSub (xSub (x2 (A := fC (.int 2)) rfl (xA (xC (E := fVar 0) rfl xN) lx) (mul_i (by omega) (by omega))) (B := fC (.int 1)) rfl rfl) (xA (xC (E := fVar 0) rfl (xC (E := fVar 1) rfl xN)) e1) rfl) (xC (xA (xC (E := fVar 0) rfl xN) lx) xN)) hc)
theorem zip_pairs {A : List Str} : ∀ {B : List Str} {vs : List Nat}, (B.zip vs).map (fun q => (q.1, A[q.2]?.getD ("" : Str))) = B.zip (vs.map fun v => A[v]?.getD ("" : Str))
  | [], _ => by simp
  | _ :: _, [] => by simp
  | b :: B, v :: vs => by
    have ih := zip_pairs (A := A) (B := B) (vs := vs)
    rw [List.zip_cons_cons, List.map_cons, ih, List.map_cons, List.zip_cons_cons]
theorem call_by_ok {x y : D} {vs : List Nat} (hx : IsSeq x (A.map .str)) (hy : IsSeq y (B.map .str)) (p : B.Perm A) (hl : A.length ≤ 100) (ht : Txts A) (hv : ∀ v ∈ vs, v < A.length) (el : vs.length = B.length) : m_call_by [.dat x, .dat y, .dat (lN vs)] h = some (.dat (cT (callV A B vs)), h) := by
  have hz : sizeLine = 16777216 := rfl
  have lB := p.length_eq
  let ps := B.zip (vs.map fun v => A[v]?.getD ("" : Str))
  have tp : TxtP ps := fun q hq => by
    have m := List.of_mem_zip hq
    obtain ⟨v, h1, h2⟩ := List.mem_map.mp m.2
    refine ⟨ht _ (p.mem_iff.mp m.1), ?_⟩
    rw [← h2, List.getElem?_eq_getElem (hv v h1)]
    exact ht _ (List.getElem_mem _)
  have lp : ps.length = B.length := by show (B.zip _).length = _; rw [List.length_zip, List.length_map]; omega
  have zi : zipSS (fCons (fVar 1) (fCons (fVar 2) (fNil))) [some (.dat x), some (.dat y), some (.dat (lN vs)), none, none] h = some ((B.zip vs).map fun q => PyData.tuple [.str q.1, .int (q.2 : Int)], h) := by
    unfold zipSS
    rw [xC (E := fVar 1) rfl (xC (E := fVar 2) rfl xN)]
    have ok : (B.map PyData.str).length = (intsL vs).length ∧ zipOk (B.map .str) (intsL vs) = true := ⟨by rw [List.length_map, intsL_len, el], zipOk_s B _⟩
    have zd : zipD (B.map .str) (intsL vs) = (B.zip vs).map fun q => PyData.tuple [.str q.1, .int (q.2 : Int)] := by
      unfold intsL
      rw [zipD_map]
    rcases hy with rfl | rfl
    · simp only [obnd_some]
      rw [if_pos ok, zd]
    · simp only [obnd_some]
      rw [if_pos ok, zd]
  have lc : lcL (gT 2 (gC (gN 3) (gC (gN 4) (gE)))) (bYes) (fA tupW (fCons (fVar 3) (fCons (f2 idxW (fVar 0) (fVar 4)) (fNil)))) [some (.dat x), some (.dat y), some (.dat (lN vs)), none, none] ((B.zip vs).map fun q => PyData.tuple [.str q.1, .int (q.2 : Int)]) h = some ((B.zip vs).map fun q => prT (q.1, A[q.2]?.getD ("" : Str)), h) :=
    lcL_list (fun q : Str × Nat => PyData.tuple [.str q.1, .int (q.2 : Int)]) (fun q : Str × Nat => prT (q.1, A[q.2]?.getD ("" : Str))) fun q hq => ⟨[some (.dat x), some (.dat y), some (.dat (lN vs)), some (.dat (.str q.1)), some (.dat (.int (q.2 : Int)))], rfl, by
      have hq2 := hv q.2 (List.of_mem_zip hq).2
      have ix : idxW (.dat x) (.dat (.int (q.2 : Int))) h = some (.dat (.str (A[q.2]?.getD ("" : Str))), h) := by
        have a : L2.atI (A.map PyData.str) (q.2 : Int) = some (.str (A[q.2]?.getD ("" : Str))) := by
          apply at_nat
          rw [List.getElem?_map, List.getElem?_eq_getElem hq2]; rfl
        rcases hx with rfl | rfl
        · exact idxW_list a
        · unfold idxW
          simp only [deref, a]
          rfl
      exact xA (xC (E := fVar 3) rfl (xC (x2 (A := fVar 0) rfl (B := fVar 4) rfl ix) xN)) (xTp (ds := [.str q.1, .str (A[q.2]?.getD ("" : Str))]) rfl (by show 2 ≤ sizeLine; decide))⟩
  have e2 : (B.zip vs).map (fun q => prT (q.1, A[q.2]?.getD ("" : Str))) = ps.map prT := by
    show _ = (B.zip (vs.map fun v => A[v]?.getD ("" : Str))).map prT
    rw [← zip_pairs, List.map_map]; rfl
  rw [e2] at lc
  have es : sortW false [.dat (.list (ps.map prT))] h = some (.dat (.list ((callV A B vs).map prT)), h) := by
    unfold sortW
    simp only [deref, sortable_prs tp, sortD_prs, if_true]
    rfl
  have lq : (callV A B vs).length = B.length := by
    show (ps.mergeSort leP).length = _
    rw [List.length_mergeSort, lp]
  unfold m_call_by
  refine fnM_rt (w := .dat (cT (callV A B vs))) (h' := h) ?_ rfl leave_same'
  exact zR (xA (xC (xA (xC (xL zi (vs := [3, 4]) lc (by rw [List.length_map]; omega)) xN) es) xN) (xTup (.inl rfl)))
end
def rowF (n : Nat) (L : List ((Nat → Nat) × Nat)) : List D := (List.range (n + 1)).map fun v => .int (F n L v)
def someF (n : Nat) (s : Nat → Nat) (r : Nat) (next : Nat → Int) (j : Nat) : List D := (List.range (j + 1)).map fun k => .int (Fk n s r next k)
theorem someF_succ (n : Nat) (s : Nat → Nat) (r : Nat) (next : Nat → Int) (j : Nat) : someF n s r next (j + 1) = someF n s r next j ++ [.int (Fk n s r next (j + 1))] := by
  unfold someF
  rw [List.range_succ, List.map_append]; rfl
theorem someF_rev (n : Nat) (s : Nat → Nat) (r : Nat) (L : List ((Nat → Nat) × Nat)) : (someF n s r (F n L) n).reverse = rowF n ((s, r) :: L) := by
  unfold someF rowF
  apply List.ext_getElem (by simp)
  intro i h1 h2
  rw [List.getElem_reverse, List.getElem_map, List.getElem_map, List.getElem_range, List.getElem_range]
  simp at h1
  congr 2
  simp
theorem rowF_nil (n : Nat) : List.replicate (n + 1) (PyData.int 0) = rowF n [] := by
  unfold rowF
  have : (fun v => PyData.int (F n [] v)) = fun _ => .int 0 := by funext v; rfl
  rw [this, List.map_const', List.length_range]
theorem rowF_at {n v : Nat} {L : List ((Nat → Nat) × Nat)} (hv : v ≤ n) : L2.atI (rowF n L) (v : Int) = some (.int (F n L v)) := by
  apply at_nat
  unfold rowF
  rw [List.getElem?_map, List.getElem?_range (by omega)]; rfl
theorem someF_last (n : Nat) (s : Nat → Nat) (r : Nat) (next : Nat → Int) : ∀ j, L2.atI (someF n s r next j) (-1) = some (.int (Fk n s r next j))
  | 0 => rfl
  | j + 1 => by rw [someF_succ]; exact atI_neg1 _ _
theorem rng3_down {n : Nat} (hn : n ≤ 100) : (-1 : Int) ≠ 0 ∧ (-1 : Int).natAbs < 1073741824 ∧ Builtin.Range.small ((n : Int) - 1) (-1) (-1) = true ∧ 0 ≤ Builtin.Range.rangeSize ((n : Int) - 1) (-1) (-1) ∧ (Builtin.Range.rangeSize ((n : Int) - 1) (-1) (-1)).toNat = n := by
  have : ∀ n : Fin 101, (-1 : Int) ≠ 0 ∧ (-1 : Int).natAbs < 1073741824 ∧ Builtin.Range.small ((n.1 : Int) - 1) (-1) (-1) = true ∧ 0 ≤ Builtin.Range.rangeSize ((n.1 : Int) - 1) (-1) (-1) ∧ (Builtin.Range.rangeSize ((n.1 : Int) - 1) (-1) (-1)).toNat = n.1 := by decide +kernel
  exact this ⟨n, by omega⟩
theorem rng3_run {G : AM} {ρ : DL.Env} {h : Hh} {i j c : Int} {n : Nat} (ea : G ρ h = some ([.dat (.int i), .dat (.int j), .dat (.int c)], h)) (hc : c ≠ 0 ∧ c.natAbs < 1073741824 ∧ Builtin.Range.small i j c = true ∧ 0 ≤ Builtin.Range.rangeSize i j c) (hn : (Builtin.Range.rangeSize i j c).toNat = n) : rng3I G ρ h = some (rngC i c n, h) := by
  unfold rng3I
  rw [ea]
  simp only [obnd]
  rw [if_pos hc, hn]
theorem rngC_get {n j : Nat} {d : D} (e : (rngC ((n : Int) - 1) (-1) n)[j]? = some d) : j < n ∧ d = .int ((n - 1 - j : Nat) : Int) := by
  unfold rngC at e
  rw [List.getElem?_map] at e
  obtain ⟨k, ek, rfl⟩ := Option.map_eq_some_iff.mp e
  have hj : j < n := by
    by_cases c : j < n
    · exact c
    · rw [List.getElem?_eq_none (by simp; omega)] at ek; cases ek
  rw [List.getElem?_range hj] at ek
  cases ek
  refine ⟨hj, ?_⟩
  congr 1
  omega
theorem rngC_len (i c : Int) (n : Nat) : (rngC i c n).length = n := by unfold rngC; simp
theorem put_get {h l : Hh} {a : Option MO} : (h ++ a :: l)[h.length]? = some a := by simp
theorem put_set {h l : Hh} {a b : Option MO} : (h ++ a :: l).set h.length b = h ++ b :: l := by
  rw [List.set_append_right _ _ (Nat.le_refl _), Nat.sub_self]; rfl
theorem frz_lst {i n : Nat} {ds : List D} {ρ : DL.Env} {h : Hh} (e1 : ρ[i]? = some (some (.ref n))) (e2 : h[n]? = some (some (.lst ds))) (e3 : (ρ.set i none).any (isR n) = false) : frz i ρ h = some (ρ.set i (some (.dat (.list ds))), h.set n none) := by
  unfold frz
  simp only [e1, e2, e3, isTab, Bool.or_self, Bool.false_eq_true, if_false, moD]
noncomputable def stayB : SM := (sSeq (sAsg (f2 (addW false) (fA intC (fCons (f2 (eqW false) (f2 idxW (fVar 0) (fVar 7)) (f2 idxW (fVar 1) (fVar 3))) (fNil))) (f2 idxW (f2 idxW (fVar 2) (fNeg (fC (.int 1)))) (f2 (addW false) (fVar 7) (f2 idxW (fVar 4) (f2 (addW false) (fVar 3) (fC (.int 1))))))) (gN 8))
    (sExpr (fM isL appendW (fVar 6) (fCons (fA maxW (fCons (f2 idxW (fVar 6) (fNeg (fC (.int 1)))) (fCons (fVar 8) (fNil)))) (fNil)))))
noncomputable def mostB : SM := (sSeq (sAsg (fA (lstW true) (fCons (f2 (mulW false) (fNeg (fC (.int 2))) (fVar 5)) (fNil))) (gN 6))
    (sSeq (sFor (rng3I (fCons (f2 subW (fVar 5) (fC (.int 1))) (fCons (fNeg (fC (.int 1))) (fCons (fNeg (fC (.int 1))) (fNil))))) (gN 7) stayB)
    (sFrz 6 (sExpr (fM isL appendW (fVar 2) (fCons (fRev false (fVar 6)) (fNil)))))))
theorem most_eq : m_most_stay = fnM false 2 9 (sSeq (sPar (fCons (f2 (addW false) (fA (m_risen) (fCons (fVar 0) (fCons (fVar 1) (fNil)))) (fA (lstW false) (fCons (fC (.int 0)) (fNil)))) (fCons (fA lenW (fCons (fVar 0) (fNil))) (fNil))) [4, 5])
    (sSeq (sAsg (fA (lstW true) (fCons (f2 (mulW false) (fA (lstW false) (fCons (fC (.int 0)) (fNil))) (f2 (addW false) (fVar 5) (fC (.int 1)))) (fNil))) (gN 2))
    (sSeq (sFor (rng3I (fCons (f2 subW (fVar 5) (fC (.int 1))) (fCons (fNeg (fC (.int 1))) (fCons (fNeg (fC (.int 1))) (fNil))))) (gN 3) mostB)
    (sFrz 2 (sRet (fRev false (fVar 2))))))) := rfl
section
variable {A B : List Str} {x y : D} {h : Hh}
theorem seq_at {x : D} {A : List Str} {v : Nat} {h : Hh} (hx : IsSeq x (A.map .str)) (hv : v < A.length) : idxW (.dat x) (.dat (.int (v : Int))) h = some (.dat (.str (A[v]?.getD ("" : Str))), h) := by
  have a : L2.atI (A.map PyData.str) (v : Int) = some (.str (A[v]?.getD ("" : Str))) := by
    apply at_nat
    rw [List.getElem?_map, List.getElem?_eq_getElem hv]; rfl
  rcases hx with rfl | rfl
  · exact idxW_list a
  · unfold idxW
    simp only [deref, a]
    rfl
theorem items_drop : ∀ {B : List Str} {k : Nat}, k < B.length → (items A B).drop k = (stv A (B[k]?.getD ("" : Str)), (nxt A B)[k]?.getD 0) :: (items A B).drop (k + 1)
  | [], _, h => by simp at h
  | [b], k, h => by
    have : k = 0 := by simp at h; omega
    subst this; rfl
  | b :: b' :: B, 0, _ => rfl
  | b :: b' :: B, k + 1, h => by
    have ih := items_drop (B := b' :: B) (k := k) (by simp at h ⊢; omega)
    rw [items, nxt_cons, List.drop_succ_cons, List.getElem?_cons_succ, List.getElem?_cons_succ, List.drop_succ_cons, ih]
def foundF (A B : List Str) (k : Nat) : List D := (List.range (k + 1)).map fun i => .list (rowF A.length ((items A B).drop (A.length - i)))
theorem foundF_succ (k : Nat) : foundF A B (k + 1) = foundF A B k ++ [.list (rowF A.length ((items A B).drop (A.length - (k + 1))))] := by
  unfold foundF
  rw [List.range_succ, List.map_append]; rfl
theorem foundF_last : ∀ k, L2.atI (foundF A B k) (-1) = some (.list (rowF A.length ((items A B).drop (A.length - k))))
  | 0 => rfl
  | k + 1 => by rw [foundF_succ]; exact atI_neg1 _ _
theorem stay_turn {G : Hh} {k v m p2 : Nat} {v8 : Option W} {S FO : List D} {L : List ((Nat → Nat) × Nat)} (hx : IsSeq x (A.map .str)) (hy : IsSeq y (B.map .str)) (lB : B.length = A.length) (hk : k < A.length) (hv : v < A.length) (g2 : G[p2]? = some (some (.lst FO))) (a2 : L2.atI FO (-1) = some (.list (rowF A.length L))) (g6 : G[m]? = some (some (.lst S))) (hS : S.length ≤ 1000) {z : Int} (a6 : L2.atI S (-1) = some (.int z))
    (n2 : m ≠ p2) (rl : (nxt A B).length = A.length) (hr : v + (nxt A B)[k]?.getD 0 ≤ A.length) :
    stayB [some (.dat x), some (.dat y), some (.ref p2), some (.dat (.int (k : Int))), some (.dat (lN (0 :: nxt A B))), some (.dat (.int (A.length : Int))), some (.ref m), some (.dat (.int (v : Int))), v8] G =
      some (.nx [some (.dat x), some (.dat y), some (.ref p2), some (.dat (.int (k : Int))), some (.dat (lN (0 :: nxt A B))), some (.dat (.int (A.length : Int))), some (.ref m), some (.dat (.int (v : Int))), some (.dat (.int ((stv A (B[k]?.getD ("" : Str)) v : Int) + F A.length L (v + (nxt A B)[k]?.getD 0))))], G.set m (some (.lst (S ++ [.int (max z ((stv A (B[k]?.getD ("" : Str)) v : Int) + F A.length L (v + (nxt A B)[k]?.getD 0)))])))) := by
  have hz : sizeLine = 16777216 := rfl
  let ρ (w8 : Option W) : DL.Env := [some (.dat x), some (.dat y), some (.ref p2), some (.dat (.int (k : Int))), some (.dat (lN (0 :: nxt A B))), some (.dat (.int (A.length : Int))), some (.ref m), some (.dat (.int (v : Int))), w8]
  have e1 : fA intC (fCons (f2 (eqW false) (f2 idxW (fVar 0) (fVar 7)) (f2 idxW (fVar 1) (fVar 3))) (fNil)) (ρ v8) G = some (.dat (.int (stv A (B[k]?.getD ("" : Str)) v : Int)), G) := by
    refine xA (xC (x2 (x2 (A := fVar 0) rfl (B := fVar 7) rfl (seq_at hx hv)) (x2 (A := fVar 1) rfl (B := fVar 3) rfl (seq_at hy (by omega))) (eqW_strs (neg := false))) xN) ?_
    rw [List.getElem?_eq_getElem hv, List.getElem?_eq_getElem (show k < B.length by omega)]
    unfold stv
    rw [List.getElem?_eq_getElem hv]
    by_cases c : A[v] = B[k]
    · simp [c, intC, ok]
    · simp [c, intC, ok]
  have e2 : f2 idxW (fVar 2) (fNeg (fC (.int 1))) (ρ v8) G = some (.dat (.list (rowF A.length L)), G) := by
    refine x2 (A := fVar 2) rfl (B := fNeg (fC (.int 1))) (y := .dat (.int (-1))) rfl ?_
    unfold idxW
    simp only [deref, g2, a2]
    rfl
  have e3 : f2 (addW false) (fVar 7) (f2 idxW (fVar 4) (f2 (addW false) (fVar 3) (fC (.int 1)))) (ρ v8) G = some (.dat (.int ((v + (nxt A B)[k]?.getD 0 : Nat) : Int)), G) := by
    have := xIx (ρ := ρ v8) (h := G) (A := fVar 4) (E := f2 (addW false) (fVar 3) (fC (.int 1))) (l := 0 :: nxt A B) (i := k + 1) rfl (xAdI (A := fVar 3) rfl (B := fC (.int 1)) rfl (by omega)) (by rw [List.length_cons]; omega)
    rw [List.getElem?_cons_succ] at this
    exact xAdI (A := fVar 7) rfl this (by omega)
  have e4 := x2 e1 (x2 e2 e3 (idxW_list (rowF_at hr))) (f := addW false) add_i
  have e5 : fA maxW (fCons (f2 idxW (fVar 6) (fNeg (fC (.int 1)))) (fCons (fVar 8) (fNil))) (ρ (some (.dat (.int ((stv A (B[k]?.getD ("" : Str)) v : Int) + F A.length L (v + (nxt A B)[k]?.getD 0)))))) G = some (.dat (.int (max z ((stv A (B[k]?.getD ("" : Str)) v : Int) + F A.length L (v + (nxt A B)[k]?.getD 0)))), G) := by
    have i6 : f2 idxW (fVar 6) (fNeg (fC (.int 1))) (ρ (some (.dat (.int ((stv A (B[k]?.getD ("" : Str)) v : Int) + F A.length L (v + (nxt A B)[k]?.getD 0)))))) G = some (.dat (.int z), G) := by
      refine x2 (A := fVar 6) rfl (B := fNeg (fC (.int 1))) (y := .dat (.int (-1))) rfl ?_
      unfold idxW
      simp only [deref, g6, a6]
      rfl
    refine xA (xC i6 (xC (E := fVar 8) rfl xN)) ?_
    generalize ((stv A (B[k]?.getD ("" : Str)) v : Int) + F A.length L (v + (nxt A B)[k]?.getD 0)) = u
    show some (W.dat (.int (if u > z then u else z)), G) = _
    rw [show (if u > z then u else z) = max z u by split <;> omega]
  unfold stayB
  refine (zA (ρ1 := ρ (some (.dat (.int ((stv A (B[k]?.getD ("" : Str)) v : Int) + F A.length L (v + (nxt A B)[k]?.getD 0)))))) e4 rfl).trans ?_
  exact zAppE (A := fVar 6) (n := m) rfl g6 e5 g6 (by omega)
end
theorem xLstR {ws : List W} {ds : List D} {h : Hh} (e : dats ws = some ds) (hl : ds.length ≤ sizeLine) : lstW true ws h = some (.ref h.length, h ++ [some (.lst ds)]) := by
  unfold lstW
  simp only [e, hl, if_true]
  rfl
theorem isR_dat {m : Nat} {d : D} : isR m (some (.dat d)) = false := rfl
theorem isR_none {m : Nat} : isR m none = false := rfl
theorem isR_ne {m n : Nat} (h : n ≠ m) : isR m (some (.ref n)) = false := by
  unfold isR
  exact decide_eq_false h
section
variable {A B : List Str} {x y : D} {h : Hh}
theorem nxt_le (A B : List Str) (k : Nat) : (nxt A B)[k]?.getD 0 ≤ 1 := by
  by_cases c : B = []
  · subst c; simp [nxt, items]
  · rw [nxt_zip A c]
    by_cases d : k < (zipR A B).length
    · rw [List.getElem?_append_left d, List.getElem?_eq_getElem d]
      show (zipR A B)[k] ≤ 1
      have m := List.getElem_mem d
      generalize (zipR A B)[k] = z at m ⊢
      unfold zipR at m
      obtain ⟨q, _, rfl⟩ := List.mem_map.mp m
      split <;> omega
    · rw [List.getElem?_append_right (by omega)]
      by_cases e : k - (zipR A B).length = 0
      · rw [e]; simp
      · rw [List.getElem?_eq_none (by simp; omega)]; simp
theorem inner_loop {P : Hh} {k : Nat} {FO : List D} {p2 : Nat} {u7 u8 : Option W} (j7 : ∀ m, isR m u7 = false) (j8 : ∀ m, isR m u8 = false) (hx : IsSeq x (A.map .str)) (hy : IsSeq y (B.map .str)) (lB : B.length = A.length) (hl : A.length ≤ 100) (hk : k < A.length) (g2 : P[p2]? = some (some (.lst FO))) (a2 : L2.atI FO (-1) = some (.list (rowF A.length ((items A B).drop (k + 1))))) :
    ∃ v7 v8 : Option W, (∀ m, isR m v7 = false) ∧ (∀ m, isR m v8 = false) ∧ forL (gN 7) stayB (rngC ((A.length : Int) - 1) (-1) A.length) [some (.dat x), some (.dat y), some (.ref p2), some (.dat (.int (k : Int))), some (.dat (lN (0 :: nxt A B))), some (.dat (.int (A.length : Int))), some (.ref P.length), u7, u8] (P ++ [some (.lst (someF A.length (stv A (B[k]?.getD ("" : Str))) ((nxt A B)[k]?.getD 0) (F A.length ((items A B).drop (k + 1))) 0))]) =
      some (.nx [some (.dat x), some (.dat y), some (.ref p2), some (.dat (.int (k : Int))), some (.dat (lN (0 :: nxt A B))), some (.dat (.int (A.length : Int))), some (.ref P.length), v7, v8], P ++ [some (.lst (someF A.length (stv A (B[k]?.getD ("" : Str))) ((nxt A B)[k]?.getD 0) (F A.length ((items A B).drop (k + 1))) A.length))]) := by
  have pl := lt_of_get g2
  have rl : (nxt A B).length = A.length := by rw [nxt_len, lB]
  have nl := nxt_le A B k
  obtain ⟨ρ', g', e, rfl, v7, v8, i7, i8, rfl⟩ := forL_end (k := gN 7) (body := stayB) (fun j ρ g => g = P ++ [some (.lst (someF A.length (stv A (B[k]?.getD ("" : Str))) ((nxt A B)[k]?.getD 0) (F A.length ((items A B).drop (k + 1))) j))] ∧ ∃ v7 v8 : Option W, (∀ m, isR m v7 = false) ∧ (∀ m, isR m v8 = false) ∧ ρ = [some (.dat x), some (.dat y), some (.ref p2), some (.dat (.int (k : Int))), some (.dat (lN (0 :: nxt A B))), some (.dat (.int (A.length : Int))), some (.ref P.length), v7, v8])
    (ds := rngC ((A.length : Int) - 1) (-1) A.length) (ρ := [some (.dat x), some (.dat y), some (.ref p2), some (.dat (.int (k : Int))), some (.dat (lN (0 :: nxt A B))), some (.dat (.int (A.length : Int))), some (.ref P.length), u7, u8]) (h := P ++ [some (.lst (someF A.length (stv A (B[k]?.getD ("" : Str))) ((nxt A B)[k]?.getD 0) (F A.length ((items A B).drop (k + 1))) 0))]) ⟨rfl, u7, u8, j7, j8, rfl⟩ (by
      rintro j d ej ρ g ⟨rfl, v7, v8, i7, i8, rfl⟩
      obtain ⟨hj, rfl⟩ := rngC_get ej
      have t := stay_turn (x := x) (y := y) (A := A) (B := B) (k := k) (v := A.length - 1 - j) (m := P.length) (p2 := p2) (v8 := v8) (G := P ++ [some (.lst (someF A.length (stv A (B[k]?.getD ("" : Str))) ((nxt A B)[k]?.getD 0) (F A.length ((items A B).drop (k + 1))) j))]) (S := someF A.length (stv A (B[k]?.getD ("" : Str))) ((nxt A B)[k]?.getD 0) (F A.length ((items A B).drop (k + 1))) j) (FO := FO) (L := (items A B).drop (k + 1)) hx hy lB hk (by omega) (by rw [List.getElem?_append_left pl]; exact g2) a2 (app_get rfl) (by unfold someF; simp; omega) (someF_last _ _ _ _ j) (by omega) rl (by omega)
      rw [app_set rfl] at t
      refine ⟨_, _, _, rfl, t, ?_, some (.dat (.int ((A.length - 1 - j : Nat) : Int))), _, fun _ => rfl, fun _ => rfl, rfl⟩
      rw [someF_succ, Fk, show A.length - (j + 1) = A.length - 1 - j by omega])
  rw [rngC_len] at e
  exact ⟨v7, v8, i7, i8, e⟩
theorem outer_turn {k : Nat} {u6 u7 u8 : Option W} (hx : IsSeq x (A.map .str)) (hy : IsSeq y (B.map .str)) (lB : B.length = A.length) (hl : A.length ≤ 100) (hk : k < A.length) (j7 : ∀ m, isR m u7 = false) (j8 : ∀ m, isR m u8 = false) :
    ∃ v6 v7 v8 : Option W, (∀ m, isR m v6 = false) ∧ (∀ m, isR m v7 = false) ∧ (∀ m, isR m v8 = false) ∧ mostB [some (.dat x), some (.dat y), some (.ref h.length), some (.dat (.int ((A.length - 1 - k : Nat) : Int))), some (.dat (lN (0 :: nxt A B))), some (.dat (.int (A.length : Int))), u6, u7, u8] (h ++ some (.lst (foundF A B k)) :: List.replicate k none) =
      some (.nx [some (.dat x), some (.dat y), some (.ref h.length), some (.dat (.int ((A.length - 1 - k : Nat) : Int))), some (.dat (lN (0 :: nxt A B))), some (.dat (.int (A.length : Int))), v6, v7, v8], h ++ some (.lst (foundF A B (k + 1))) :: List.replicate (k + 1) none) := by
  have hz : sizeLine = 16777216 := rfl
  have d1 := rng3_down hl
  let P : Hh := h ++ some (.lst (foundF A B k)) :: List.replicate k none
  have g2 : P[h.length]? = some (some (.lst (foundF A B k))) := put_get
  have a2 := foundF_last (A := A) (B := B) k
  rw [show A.length - k = A.length - 1 - k + 1 by omega] at a2
  obtain ⟨v7, v8, i7, i8, e⟩ := inner_loop (x := x) (y := y) (A := A) (B := B) (P := P) (k := A.length - 1 - k) (p2 := h.length) (u7 := u7) (u8 := u8) j7 j8 hx hy lB hl (by omega) g2 a2
  have pl : h.length < P.length := lt_of_get g2
  let S : List D := someF A.length (stv A (B[A.length - 1 - k]?.getD ("" : Str))) ((nxt A B)[A.length - 1 - k]?.getD 0) (F A.length ((items A B).drop (A.length - 1 - k + 1))) A.length
  refine ⟨some (.dat (.list S)), v7, v8, fun _ => rfl, i7, i8, ?_⟩
  unfold mostB
  have e1 : fA (lstW true) (fCons (f2 (mulW false) (fNeg (fC (.int 2))) (fVar 5)) (fNil)) [some (.dat x), some (.dat y), some (.ref h.length), some (.dat (.int ((A.length - 1 - k : Nat) : Int))), some (.dat (lN (0 :: nxt A B))), some (.dat (.int (A.length : Int))), u6, u7, u8] P = some (.ref P.length, P ++ [some (.lst [.int (-(2 * A.length : Int))])]) := by
    refine xA (xC (x2 (A := fNeg (fC (.int 2))) (x := .dat (.int (-2))) rfl (B := fVar 5) rfl (mul_i (by omega) (by omega))) xN) ?_
    rw [show (-2 : Int) * (A.length : Int) = -(2 * A.length : Int) by omega]
    exact xLstR rfl (by show 1 ≤ sizeLine; decide)
  refine (zA (ρ1 := [some (.dat x), some (.dat y), some (.ref h.length), some (.dat (.int ((A.length - 1 - k : Nat) : Int))), some (.dat (lN (0 :: nxt A B))), some (.dat (.int (A.length : Int))), some (.ref P.length), u7, u8]) e1 rfl).trans ?_
  refine (zF (rng3_run (i := (A.length : Int) - 1) (j := -1) (c := -1) (n := A.length) (xC (xSub (A := fVar 5) rfl (B := fC (.int 1)) rfl rfl) (xC (E := fNeg (fC (.int 1))) rfl (xC (E := fNeg (fC (.int 1))) rfl xN))) ⟨d1.1, d1.2.1, d1.2.2.1, d1.2.2.2.1⟩ d1.2.2.2.2) e).trans ?_
  have fz := frz_lst (i := 6) (n := P.length) (ds := S) (ρ := [some (.dat x), some (.dat y), some (.ref h.length), some (.dat (.int ((A.length - 1 - k : Nat) : Int))), some (.dat (lN (0 :: nxt A B))), some (.dat (.int (A.length : Int))), some (.ref P.length), v7, v8]) (h := P ++ [some (.lst S)]) rfl (app_get rfl) (by
    simp only [List.set_cons_succ, List.set_cons_zero, List.any_cons, List.any_nil, isR_dat, isR_none, i7, i8, isR_ne (show h.length ≠ P.length by omega), Bool.or_self])
  rw [app_set rfl] at fz
  refine (zZ fz).trans ?_
  have rv : S.reverse = rowF A.length ((items A B).drop (A.length - (k + 1))) := by
    show (someF _ _ _ _ _).reverse = _
    rw [someF_rev, show A.length - (k + 1) = A.length - 1 - k by omega, items_drop (A := A) (B := B) (k := A.length - 1 - k) (by omega)]
  have g3 : (P ++ [none])[h.length]? = some (some (.lst (foundF A B k))) := by rw [List.getElem?_append_left pl]; exact g2
  have ap := zAppE (A := fVar 2) (E := fRev false (fVar 6)) (n := h.length) (ds := foundF A B k) (d := PyData.list S.reverse) (ρ := [some (.dat x), some (.dat y), some (.ref h.length), some (.dat (.int ((A.length - 1 - k : Nat) : Int))), some (.dat (lN (0 :: nxt A B))), some (.dat (.int (A.length : Int))), some (.dat (.list S)), v7, v8]) (h := P ++ [none]) (h1 := P ++ [none]) (h2 := P ++ [none]) rfl g3 rfl g3 (by unfold foundF; simp; omega)
  refine ap.trans ?_
  have hp : (P ++ [none]).set h.length (some (MO.lst (foundF A B k ++ [PyData.list S.reverse]))) = h ++ some (.lst (foundF A B (k + 1))) :: List.replicate (k + 1) none := by
    show ((h ++ some (MO.lst (foundF A B k)) :: List.replicate k none) ++ [none]).set h.length _ = _
    rw [List.append_assoc, List.cons_append, put_set, foundF_succ, rv, List.replicate_succ']
  rw [hp]
def bestF (A B : List Str) : List D := (List.range (A.length + 1)).map fun i => .list (rowF A.length ((items A B).drop i))
theorem foundF_rev (A B : List Str) : (foundF A B A.length).reverse = bestF A B := by
  unfold foundF bestF
  apply List.ext_getElem (by simp)
  intro i h1 h2
  rw [List.getElem_reverse, List.getElem_map, List.getElem_map, List.getElem_range, List.getElem_range]
  simp at h1
  congr 2
  simp
  congr 1
  omega
theorem most_ok (hx : IsSeq x (A.map .str)) (hy : IsSeq y (B.map .str)) (p : B.Perm A) (nd : A.Nodup) (h0 : 0 < A.length) (hl : A.length ≤ 100) : m_most_stay [.dat x, .dat y] h = some (.dat (.list (bestF A B)), h) := by
  have hz : sizeLine = 16777216 := rfl
  have lB := p.length_eq
  have hB : B ≠ [] := fun z => by rw [z] at lB; simp at lB; omega
  have d1 := rng3_down hl
  have e1 := risen_ok (h := h) hx hy nd (by omega) p
  have lr : (rsN A B).length = A.length := by
    have := nxt_len A B
    rw [nxt_zip A hB, List.length_append] at this
    unfold rsN
    rw [List.length_cons]
    simp at this
    omega
  have e2 : f2 (addW false) (fA (m_risen) (fCons (fVar 0) (fCons (fVar 1) (fNil)))) (fA (lstW false) (fCons (fC (.int 0)) (fNil))) [some (.dat x), some (.dat y), none, none, none, none, none, none, none] h = some (.dat (lN (0 :: nxt A B)), h) := by
    have q : lN (0 :: nxt A B) = .list (intsL (rsN A B) ++ [.int 0]) := by
      rw [nxt_zip A hB]
      show PyData.list (intsL (rsN A B ++ [0])) = _
      unfold intsL
      rw [List.map_append]; rfl
    rw [q]
    exact x2 (xA (xC (E := fVar 0) rfl (xC (E := fVar 1) rfl xN)) e1) (xA (xC (E := fC (.int 0)) rfl xN) (xLst (ds := [.int 0]) rfl (by decide))) (xAdd (by rw [intsL_len, lr]; simp; omega))
  have lx : lenW [.dat x] h = some (.dat (.int (A.length : Int)), h) := by
    rcases hx with rfl | rfl <;> (unfold lenW; simp only [deref, List.length_map]; rfl)
  have zs : PyData.list (List.replicate (A.length + 1) (.int 0)) = .list (rowF A.length []) := by rw [rowF_nil]
  have f0 : foundF A B 0 = [.list (rowF A.length [])] := by
    unfold foundF
    simp only [List.range_succ, List.range_zero, List.nil_append, List.map_cons, List.map_nil, Nat.sub_zero]
    rw [List.drop_eq_nil_of_le (by rw [items_len, lB]; exact Nat.le_refl _)]
  let V (v2 v3 v6 v7 v8 : Option W) : DL.Env := [some (.dat x), some (.dat y), v2, v3, some (.dat (lN (0 :: nxt A B))), some (.dat (.int (A.length : Int))), v6, v7, v8]
  have e3 : fA (lstW true) (fCons (f2 (mulW false) (fA (lstW false) (fCons (fC (.int 0)) (fNil))) (f2 (addW false) (fVar 5) (fC (.int 1)))) (fNil)) (V none none none none none) h = some (.ref h.length, h ++ [some (.lst (foundF A B 0))]) := by
    refine xA (xC (x2 (xA (xC (E := fC (.int 0)) rfl xN) (xLst (ds := [.int 0]) rfl (by decide))) (xAdI (A := fVar 5) rfl (B := fC (.int 1)) rfl (k := ((A.length + 1 : Nat) : Int)) (by omega)) (r := some (.dat (.list (rowF A.length [])), h)) ?_) xN) ?_
    · rw [← zs, ← replD]
      unfold mulW
      simp only [deref]
      rw [if_pos (by simp; omega), Int.toNat_natCast]
      rfl
    · rw [f0]
      exact xLstR rfl (by show 1 ≤ sizeLine; decide)
  obtain ⟨ρ', g', e, rfl, v3, v6, v7, v8, i3, i6, i7, i8, rfl⟩ := forL_end (k := gN 3) (body := mostB) (fun j ρ g => g = h ++ some (.lst (foundF A B j)) :: List.replicate j none ∧ ∃ v3 v6 v7 v8 : Option W, (∀ m, isR m v3 = false) ∧ (∀ m, isR m v6 = false) ∧ (∀ m, isR m v7 = false) ∧ (∀ m, isR m v8 = false) ∧ ρ = V (some (.ref h.length)) v3 v6 v7 v8)
    (ds := rngC ((A.length : Int) - 1) (-1) A.length) (ρ := V (some (.ref h.length)) none none none none) (h := h ++ [some (.lst (foundF A B 0))]) ⟨rfl, none, none, none, none, fun _ => rfl, fun _ => rfl, fun _ => rfl, fun _ => rfl, rfl⟩ (by
      rintro j d ej ρ g ⟨rfl, v3, v6, v7, v8, i3, i6, i7, i8, rfl⟩
      obtain ⟨hj, rfl⟩ := rngC_get ej
      obtain ⟨w6, w7, w8, k6, k7, k8, t⟩ := outer_turn (x := x) (y := y) (A := A) (B := B) (h := h) (k := j) (u6 := v6) (u7 := v7) (u8 := v8) hx hy lB hl hj i7 i8
      exact ⟨_, _, _, rfl, t, rfl, _, _, _, _, fun _ => rfl, k6, k7, k8, rfl⟩)
  rw [rngC_len] at e
  have fz := frz_lst (i := 2) (n := h.length) (ds := foundF A B A.length) (ρ := V (some (.ref h.length)) v3 v6 v7 v8) (h := h ++ some (.lst (foundF A B A.length)) :: List.replicate A.length none) rfl put_get (by
    show List.any [some (.dat x), some (.dat y), none, v3, some (.dat (lN (0 :: nxt A B))), some (.dat (.int (A.length : Int))), v6, v7, v8] (isR h.length) = false
    simp only [List.any_cons, List.any_nil, isR_dat, isR_none, i3, i6, i7, i8, Bool.or_self])
  rw [put_set] at fz
  have lv := leave_dat (h := h) (h' := h ++ none :: List.replicate A.length none) (d := .list (bestF A B)) (by rw [List.take_left])
  rw [List.take_left] at lv
  rw [most_eq]
  refine fnM_rt (w := .dat (.list (bestF A B))) (h' := h ++ none :: List.replicate A.length none) ?_ rfl lv
  refine (zP (is := [4, 5]) (ρ1 := V none none none none none) (xC e2 (xC (xA (xC (E := fVar 0) rfl xN) lx) xN)) rfl rfl).trans ?_
  refine (zA (ρ1 := V (some (.ref h.length)) none none none none) e3 rfl).trans ?_
  refine (zF (rng3_run (i := (A.length : Int) - 1) (j := -1) (c := -1) (n := A.length) (xC (xSub (A := fVar 5) rfl (B := fC (.int 1)) rfl rfl) (xC (E := fNeg (fC (.int 1))) rfl (xC (E := fNeg (fC (.int 1))) rfl xN))) ⟨d1.1, d1.2.1, d1.2.2.1, d1.2.2.2.1⟩ d1.2.2.2.2) e).trans ?_
  refine (zZ fz).trans ?_
  rw [← foundF_rev]
  exact zR rfl
theorem bestF_at {i : Nat} (hi : i ≤ A.length) : L2.atI (bestF A B) (i : Int) = some (.list (rowF A.length ((items A B).drop i))) := by
  apply at_nat
  unfold bestF
  rw [List.getElem?_map, List.getElem?_range (by omega)]; rfl
theorem xBest {ρ : DL.Env} {C E G : EM} {i v : Nat} (ha : C ρ h = some (.dat (.list (bestF A B)), h)) (he : E ρ h = some (.dat (.int (i : Int)), h)) (hg : G ρ h = some (.dat (.int (v : Int)), h)) (hi : i ≤ A.length) (hv : v ≤ A.length) : f2 idxW (f2 idxW C E) G ρ h = some (.dat (.int (F A.length ((items A B).drop i) v)), h) :=
  x2 (x2 ha he (idxW_list (bestF_at hi))) hg (idxW_list (rowF_at hv))
theorem fewest_ok (hx : IsSeq x (A.map .str)) (hy : IsSeq y (B.map .str)) (p : B.Perm A) (nd : A.Nodup) (h0 : 0 < A.length) (hl : A.length ≤ 100) (ht : Txts A) : m_fewest_goers [.dat x, .dat y] h = some (.dat (.int ((A.length : Int) - FW A B)), h) := by
  have e1 := falls_ok (h := h) hx hy p.symm nd (by omega) ht
  have e2 := most_ok (h := h) hx hy p nd h0 hl
  have lx : lenW [.dat x] h = some (.dat (.int (A.length : Int)), h) := by
    rcases hx with rfl | rfl <;> (unfold lenW; simp only [deref, List.length_map]; rfl)
  have ex : sExpr (fA (m_falls) (fCons (fVar 0) (fCons (fVar 1) (fNil)))) [some (.dat x), some (.dat y)] h = some (.nx [some (.dat x), some (.dat y)], h) := by
    unfold sExpr
    simp only [xA (xC (E := fVar 0) (ρ := [some (.dat x), some (.dat y)]) rfl (xC (E := fVar 1) rfl xN)) e1, sbnd]
  have b := xBest (A := A) (B := B) (ρ := [some (.dat x), some (.dat y)]) (h := h) (C := fA (m_most_stay) (fCons (fVar 0) (fCons (fVar 1) (fNil)))) (E := fC (.int 0)) (G := fC (.int 0)) (i := 0) (v := 0) (xA (xC (E := fVar 0) rfl (xC (E := fVar 1) rfl xN)) e2) rfl rfl (Nat.zero_le _) (Nat.zero_le _)
  rw [List.drop_zero] at b
  unfold m_fewest_goers
  refine fnM_rt (w := .dat (.int ((A.length : Int) - FW A B))) (h' := h) ?_ rfl leave_same'
  refine (zS ex).trans ?_
  exact zR (xSub (xA (xC (E := fVar 0) rfl xN) lx) b rfl)
end
section
variable {ρ : DL.Env} {h h1 : Hh}
theorem xAug {g : Int → Int → Option Int} {i : Nat} {f : EM} {a b c : Int} (e1 : ρ[i]? = some (some (.dat (.int a)))) (e2 : f ρ h = some (.dat (.int b), h1)) (e3 : g a b = some c) : sAug g i f ρ h = some (.nx (ρ.set i (some (.dat (.int c)))), h1) := by
  unfold sAug
  simp only [e1, e2, sbnd, e3]
theorem zAug {g : Int → Int → Option Int} {i : Nat} {f : EM} {rest : SM} {a b c : Int} {ρ1 : DL.Env} (e1 : ρ[i]? = some (some (.dat (.int a)))) (e2 : f ρ h = some (.dat (.int b), h1)) (e3 : g a b = some c) (hr : ρ.set i (some (.dat (.int c))) = ρ1) : sSeq (sAug g i f) rest ρ h = rest ρ1 h1 := by
  rw [← hr]
  exact zS (xAug e1 e2 e3)
end
theorem xAe {E : EM} {k : TM} {w : W} {ρ ρ1 : DL.Env} {h h1 : Hh} (he : E ρ h = some (w, h1)) (hk : k w ρ h1 = some ρ1) : sAsg E k ρ h = some (.nx ρ1, h1) := by
  unfold sAsg
  simp only [he, sbnd, hk]
theorem lenX {x : D} {A : List Str} {h : Hh} (hx : IsSeq x (A.map .str)) : lenW [.dat x] h = some (.dat (.int (A.length : Int)), h) := by
  rcases hx with rfl | rfl <;> (unfold lenW; simp only [deref, List.length_map]; rfl)
theorem enumX {x : D} {ds : List D} {E : EM} {ρ : DL.Env} {h h1 : Hh} (e : E ρ h = some (.dat x, h1)) (hx : IsSeq x ds) : enumA (fCons E (fNil)) ρ h = some (enumD 0 ds, h1) := by
  unfold enumA
  rw [xC e xN]
  rcases hx with rfl | rfl <;> rfl
theorem enumS_get {B : List Str} {j : Nat} {d : D} (e : (enumD 0 (B.map .str))[j]? = some d) : ∃ hj : j < B.length, d = .tuple [.int (j : Int), .str B[j]] := by
  obtain ⟨z, ez, rfl⟩ := enumD_get e
  rw [List.getElem?_map] at ez
  obtain ⟨s, es, rfl⟩ := Option.map_eq_some_iff.mp ez
  obtain ⟨hj, rfl⟩ := List.getElem?_eq_some_iff.mp es
  exact ⟨hj, by rw [Nat.zero_add]⟩
theorem enumI_get {l : List Nat} {j : Nat} {d : D} (e : (enumD 0 (intsL l))[j]? = some d) : ∃ hj : j < l.length, d = .tuple [.int (j : Int), .int (l[j] : Int)] := by
  obtain ⟨z, ez, rfl⟩ := enumD_get e
  unfold intsL at ez
  rw [List.getElem?_map] at ez
  obtain ⟨s, es, rfl⟩ := Option.map_eq_some_iff.mp ez
  obtain ⟨hj, rfl⟩ := List.getElem?_eq_some_iff.mp es
  exact ⟨hj, by rw [Nat.zero_add]⟩
theorem intsL_snoc {l : List Nat} {v : Nat} : intsL l ++ [.int (v : Int)] = intsL (l ++ [v]) := by unfold intsL; rw [List.map_append]; rfl
theorem Gr.len {n : Nat} : ∀ {L : List ((Nat → Nat) × Nat)} {lo : Nat} {vs : List Nat}, Gr n L lo vs → vs.length = L.length
  | [], _, [], _ => rfl
  | (_, _) :: L, _, _ :: vs, h => by rw [List.length_cons, List.length_cons, Gr.len h.2.2.2.2]
  | [], _, _ :: _, h => h.elim
  | _ :: _, _, [], h => h.elim
noncomputable def stE : EM := fA intC (fCons (f2 (eqW false) (f2 idxW (fVar 0) (fVar 9)) (fVar 8)) (fNil))
noncomputable def fewT : BM := (fB (f2 (eqW true) (f2 (addW false) stE (f2 idxW (f2 idxW (fVar 3) (f2 (addW false) (fVar 7) (fC (.int 1)))) (f2 (addW false) (fVar 9) (f2 idxW (fVar 4) (f2 (addW false) (fVar 7) (fC (.int 1))))))) (fVar 2)))
noncomputable def fewB : SM := (sSeq (sAsg (fVar 6) (gN 9))
    (sSeq (sWhile 100000 fewT (sAug gAdd 9 (fC (.int 1))))
    (sSeq (sAug gSub 2 stE)
    (sSeq (sExpr (fM isL appendW (fVar 5) (fCons (fVar 9) (fNil))))
    (sAsg (f2 (addW false) (fVar 9) (f2 idxW (fVar 4) (f2 (addW false) (fVar 7) (fC (.int 1))))) (gN 6))))))
theorem few_eq : m_call_of_fewest = fnM false 2 10 (sSeq (sExpr (fA (m_falls) (fCons (fVar 0) (fCons (fVar 1) (fNil)))))
    (sSeq (sPar (fCons (fA (m_most_stay) (fCons (fVar 0) (fCons (fVar 1) (fNil)))) (fCons (f2 (addW false) (fA (m_risen) (fCons (fVar 0) (fCons (fVar 1) (fNil)))) (fA (lstW false) (fCons (fC (.int 0)) (fNil)))) (fCons (fA (lstW true) (fNil)) (fCons (fC (.int 0)) (fNil))))) [3, 4, 5, 6])
    (sSeq (sAsg (f2 idxW (f2 idxW (fVar 3) (fC (.int 0))) (fC (.int 0))) (gN 2))
    (sSeq (sFor (enumA (fCons (fVar 1) (fNil))) (gT 2 (gC (gN 7) (gC (gN 8) (gE)))) fewB)
    (sFrz 5 (sRet (fA (m_call_by) (fCons (fVar 0) (fCons (fVar 1) (fCons (fVar 5) (fNil))))))))))) := rfl
section
variable {A B : List Str} {x y : D} {h : Hh}
abbrev E10 (A B : List Str) (x y : D) (m : Nat) (left : Int) (v6 v7 v8 v9 : Option W) : DL.Env := [some (.dat x), some (.dat y), some (.dat (.int left)), some (.dat (.list (bestF A B))), some (.dat (lN (0 :: nxt A B))), some (.ref m), v6, v7, v8, v9]
theorem stE_ok {m j u : Nat} {left : Int} {v6 v7 : Option W} {g : Hh} (hx : IsSeq x (A.map .str)) (hu : u < A.length) {b : Str} : stE (E10 A B x y m left v6 v7 (some (.dat (.str b))) (some (.dat (.int (u : Int))))) g = some (.dat (.int (stv A b u : Int)), g) := by
  unfold stE
  refine xA (xC (x2 (x2 (A := fVar 0) rfl (B := fVar 9) rfl (seq_at hx hu)) (B := fVar 8) rfl (eqW_strs (neg := false))) xN) ?_
  rw [List.getElem?_eq_getElem hu]
  unfold stv
  rw [List.getElem?_eq_getElem hu]
  by_cases c : A[u] = b
  · simp [c, intC, ok]
  · simp [c, intC, ok]
theorem riseE_ok {m j u : Nat} {left : Int} {v6 v8 : Option W} {g : Hh} (hj : j < (nxt A B).length) : f2 (addW false) (fVar 9) (f2 idxW (fVar 4) (f2 (addW false) (fVar 7) (fC (.int 1)))) (E10 A B x y m left v6 (some (.dat (.int (j : Int)))) v8 (some (.dat (.int (u : Int))))) g = some (.dat (.int ((u + (nxt A B)[j]?.getD 0 : Nat) : Int)), g) := by
  have := xIx (ρ := E10 A B x y m left v6 (some (.dat (.int (j : Int)))) v8 (some (.dat (.int (u : Int))))) (h := g) (A := fVar 4) (E := f2 (addW false) (fVar 7) (fC (.int 1))) (l := 0 :: nxt A B) (i := j + 1) rfl (xAdI (A := fVar 7) rfl (B := fC (.int 1)) rfl (by omega)) (by rw [List.length_cons]; omega)
  rw [List.getElem?_cons_succ] at this
  exact xAdI (A := fVar 9) rfl this (by omega)
theorem fewT_ok {m j u : Nat} {left : Int} {v6 : Option W} {g : Hh} (hx : IsSeq x (A.map .str)) (lB : B.length = A.length) (hj : j < B.length) (hu : u < A.length) :
    fewT (E10 A B x y m left v6 (some (.dat (.int (j : Int)))) (some (.dat (.str B[j]))) (some (.dat (.int (u : Int))))) g = some (!decide ((stv A B[j] u : Int) + F A.length ((items A B).drop (j + 1)) (u + (nxt A B)[j]?.getD 0) = left), g) := by
  have nl := nxt_le A B j
  unfold fewT
  refine xB (x2 (x2 (stE_ok (j := j) hx hu) (xBest (C := fVar 3) rfl (xAdI (A := fVar 7) rfl (B := fC (.int 1)) rfl (k := ((j + 1 : Nat) : Int)) (by omega)) (riseE_ok (by rw [nxt_len]; omega)) (by omega) (by omega)) add_i) (B := fVar 2) rfl ?_)
  rw [eqW_ints, if_pos rfl]; rfl
theorem few_turn {m j lo v : Nat} {v7 v8 v9 : Option W} {S : List D} {g : Hh} (hx : IsSeq x (A.map .str)) (lB : B.length = A.length) (hl : A.length ≤ 100) (hj : j < B.length) (h1 : lo ≤ v) (h2 : v < A.length) (h3 : (stv A B[j] v : Int) + F A.length ((items A B).drop (j + 1)) (v + (nxt A B)[j]?.getD 0) = F A.length ((items A B).drop j) lo)
    (h4 : ∀ u, lo ≤ u → u < v → (stv A B[j] u : Int) + F A.length ((items A B).drop (j + 1)) (u + (nxt A B)[j]?.getD 0) ≠ F A.length ((items A B).drop j) lo) (g5 : g[m]? = some (some (.lst S))) (hS : S.length ≤ 1000) :
    fewB (E10 A B x y m (F A.length ((items A B).drop j) lo) (some (.dat (.int (lo : Int)))) (some (.dat (.int (j : Int)))) (some (.dat (.str B[j]))) v9) g =
      some (.nx (E10 A B x y m (F A.length ((items A B).drop (j + 1)) (v + (nxt A B)[j]?.getD 0)) (some (.dat (.int ((v + (nxt A B)[j]?.getD 0 : Nat) : Int)))) (some (.dat (.int (j : Int)))) (some (.dat (.str B[j]))) (some (.dat (.int (v : Int))))), g.set m (some (.lst (S ++ [.int (v : Int)])))) := by
  have hz : sizeLine = 16777216 := rfl
  let left := F A.length ((items A B).drop j) lo
  obtain ⟨ρ', h', ew, rfl, rfl⟩ := whileL_run (t := fewT) (body := sAug gAdd 9 (fC (.int 1))) (fun i ρ g' => g' = g ∧ ρ = E10 A B x y m left (some (.dat (.int (lo : Int)))) (some (.dat (.int (j : Int)))) (some (.dat (.str B[j]))) (some (.dat (.int ((lo + i : Nat) : Int))))) (v - lo) (n := 0) (fuel := 100000) (ρ := E10 A B x y m left (some (.dat (.int (lo : Int)))) (some (.dat (.int (j : Int)))) (some (.dat (.str B[j]))) (some (.dat (.int (lo : Int))))) (h := g) (by omega) ⟨rfl, rfl⟩ (by
      rintro i ρ g' _ hi ⟨rfl, rfl⟩
      have t := fewT_ok (x := x) (y := y) (A := A) (B := B) (m := m) (j := j) (u := lo + i) (left := left) (v6 := some (.dat (.int (lo : Int)))) (g := g') hx lB hj (by omega)
      rw [decide_eq_false (h4 (lo + i) (by omega) (by omega))] at t
      exact ⟨g', E10 A B x y m left (some (.dat (.int (lo : Int)))) (some (.dat (.int (j : Int)))) (some (.dat (.str B[j]))) (some (.dat (.int ((lo + (i + 1) : Nat) : Int)))), g', t, xAug (b := 1) (c := ((lo + (i + 1) : Nat) : Int)) rfl rfl (show some ((lo + i : Nat) + 1 : Int) = some ((lo + (i + 1) : Nat) : Int) from rfl), rfl, rfl⟩)
    (by
      rintro ρ g' ⟨rfl, rfl⟩
      have t := fewT_ok (x := x) (y := y) (A := A) (B := B) (m := m) (j := j) (u := lo + (0 + (v - lo))) (left := left) (v6 := some (.dat (.int (lo : Int)))) (g := g') hx lB hj (by omega)
      rw [show lo + (0 + (v - lo)) = v by omega] at t ⊢
      rw [decide_eq_true h3] at t
      exact t)
  rw [show lo + (0 + (v - lo)) = v by omega] at ew
  unfold fewB
  refine (zA (E := fVar 6) (ρ1 := E10 A B x y m left (some (.dat (.int (lo : Int)))) (some (.dat (.int (j : Int)))) (some (.dat (.str B[j]))) (some (.dat (.int (lo : Int))))) rfl rfl).trans ?_
  refine (zS (a := sWhile 100000 fewT (sAug gAdd 9 (fC (.int 1)))) ew).trans ?_
  refine (zAug (i := 2) (ρ1 := E10 A B x y m (F A.length ((items A B).drop (j + 1)) (v + (nxt A B)[j]?.getD 0)) (some (.dat (.int (lo : Int)))) (some (.dat (.int (j : Int)))) (some (.dat (.str B[j]))) (some (.dat (.int (v : Int))))) rfl (stE_ok (j := j) hx h2) (c := F A.length ((items A B).drop (j + 1)) (v + (nxt A B)[j]?.getD 0)) (show some (_ - _) = some _ by congr 1; omega) rfl).trans ?_
  refine (zApp (A := fVar 5) (E := fVar 9) (n := m) (ds := S) (d := .int (v : Int)) rfl g5 rfl g5 (by omega)).trans ?_
  exact xAe (riseE_ok (by rw [nxt_len]; omega)) rfl
theorem best_call_ok {vs : List Nat} (hx : IsSeq x (A.map .str)) (hy : IsSeq y (B.map .str)) (p : B.Perm A) (nd : A.Nodup) (h0 : 0 < A.length) (hl : A.length ≤ 100) (ht : Txts A) (gr : Gr A.length (items A B) 0 vs) : m_call_of_fewest [.dat x, .dat y] h = some (.dat (cT (callV A B vs)), h) := by
  have hz : sizeLine = 16777216 := rfl
  have lB := p.length_eq
  have hB : B ≠ [] := fun z => by rw [z] at lB; simp at lB; omega
  have e1 := falls_ok (h := h) hx hy p.symm nd (by omega) ht
  have e2 := most_ok (h := h) hx hy p nd h0 hl
  have e3 := risen_ok (h := h) hx hy nd (by omega) p
  have lv : vs.length = A.length := by rw [gr.len, items_len, lB]
  have lr : (rsN A B).length = A.length := by
    have := nxt_len A B
    rw [nxt_zip A hB, List.length_append] at this
    unfold rsN
    rw [List.length_cons]
    simp at this
    omega
  let V0 (v2 v3 v4 v5 v6 : Option W) : DL.Env := [some (.dat x), some (.dat y), v2, v3, v4, v5, v6, none, none, none]
  have e4 : f2 (addW false) (fA (m_risen) (fCons (fVar 0) (fCons (fVar 1) (fNil)))) (fA (lstW false) (fCons (fC (.int 0)) (fNil))) (V0 none none none none none) h = some (.dat (lN (0 :: nxt A B)), h) := by
    have q : lN (0 :: nxt A B) = .list (intsL (rsN A B) ++ [.int 0]) := by
      rw [nxt_zip A hB]
      show PyData.list (intsL (rsN A B ++ [0])) = _
      unfold intsL
      rw [List.map_append]; rfl
    rw [q]
    exact x2 (xA (xC (E := fVar 0) rfl (xC (E := fVar 1) rfl xN)) e3) (xA (xC (E := fC (.int 0)) rfl xN) (xLst (ds := [.int 0]) rfl (by decide))) (xAdd (by rw [intsL_len, lr]; simp; omega))
  have ex : sExpr (fA (m_falls) (fCons (fVar 0) (fCons (fVar 1) (fNil)))) (V0 none none none none none) h = some (.nx (V0 none none none none none), h) := by
    unfold sExpr
    simp only [xA (xC (E := fVar 0) (ρ := V0 none none none none none) rfl (xC (E := fVar 1) rfl xN)) e1, sbnd]
  have g0 : fA (lstW true) (fNil) (V0 none none none none none) h = some (.ref h.length, h ++ [some (.lst [])]) := rfl
  have b := xBest (A := A) (B := B) (ρ := V0 none (some (.dat (.list (bestF A B)))) (some (.dat (lN (0 :: nxt A B)))) (some (.ref h.length)) (some (.dat (.int 0)))) (h := h ++ [some (.lst [])]) (C := fVar 3) (E := fC (.int 0)) (G := fC (.int 0)) (i := 0) (v := 0) rfl rfl rfl (Nat.zero_le _) (Nat.zero_le _)
  obtain ⟨ρ', g', e, rfl, lo, v7, v8, v9, i7, i8, i9, grE, rfl⟩ := forL_end (k := gT 2 (gC (gN 7) (gC (gN 8) (gE)))) (body := fewB) (fun j ρ g => g = h ++ [some (.lst (intsL (vs.take j)))] ∧ ∃ (lo : Nat) (v7 v8 v9 : Option W), (∀ m, isR m v7 = false) ∧ (∀ m, isR m v8 = false) ∧ (∀ m, isR m v9 = false) ∧ Gr A.length ((items A B).drop j) lo (vs.drop j) ∧ ρ = E10 A B x y h.length (F A.length ((items A B).drop j) lo) (some (.dat (.int (lo : Int)))) v7 v8 v9)
    (ds := enumD 0 (B.map .str)) (ρ := E10 A B x y h.length (F A.length ((items A B).drop 0) 0) (some (.dat (.int 0))) none none none) (h := h ++ [some (.lst [])]) ⟨rfl, 0, none, none, none, fun _ => rfl, fun _ => rfl, fun _ => rfl, gr, rfl⟩ (by
      rintro j d ej ρ g ⟨rfl, lo, v7, v8, v9, i7, i8, i9, gj, rfl⟩
      obtain ⟨hj, rfl⟩ := enumS_get ej
      have hjv : j < vs.length := by omega
      rw [items_drop hj, List.drop_eq_getElem_cons hjv] at gj
      obtain ⟨q1, q2, q3, q4, q5⟩ := gj
      rw [← items_drop hj] at q3 q4
      rw [List.getElem?_eq_getElem hj] at q3 q4
      have t := few_turn (x := x) (y := y) (A := A) (B := B) (m := h.length) (j := j) (lo := lo) (v := vs[j]) (v9 := v9) (S := intsL (vs.take j)) (g := h ++ [some (.lst (intsL (vs.take j)))]) (v7 := none) (v8 := none) hx lB hl hj q1 q2 q3 q4 (app_get rfl) (by rw [intsL_len, List.length_take]; omega)
      rw [app_set rfl, intsL_snoc, ← take_snoc (List.getElem?_eq_getElem hjv)] at t
      exact ⟨_, _, _, rfl, t, rfl, _, _, _, _, fun _ => rfl, fun _ => rfl, fun _ => rfl, q5, rfl⟩)
  rw [enumD_len, List.length_map, lB, List.take_of_length_le (by omega)] at e
  have fz := frz_lst (i := 5) (n := h.length) (ds := intsL vs) (ρ := E10 A B x y h.length (F A.length ((items A B).drop A.length) lo) (some (.dat (.int (lo : Int)))) v7 v8 v9) (h := h ++ [some (.lst (intsL vs))]) rfl (app_get rfl) (by
    simp only [List.set_cons_succ, List.set_cons_zero, List.any_cons, List.any_nil, isR_dat, isR_none, i7, i8, i9, Bool.or_self])
  rw [app_set rfl] at fz
  have lvv := leave_dat (h := h) (h' := h ++ [none]) (d := cT (callV A B vs)) (by rw [List.take_left])
  rw [List.take_left] at lvv
  have cb := call_by_ok (h := h ++ [none]) hx hy p hl ht (gr_vq gr).lt (by omega)
  rw [few_eq]
  refine fnM_rt (w := .dat (cT (callV A B vs))) (h' := h ++ [none]) ?_ rfl lvv
  refine (zS ex).trans ?_
  refine (zP (is := [3, 4, 5, 6]) (ρ1 := V0 none (some (.dat (.list (bestF A B)))) (some (.dat (lN (0 :: nxt A B)))) (some (.ref h.length)) (some (.dat (.int 0)))) (xC (xA (xC (E := fVar 0) rfl (xC (E := fVar 1) rfl xN)) e2) (xC e4 (xC g0 (xC (E := fC (.int 0)) rfl xN)))) rfl rfl).trans ?_
  refine (zA (ρ1 := E10 A B x y h.length (F A.length ((items A B).drop 0) 0) (some (.dat (.int 0))) none none none) b rfl).trans ?_
  refine (zF (enumX (E := fVar 1) rfl hy) e).trans ?_
  refine (zZ fz).trans ?_
  exact zR (xA (xC (E := fVar 0) rfl (xC (E := fVar 1) rfl (xC (E := fVar 5) rfl xN))) cb)
end
theorem xChn {f g k : EM} {i j l : Int} {ρ : DL.Env} {h : Hh} (e1 : f ρ h = some (.dat (.int i), h)) (e2 : g ρ h = some (.dat (.int j), h)) (e3 : k ρ h = some (.dat (.int l), h)) (c1 : i ≤ j) (c2 : j < l) : fChain le_W lt_W f g k ρ h = some (.dat (.bool true), h) := by
  have q1 : le_W (.dat (.int i)) (.dat (.int j)) h = some (.dat (.bool true), h) := by
    rw [le_e]
    simp [ltW, deref, bok, c1]
  have q2 : lt_W (.dat (.int j)) (.dat (.int l)) h = some (.dat (.bool true), h) := by
    rw [lt_e]
    simp [ltW, deref, bok, c2]
  unfold fChain
  simp only [e1, e2, obnd, q1, e3, q2]
noncomputable def wE : EM := fA (m_ways_on) (fCons (fA lenW (fCons (fVar 0) (fNil))) (fCons (fVar 3) (fCons (fVar 6) (fCons (fVar 8) (fNil)))))
noncomputable def atT : BM := (fB (f2 ge_W (fVar 5) wE))
noncomputable def fstE : EM := (fIf (fB (f2 gt_W (fVar 6) (fC (.int 0)))) (f2 (addW false) (f2 idxW (fVar 4) (fNeg (fC (.int 1)))) (fVar 7)) (fC (.int 0)))
noncomputable def stepB : SM := (sSeq (sAug gSub 5 wE) (sAug gAdd 8 (fC (.int 1))))
noncomputable def atB : SM := (sSeq (sAsg fstE (gN 8)) (sSeq (sWhile 100000 atT stepB) (sExpr (fM isL appendW (fVar 4) (fCons (fVar 8) (fNil))))))
theorem at_eq : m_call_at = fnM false 3 9 (sSeq (sIf (bNot (fB (fChain le_W lt_W (fC (.int 0)) (fVar 2) (fA (m_calls_many) (fCons (fVar 0) (fCons (fVar 1) (fNil))))))) (sNever) (sSkip))
    (sSeq (sPar (fCons (fA (m_risen) (fCons (fVar 0) (fCons (fVar 1) (fNil)))) (fCons (fA (lstW true) (fNil)) (fCons (fVar 2) (fNil)))) [3, 4, 5])
    (sSeq (sFor (enumA (fCons (fVar 3) (fNil))) (gT 2 (gC (gN 6) (gC (gN 7) (gE)))) atB)
    (sFrz 4 (sRet (fA (m_call_by) (fCons (fVar 0) (fCons (fVar 1) (fCons (fVar 4) (fNil)))))))))) := rfl
theorem nxt_drop {A B : List Str} {j : Nat} (hj : j < B.length) : (nxt A B).drop j = ((nxt A B)[j]?.getD 0) :: (nxt A B).drop (j + 1) := by
  have hl := nxt_len A B
  rw [List.drop_eq_getElem_cons (by omega), List.getElem?_eq_getElem (by omega)]; rfl
theorem rs_len {A B : List Str} (hB : B ≠ []) : (rsN A B).length = B.length := by
  have := nxt_len A B
  rw [nxt_zip A hB, List.length_append] at this
  unfold rsN
  rw [List.length_cons]
  simp at this
  omega
theorem rs_next {A B : List Str} (hB : B ≠ []) {j : Nat} (hj : j + 1 < B.length) : (rsN A B)[j + 1]?.getD 0 = (nxt A B)[j]?.getD 0 := by
  have l1 := rs_len (A := A) hB
  unfold rsN at l1 ⊢
  rw [List.length_cons] at l1
  rw [List.getElem?_cons_succ, nxt_zip A hB, List.getElem?_append_left (by omega)]
section
variable {A B : List Str} {x : D} {h : Hh}
abbrev E9 (A B : List Str) (x : D) (num : Nat) (m : Nat) (left : Nat) (v6 v7 v8 : Option W) : DL.Env := [some (.dat x), some (.dat (rowT B)), some (.dat (.int (num : Int))), some (.dat (lN (rsN A B))), some (.ref m), some (.dat (.int (left : Int))), v6, v7, v8]
theorem wE_ok {num m left j u : Nat} {v7 : Option W} {g : Hh} (hx : IsSeq x (A.map .str)) (p : B.Perm A) (hl : A.length ≤ 100) (hj : j < A.length) (hu : u < A.length) : wE (E9 A B x num m left (some (.dat (.int (j : Int)))) v7 (some (.dat (.int (u : Int))))) g = some (.dat (.int (wN A B j u : Int)), g) := by
  unfold wE
  exact xA (xC (xA (xC (E := fVar 0) rfl xN) (lenX hx)) (xC (E := fVar 3) rfl (xC (E := fVar 6) rfl (xC (E := fVar 8) rfl xN)))) (ways_ok p hl hj hu)
theorem atT_ok {num m left j u : Nat} {v7 : Option W} {g : Hh} (hx : IsSeq x (A.map .str)) (p : B.Perm A) (hl : A.length ≤ 100) (hj : j < A.length) (hu : u < A.length) : atT (E9 A B x num m left (some (.dat (.int (j : Int)))) v7 (some (.dat (.int (u : Int))))) g = some (decide (wN A B j u ≤ left), g) := by
  unfold atT
  refine xB (x2 (A := fVar 5) rfl (wE_ok hx p hl hj hu) ?_)
  rw [ge_e]
  simp [ltW, deref, bok]
theorem at_turn {num m t j lo v : Nat} {r : Option W} {v8 : Option W} {S : List D} {g : Hh} (hx : IsSeq x (A.map .str)) (p : B.Perm A) (hl : A.length ≤ 100) (hj : j < A.length) (hf : fstE (E9 A B x num m t (some (.dat (.int (j : Int)))) r v8) g = some (.dat (.int (lo : Int)), g)) (h1 : lo ≤ v) (h2 : v < A.length)
    (h3 : sumR (wN A B j) lo (v - lo) ≤ t) (h4 : t - sumR (wN A B j) lo (v - lo) < wN A B j v) (g5 : g[m]? = some (some (.lst S))) (hS : S.length ≤ 1000) :
    atB (E9 A B x num m t (some (.dat (.int (j : Int)))) r v8) g = some (.nx (E9 A B x num m (t - sumR (wN A B j) lo (v - lo)) (some (.dat (.int (j : Int)))) r (some (.dat (.int (v : Int))))), g.set m (some (.lst (S ++ [.int (v : Int)])))) := by
  have hz : sizeLine = 16777216 := rfl
  obtain ⟨ρ', h', ew, rfl, rfl⟩ := whileL_run (t := atT) (body := stepB) (fun i ρ g' => g' = g ∧ ρ = E9 A B x num m (t - sumR (wN A B j) lo i) (some (.dat (.int (j : Int)))) r (some (.dat (.int ((lo + i : Nat) : Int))))) (v - lo) (n := 0) (fuel := 100000) (ρ := E9 A B x num m t (some (.dat (.int (j : Int)))) r (some (.dat (.int (lo : Int))))) (h := g) (by omega) ⟨rfl, rfl⟩ (by
      rintro i ρ g' _ hi ⟨rfl, rfl⟩
      have mo := sumR_mono (wN A B j) lo (show i + 1 ≤ v - lo by omega)
      rw [sumR] at mo
      have t1 := atT_ok (x := x) (A := A) (B := B) (num := num) (m := m) (left := t - sumR (wN A B j) lo i) (j := j) (u := lo + i) (v7 := r) (g := g') hx p hl hj (by omega)
      rw [decide_eq_true (by omega)] at t1
      refine ⟨g', E9 A B x num m (t - sumR (wN A B j) lo (i + 1)) (some (.dat (.int (j : Int)))) r (some (.dat (.int ((lo + (i + 1) : Nat) : Int)))), g', t1, ?_, rfl, rfl⟩
      unfold stepB
      refine (zAug (i := 5) (ρ1 := E9 A B x num m (t - sumR (wN A B j) lo (i + 1)) (some (.dat (.int (j : Int)))) r (some (.dat (.int ((lo + i : Nat) : Int))))) rfl (wE_ok hx p hl hj (by omega)) (c := ((t - sumR (wN A B j) lo (i + 1) : Nat) : Int)) (show some (_ - _) = some _ by rw [sumR]; congr 1; omega) rfl).trans ?_
      exact xAug (b := 1) (c := ((lo + (i + 1) : Nat) : Int)) rfl rfl rfl)
    (by
      rintro ρ g' ⟨rfl, rfl⟩
      have t1 := atT_ok (x := x) (A := A) (B := B) (num := num) (m := m) (left := t - sumR (wN A B j) lo (v - lo)) (j := j) (u := v) (v7 := r) (g := g') hx p hl hj h2
      rw [decide_eq_false (by omega)] at t1
      rw [Nat.zero_add, show lo + (v - lo) = v by omega]
      exact t1)
  rw [Nat.zero_add, show lo + (v - lo) = v by omega] at ew
  unfold atB
  refine (zA (ρ1 := E9 A B x num m t (some (.dat (.int (j : Int)))) r (some (.dat (.int (lo : Int))))) hf rfl).trans ?_
  refine (zS (a := sWhile 100000 atT stepB) ew).trans ?_
  exact zAppE (A := fVar 4) (E := fVar 8) (n := m) (ds := S) (d := .int (v : Int)) rfl g5 rfl g5 (by omega)
theorem fst_0 {num m t : Nat} {r v8 : Option W} {g : Hh} : fstE (E9 A B x num m t (some (.dat (.int 0))) r v8) g = some (.dat (.int 0), g) := rfl
theorem fst_s {num m t j u r lo : Nat} {v8 : Option W} {us : List Nat} {g : Hh} (g5 : g[m]? = some (some (.lst (intsL (us ++ [u]))))) (hlo : u + r = lo) : fstE (E9 A B x num m t (some (.dat (.int ((j + 1 : Nat) : Int)))) (some (.dat (.int (r : Int)))) v8) g = some (.dat (.int (lo : Int)), g) := by
  have tt : fB (f2 gt_W (fVar 6) (fC (.int 0))) (E9 A B x num m t (some (.dat (.int ((j + 1 : Nat) : Int)))) (some (.dat (.int (r : Int)))) v8) g = some (true, g) := by
    refine xB (x2 (A := fVar 6) rfl (B := fC (.int 0)) rfl ?_)
    rw [gt_e]
    simp [ltW, deref, bok]
  have i : f2 idxW (fVar 4) (fNeg (fC (.int 1))) (E9 A B x num m t (some (.dat (.int ((j + 1 : Nat) : Int)))) (some (.dat (.int (r : Int)))) v8) g = some (.dat (.int (u : Int)), g) := by
    refine x2 (A := fVar 4) rfl (B := fNeg (fC (.int 1))) (y := .dat (.int (-1))) rfl ?_
    have a : L2.atI (intsL (us ++ [u])) (-1) = some (.int (u : Int)) := by
      rw [← intsL_snoc]
      exact atI_neg1 _ _
    unfold idxW
    simp only [deref, g5, a]
    rfl
  unfold fstE fIf
  simp only [tt, obnd, if_true]
  exact xAdI i (B := fVar 7) rfl (by omega)
theorem call_at_ok {t : Nat} (hx : IsSeq x (A.map .str)) (p : B.Perm A) (nd : A.Nodup) (h0 : 0 < A.length) (hl : A.length ≤ 100) (ht : Txts A) (hn : t < cnt A.length (nxt A B) 0) : ∃ vs, VQ A.length (nxt A B) 0 vs ∧ rk A.length (nxt A B) 0 vs = t ∧ m_call_at [.dat x, .dat (rowT B), .dat (.int (t : Int))] h = some (.dat (cT (callV A B vs)), h) := by
  have hz : sizeLine = 16777216 := rfl
  have lB := p.length_eq
  have hy : IsSeq (rowT B) (B.map .str) := .inr rfl
  have hB : B ≠ [] := fun z => by rw [z] at lB; simp at lB; omega
  have e1 := calls_many_ok (h := h) hx hy p nd h0 hl ht
  have e3 := risen_ok (h := h) hx hy nd (by omega) p
  have lr := rs_len (A := A) hB
  have ln := nxt_len A B
  have tst : fChain le_W lt_W (fC (.int 0)) (fVar 2) (fA (m_calls_many) (fCons (fVar 0) (fCons (fVar 1) (fNil)))) [some (.dat x), some (.dat (rowT B)), some (.dat (.int (t : Int))), none, none, none, none, none, none] h = some (.dat (.bool true), h) := xChn (i := 0) (j := (t : Int)) rfl rfl (xA (xC (E := fVar 0) rfl (xC (E := fVar 1) rfl xN)) e1) (by omega) (by omega)
  have g0 : fA (lstW true) (fNil) [some (.dat x), some (.dat (rowT B)), some (.dat (.int (t : Int))), none, none, none, none, none, none] h = some (.ref h.length, h ++ [some (.lst [])]) := rfl
  obtain ⟨ρ', g', e, us, tj, lo, v6, v7, v8, rfl, i6, i7, i8, lu, hc, hw, hlo, rfl⟩ := forL_end (k := gT 2 (gC (gN 6) (gC (gN 7) (gE)))) (body := atB) (fun j ρ g => ∃ (us : List Nat) (tj lo : Nat) (v6 v7 v8 : Option W), g = h ++ [some (.lst (intsL us))] ∧ (∀ m, isR m v6 = false) ∧ (∀ m, isR m v7 = false) ∧ (∀ m, isR m v8 = false) ∧ us.length = j ∧ tj < cnt A.length ((nxt A B).drop j) lo ∧
      (∀ ws, VQ A.length ((nxt A B).drop j) lo ws → VQ A.length (nxt A B) 0 (us ++ ws) ∧ rk A.length (nxt A B) 0 (us ++ ws) + tj = t + rk A.length ((nxt A B).drop j) lo ws) ∧
      ((j = 0 ∧ lo = 0) ∨ ∃ us' u, us = us' ++ [u] ∧ lo = u + (nxt A B)[j - 1]?.getD 0) ∧ ρ = E9 A B x t h.length tj v6 v7 v8)
    (ds := enumD 0 (intsL (rsN A B))) (ρ := E9 A B x t h.length t none none none) (h := h ++ [some (.lst [])]) ⟨[], t, 0, none, none, none, rfl, fun _ => rfl, fun _ => rfl, fun _ => rfl, rfl, hn, fun ws hw => ⟨hw, by rw [List.nil_append, List.drop_zero, Nat.add_comm]⟩, .inl ⟨rfl, rfl⟩, rfl⟩ (by
      rintro j d ej ρ g ⟨us, tj, lo, v6, v7, v8, rfl, i6, i7, i8, lu, hc, hw, hlo, rfl⟩
      obtain ⟨hj, rfl⟩ := enumI_get ej
      have hjB : j < B.length := by omega
      have hjA : j < A.length := by omega
      have q := nxt_drop (A := A) hjB
      rw [q] at hc
      obtain ⟨v, a1, a2, a3, a4⟩ := unrk_step hc
      have hf : fstE (E9 A B x t h.length tj (some (.dat (.int (j : Int)))) (some (.dat (.int ((rsN A B)[j] : Int)))) v8) (h ++ [some (.lst (intsL us))]) = some (.dat (.int (lo : Int)), h ++ [some (.lst (intsL us))]) := by
        rcases hlo with ⟨rfl, rfl⟩ | ⟨us', u, rfl, hlo⟩
        · exact fst_0
        · obtain ⟨i, rfl⟩ : ∃ i, j = i + 1 := ⟨j - 1, by rw [List.length_append] at lu; simp at lu; omega⟩
          have rn := rs_next (A := A) hB hjB
          rw [List.getElem?_eq_getElem hj] at rn
          exact fst_s (us := us') (u := u) (app_get rfl) (by
            rw [hlo, Nat.add_sub_cancel]
            show u + (rsN A B)[i + 1] = _
            have rn' : (rsN A B)[i + 1] = (nxt A B)[i]?.getD 0 := rn
            rw [rn'])
      have tn := at_turn (x := x) (A := A) (B := B) (num := t) (m := h.length) (t := tj) (j := j) (lo := lo) (v := v) (r := some (.dat (.int ((rsN A B)[j] : Int)))) (v8 := v8) (S := intsL us) (g := h ++ [some (.lst (intsL us))]) hx p hl hjA hf a1 a2 a3 a4 (app_get rfl) (by rw [intsL_len]; omega)
      rw [app_set rfl, intsL_snoc] at tn
      refine ⟨_, _, _, rfl, tn, us ++ [v], tj - sumR (wN A B j) lo (v - lo), v + (nxt A B)[j]?.getD 0, _, _, _, rfl, fun _ => rfl, fun _ => rfl, fun _ => rfl, by rw [List.length_append, lu]; rfl, a4, fun ws hws => ?_, .inr ⟨us, v, rfl, by rw [Nat.add_sub_cancel]⟩, rfl⟩
      have := hw (v :: ws) (by rw [q]; exact ⟨a1, a2, hws⟩)
      rw [q] at this
      rw [List.append_assoc, List.singleton_append]
      refine ⟨this.1, ?_⟩
      have e2 := this.2
      have a3' : sumR (wN A B j) lo (v - lo) ≤ tj := a3
      have e3 : rk A.length ((nxt A B)[j]?.getD 0 :: (nxt A B).drop (j + 1)) lo (v :: ws) = sumR (wN A B j) lo (v - lo) + rk A.length ((nxt A B).drop (j + 1)) (v + (nxt A B)[j]?.getD 0) ws := rfl
      rw [e3] at e2
      omega)
  have ld : (enumD 0 (intsL (rsN A B))).length = A.length := by rw [enumD_len, intsL_len, lr, lB]
  rw [ld] at lu hc hw
  have dn : (nxt A B).drop A.length = [] := List.drop_eq_nil_of_le (by omega)
  rw [dn] at hc hw
  have hc' : tj < 1 := hc
  obtain ⟨w1, w2⟩ := hw [] trivial
  rw [List.append_nil] at w1 w2
  have w3 : rk A.length [] lo [] = 0 := rfl
  refine ⟨us, w1, by omega, ?_⟩
  have fz := frz_lst (i := 4) (n := h.length) (ds := intsL us) (ρ := E9 A B x t h.length tj v6 v7 v8) (h := h ++ [some (.lst (intsL us))]) rfl (app_get rfl) (by
    simp only [List.set_cons_succ, List.set_cons_zero, List.any_cons, List.any_nil, isR_dat, isR_none, i6, i7, i8, Bool.or_self])
  rw [app_set rfl] at fz
  have lvv := leave_dat (h := h) (h' := h ++ [none]) (d := cT (callV A B us)) (by rw [List.take_left])
  rw [List.take_left] at lvv
  have cb := call_by_ok (h := h ++ [none]) (vs := us) hx hy p hl ht w1.lt (by omega)
  rw [at_eq]
  refine fnM_rt (w := .dat (cT (callV A B us))) (h' := h ++ [none]) ?_ rfl lvv
  refine (zI (xT tst)).trans ?_
  refine (zP (is := [3, 4, 5]) (ρ1 := E9 A B x t h.length t none none none) (xC (xA (xC (E := fVar 0) rfl (xC (E := fVar 1) rfl xN)) e3) (xC g0 (xC (E := fVar 2) rfl xN))) rfl rfl).trans ?_
  refine (zF (enumX (E := fVar 3) (x := lN (rsN A B)) rfl (.inl rfl)) e).trans ?_
  refine (zZ fz).trans ?_
  exact zR (xA (xC (E := fVar 0) rfl (xC (E := fVar 1) rfl (xC (E := fVar 4) rfl xN))) cb)
end
def GoodN (l : List Str) (q : List (Str × Str)) : Prop := q.map (·.1) = l ∧ ∀ p ∈ q, p.2 ∈ l
theorem GoodN.len {l : List Str} {q : List (Str × Str)} (g : GoodN l q) : q.length = l.length := by
  have := congrArg List.length g.1
  rwa [List.length_map] at this
theorem goN_le (ps : List (Str × Str)) : goN ps ≤ ps.length := List.length_filter_le _ _
theorem call_len {A : List Str} {ps : List (Str × Str)} (c : CallOf A ps) : ps.length = A.length := by have := c.perm.length_eq; rwa [List.length_map] at this
theorem fw_pos {A B : List Str} {ps : List (Str × Str)} (c : CallOf A ps) (nd : A.Nodup) (e : led A ps = B) : 0 ≤ FW A B := by
  have := fw_ub c nd e
  have g := goN_le ps
  rw [call_len c] at g
  omega
theorem none_go {A B : List Str} {qs : List (Str × Str)} (c : CallOf A qs) (nd : A.Nodup) (e : led A qs = B) (g : (goN qs : Int) = A.length - FW A B) : goN qs = 0 ↔ B = A := by
  constructor
  · intro z
    rw [← e]
    have all : ∀ p ∈ qs, p.1 = p.2 := fun p hp => by
      unfold goN at z
      rw [List.length_eq_zero_iff, List.filter_eq_nil_iff] at z
      have := z p hp
      simpa using this
    have gs : ∀ s ∈ A, goal qs s = s := fun s hs => by
      obtain ⟨p, hp, rfl⟩ := List.mem_map.mp (c.perm.mem_iff.mpr hs)
      rw [goal_of (c.nodup nd) p hp, all p hp]
    refine led_self (List.Pairwise.imp_of_mem ?_ (pw_idx nd))
    intro a b ha hb hab
    rw [leK_keys, gs a ha, gs b hb]
    omega
  · intro z
    subst z
    have i := fw_ub (call_stay (List.Perm.refl B)) nd (led_stay nd B)
    have zg : goN (B.map fun s => (s, s)) = 0 := by
      unfold goN
      rw [List.length_eq_zero_iff, List.filter_eq_nil_iff]
      intro p hp
      obtain ⟨s, _, rfl⟩ := List.mem_map.mp hp
      simp
    omega
theorem no_less {A B : List Str} {vs us : List Nat} (nd : A.Nodup) (p : B.Perm A) (gr : Gr A.length (items A B) 0 vs) (vu : VQ A.length (nxt A B) 0 us) (gb : (goN (callV A B vs) : Int) = A.length - FW A B) : goN (callV A B vs) ≤ goN (callV A B us) ∧ (goN (callV A B us) = goN (callV A B vs) → rk A.length (nxt A B) 0 vs ≤ rk A.length (nxt A B) 0 us) := by
  obtain ⟨c, e, l⟩ := callV_led nd p vu
  have g := go_sc c nd p
  rw [e] at g
  have ub := sc_le (L := items A B) (lo := 0) vu
  unfold FW at gb
  refine ⟨by omega, fun q => rk_le (gr_vq gr) vu (gr_lex gr vu (by omega))⟩
theorem lenL {ds : List D} {h : Hh} : lenW [.dat (.list ds)] h = some (.dat (.int (ds.length : Int)), h) := by
  unfold lenW
  simp only [deref]
  rfl
theorem zIfF {t : BM} {a : SM} {ρ : DL.Env} {h h1 : Hh} (ht : t ρ h = some (false, h1)) : sIf t a sSkip ρ h = some (.nx ρ, h1) := by
  unfold sIf
  simp only [ht, sbnd, Bool.false_eq_true, if_false, sSkip]
section
variable {h : Hh} {ρ : DL.Env}
theorem going_lc {v0 : Option W} : ∀ P : List (Str × Str), lcL (gT 2 (gC (gN 1) (gC (gN 2) (gE)))) (fB (f2 (eqW true) (fVar 1) (fVar 2))) (fVar 1) [v0, none, none] (P.map prT) h = some ((P.filter fun p => !decide (p.1 = p.2)).map fun p => PyData.str p.1, h)
  | [] => rfl
  | (a, b) :: P => by
    have ih := going_lc (v0 := v0) P
    rw [List.map_cons]
    unfold lcL
    have k : gT 2 (gC (gN 1) (gC (gN 2) (gE))) (.dat (prT (a, b))) [v0, none, none] h = some [v0, some (.dat (.str a)), some (.dat (.str b))] := rfl
    have t : fB (f2 (eqW true) (fVar 1) (fVar 2)) [v0, some (.dat (.str a)), some (.dat (.str b))] h = some (!decide (a = b), h) := by
      refine xB (x2 (f := eqW true) (A := fVar 1) (B := fVar 2) rfl rfl ?_)
      rw [eqW_strs, if_pos rfl]; rfl
    have f : fVar 1 [v0, some (.dat (.str a)), some (.dat (.str b))] h = some (.dat (.str a), h) := rfl
    simp only [k, obnd, t, f, ih]
    by_cases z : a = b
    · rw [decide_eq_true z, Bool.not_true, if_neg (by simp), List.filter_cons_of_neg (by simpa using z)]
    · rw [decide_eq_false z, Bool.not_false, if_pos rfl, List.filter_cons_of_pos (by simpa using z)]; rfl
theorem going_ok {ps : List (Str × Str)} (hl : ps.length ≤ 1000) : m__law_going [.dat (cT ps)] h = some (.dat (.int (goN ps : Int)), h) := by
  have hz : sizeLine = 16777216 := rfl
  have lf : (ps.filter fun p => !decide (p.1 = p.2)).length ≤ ps.length := List.length_filter_le _ _
  have e : fLc false (seqI (fVar 0)) (gT 2 (gC (gN 1) (gC (gN 2) (gE)))) (fB (f2 (eqW true) (fVar 1) (fVar 2))) (fVar 1) [1, 2] [some (.dat (cT ps)), none, none] h = some (.dat (.list ((ps.filter fun p => !decide (p.1 = p.2)).map fun p => PyData.str p.1)), h) := by
    unfold fLc
    rw [xS (E := fVar 0) (x := cT ps) (ds := ps.map prT) (h1 := h) rfl (.inr rfl)]
    show obnd (lcL _ _ _ [some (.dat (cT ps)), none, none] _ h) _ = _
    rw [going_lc]
    simp only [obnd]
    rw [if_pos (by rw [List.length_map]; omega)]; rfl
  have q := lenL (ds := (ps.filter fun p => !decide (p.1 = p.2)).map fun p => PyData.str p.1) (h := h)
  rw [List.length_map] at q
  unfold m__law_going
  exact fnM_rt (zR (xA (xC e xN) q)) rfl leave_same'
def grow (l : List Str) (n : Str) (acc : List (List (Str × Str))) : List (List (Str × Str)) := acc.flatMap fun c => l.map fun t => c ++ [(n, t)]
def allF (l : List Str) : List Str → List (List (Str × Str)) → List (List (Str × Str))
  | [], acc => acc
  | n :: ns, acc => allF l ns (grow l n acc)
theorem allF_mem {l : List Str} : ∀ {ns : List Str} {acc : List (List (Str × Str))} {c : List (Str × Str)}, c ∈ allF l ns acc ↔ ∃ a ∈ acc, ∃ q : List (Str × Str), c = a ++ q ∧ q.map (·.1) = ns ∧ ∀ p ∈ q, p.2 ∈ l
  | [], acc, c => by
    constructor
    · intro hc
      exact ⟨c, hc, [], by simp, rfl, fun p hp => by cases hp⟩
    · rintro ⟨a, ha, q, rfl, hq, _⟩
      rw [List.map_eq_nil_iff] at hq
      subst hq
      rw [List.append_nil]
      exact ha
  | n :: ns, acc, c => by
    show c ∈ allF l ns (grow l n acc) ↔ _
    rw [allF_mem (ns := ns)]
    constructor
    · rintro ⟨a, ha, q, rfl, hq, hl⟩
      obtain ⟨a0, ha0, hm⟩ := List.mem_flatMap.mp ha
      obtain ⟨t, ht, rfl⟩ := List.mem_map.mp hm
      refine ⟨a0, ha0, (n, t) :: q, by rw [List.append_assoc]; rfl, by rw [List.map_cons, hq], fun p hp => ?_⟩
      rcases List.mem_cons.mp hp with rfl | hp
      · exact ht
      · exact hl p hp
    · rintro ⟨a, ha, q, rfl, hq, hl⟩
      cases q with
      | nil => cases hq
      | cons p q =>
        rw [List.map_cons] at hq
        obtain ⟨h1, h2⟩ := List.cons.inj hq
        refine ⟨a ++ [p], List.mem_flatMap.mpr ⟨a, ha, List.mem_map.mpr ⟨p.2, hl p List.mem_cons_self, by rw [← h1]⟩⟩, q, by rw [List.append_assoc]; rfl, h2, fun r hr => hl r (List.mem_cons_of_mem _ hr)⟩
theorem grow_len (l : List Str) (n : Str) : ∀ acc : List (List (Str × Str)), (grow l n acc).length = acc.length * l.length
  | [] => by simp [grow]
  | c :: acc => by
    have ih := grow_len l n acc
    unfold grow at ih ⊢
    rw [List.flatMap_cons, List.length_append, ih, List.length_map, List.length_cons, Nat.succ_mul]
    omega
theorem allF_len (l : List Str) : ∀ (ns : List Str) (acc : List (List (Str × Str))), (allF l ns acc).length = acc.length * l.length ^ ns.length
  | [], acc => by simp [allF]
  | n :: ns, acc => by
    show (allF l ns (grow l n acc)).length = _
    rw [allF_len l ns, grow_len, List.length_cons, Nat.pow_succ, Nat.mul_assoc, Nat.mul_comm l.length]
noncomputable def acIn : SM := (sExpr (fM isL extendW (fVar 3) (fCons (fLc false (seqI (fVar 0)) (gN 5) (bYes) (f2 (addW false) (fVar 4) (fA tupW (fCons (fA tupW (fCons (fVar 2) (fCons (fVar 5) (fNil)))) (fNil)))) [5]) (fNil))))
abbrev E6 (l : List Str) (v1 v2 v3 v4 : Option W) : DL.Env := [some (.dat (.list (l.map .str))), v1, v2, v3, v4, none]
theorem acIn_ok {l : List Str} {v1 : Option W} {n : Str} {c : List (Str × Str)} {G : Hh} {ds : List D} (hl : l.length ≤ 10) (hc : c.length ≤ 100) (hd : ds.length ≤ 100000) :
    acIn (E6 l v1 (some (.dat (.str n))) (some (.ref G.length)) (some (.dat (cT c)))) (G ++ [some (.lst ds)]) = some (.nx (E6 l v1 (some (.dat (.str n))) (some (.ref G.length)) (some (.dat (cT c)))), G ++ [some (.lst (ds ++ (l.map fun t => c ++ [(n, t)]).map cT))]) := by
  have hz : sizeLine = 16777216 := rfl
  have c1 : 1 ≤ sizeLine := by decide
  have c2 : 2 ≤ sizeLine := by decide
  have gg : (G ++ [some (MO.lst ds)])[G.length]? = some (some (.lst ds)) := app_get rfl
  have il : isL (.ref G.length) (G ++ [some (MO.lst ds)]) = true := by simp only [isL, deref, gg]
  have lc : lcL (gN 5) bYes (f2 (addW false) (fVar 4) (fA tupW (fCons (fA tupW (fCons (fVar 2) (fCons (fVar 5) (fNil)))) (fNil)))) (E6 l v1 (some (.dat (.str n))) (some (.ref G.length)) (some (.dat (cT c)))) (l.map .str) (G ++ [some (.lst ds)]) = some ((l.map fun t => c ++ [(n, t)]).map cT, G ++ [some (.lst ds)]) := by
    rw [List.map_map]
    refine lcL_list PyData.str _ fun t ht => ⟨[some (.dat (.list (l.map .str))), v1, some (.dat (.str n)), some (.ref G.length), some (.dat (cT c)), some (.dat (.str t))], rfl, ?_⟩
    have ad : addW false (.dat (cT c)) (.dat (.tuple [prT (n, t)])) (G ++ [some (MO.lst ds)]) = some (.dat (cT (c ++ [(n, t)])), G ++ [some (.lst ds)]) := by
      have := xAddT (a := c.map prT) (b := [prT (n, t)]) (h := G ++ [some (MO.lst ds)]) (by rw [List.length_map]; show c.length + 1 ≤ sizeLine; omega)
      have e : cT (c ++ [(n, t)]) = .tuple (c.map prT ++ [prT (n, t)]) := by
        show PyData.tuple ((c ++ [(n, t)]).map prT) = _
        rw [List.map_append]; rfl
      rw [e]
      exact this
    exact x2 (f := addW false) (A := fVar 4) rfl (xA (xC (xA (xC (E := fVar 2) rfl (xC (E := fVar 5) rfl xN)) (xTp (ds := [.str n, .str t]) rfl c2)) xN) (xTp (ds := [prT (n, t)]) rfl c1)) ad
  have ga : (fCons (fLc false (seqI (fVar 0)) (gN 5) (bYes) (f2 (addW false) (fVar 4) (fA tupW (fCons (fA tupW (fCons (fVar 2) (fCons (fVar 5) (fNil)))) (fNil)))) [5]) (fNil)) (E6 l v1 (some (.dat (.str n))) (some (.ref G.length)) (some (.dat (cT c)))) (G ++ [some (.lst ds)]) = some ([.dat (.list ((l.map fun t => c ++ [(n, t)]).map cT))], G ++ [some (.lst ds)]) :=
    xC (xL (vs := [5]) (xS (E := fVar 0) (x := .list (l.map .str)) rfl (.inl rfl)) lc (by rw [List.length_map, List.length_map]; omega)) xN
  have ex : extendW (.ref G.length) [.dat (.list ((l.map fun t => c ++ [(n, t)]).map cT))] (G ++ [some (MO.lst ds)]) = some (.dat .none, G ++ [some (.lst (ds ++ (l.map fun t => c ++ [(n, t)]).map cT))]) := by
    unfold extendW lstAt setL
    simp only [gg]
    rw [if_pos (by rw [List.length_map, List.length_map]; omega), app_set rfl]
  have q : fVar 3 (E6 l v1 (some (.dat (.str n))) (some (.ref G.length)) (some (.dat (cT c)))) (G ++ [some (.lst ds)]) = some (.ref G.length, G ++ [some (.lst ds)]) := rfl
  unfold acIn sExpr fM
  simp only [q, obnd, il, if_true, ga, ex, sbnd]
theorem acIn_loop {l : List Str} {v1 : Option W} {n : Str} {G : Hh} (hl : l.length ≤ 10) : ∀ (cs : List (List (Str × Str))) (ds : List D) (v4 : Option W), (∀ c ∈ cs, c.length ≤ 100) → ds.length + cs.length * 10 ≤ 100000 →
    ∃ w4, (∀ m, isR m v4 = false → isR m w4 = false) ∧ forL (gN 4) acIn (cs.map cT) (E6 l v1 (some (.dat (.str n))) (some (.ref G.length)) v4) (G ++ [some (.lst ds)]) = some (.nx (E6 l v1 (some (.dat (.str n))) (some (.ref G.length)) w4), G ++ [some (.lst (ds ++ (grow l n cs).map cT))])
  | [], ds, v4, _, _ => ⟨v4, fun _ e => e, by simp [grow]; rfl⟩
  | c :: cs, ds, v4, hc, hd => by
    rw [List.length_cons] at hd
    have t := acIn_ok (l := l) (v1 := v1) (n := n) (c := c) (G := G) (ds := ds) hl (hc c List.mem_cons_self) (by omega)
    obtain ⟨w4, i4, e⟩ := acIn_loop (v1 := v1) (n := n) (G := G) hl cs (ds ++ (l.map fun t => c ++ [(n, t)]).map cT) (some (.dat (cT c))) (fun d hd' => hc d (List.mem_cons_of_mem _ hd')) (by rw [List.length_append, List.length_map, List.length_map]; omega)
    refine ⟨w4, fun m _ => i4 m rfl, ?_⟩
    have k : gN 4 (.dat (cT c)) (E6 l v1 (some (.dat (.str n))) (some (.ref G.length)) v4) (G ++ [some (.lst ds)]) = some (E6 l v1 (some (.dat (.str n))) (some (.ref G.length)) (some (.dat (cT c)))) := rfl
    have eg : grow l n (c :: cs) = (l.map fun t => c ++ [(n, t)]) ++ grow l n cs := by unfold grow; rw [List.flatMap_cons]
    rw [List.map_cons]
    unfold forL
    simp only [k, t]
    rw [eg, List.map_append, ← List.append_assoc]
    exact e
noncomputable def acOut : SM := (sSeq (sAsg (fA (lstW true) (fNil)) (gN 3))
    (sSeq (sFor (seqI (fVar 1)) (gN 4) acIn)
    (sFrz 3 (sAsg (fVar 3) (gN 1)))))
theorem acOut_ok {l : List Str} {n : Str} {G : Hh} {acc : List (List (Str × Str))} {v3 v4 : Option W} (hl : l.length ≤ 10) (ha : ∀ c ∈ acc, c.length ≤ 100) (h3 : acc.length ≤ 1000) (i4 : ∀ m, isR m v4 = false) :
    ∃ w3 w4, (∀ m, isR m w3 = false) ∧ (∀ m, isR m w4 = false) ∧ acOut (E6 l (some (.dat (.list (acc.map cT)))) (some (.dat (.str n))) v3 v4) G = some (.nx (E6 l (some (.dat (.list ((grow l n acc).map cT)))) (some (.dat (.str n))) w3 w4), G ++ [none]) := by
  obtain ⟨w4, j4, e⟩ := acIn_loop (l := l) (v1 := some (.dat (.list (acc.map cT)))) (n := n) (G := G) hl acc [] v4 ha (by show 0 + _ ≤ _; omega)
  rw [List.nil_append] at e
  have k4 : ∀ m, isR m w4 = false := fun m => j4 m (i4 m)
  have fz := frz_lst (i := 3) (n := G.length) (ds := (grow l n acc).map cT) (ρ := E6 l (some (.dat (.list (acc.map cT)))) (some (.dat (.str n))) (some (.ref G.length)) w4) (h := G ++ [some (.lst ((grow l n acc).map cT))]) rfl (app_get rfl) (by
    simp only [List.set_cons_succ, List.set_cons_zero, List.any_cons, List.any_nil, isR_dat, isR_none, k4, Bool.or_self])
  rw [app_set rfl] at fz
  refine ⟨some (.dat (.list ((grow l n acc).map cT))), w4, fun _ => rfl, k4, ?_⟩
  unfold acOut
  refine (zA (w := .ref G.length) (h1 := G ++ [some (.lst [])]) (ρ1 := E6 l (some (.dat (.list (acc.map cT)))) (some (.dat (.str n))) (some (.ref G.length)) v4) (xA xN rfl) rfl).trans ?_
  refine (zF (xS (E := fVar 1) (x := .list (acc.map cT)) rfl (.inl rfl)) e).trans ?_
  refine (zZ fz).trans ?_
  rfl
theorem ac_loop {l : List Str} (hl : l.length ≤ 4) : ∀ (ns : List Str) (acc : List (List (Str × Str))) (k : Nat) (v2 v3 v4 : Option W) (G : Hh), (∀ c ∈ acc, c.length ≤ k) → k + ns.length ≤ 50 → acc.length * 4 ^ ns.length ≤ 256 → (∀ m, isR m v4 = false) →
    ∃ (w2 w3 w4 : Option W) (q : Nat), forL (gN 2) acOut (ns.map .str) (E6 l (some (.dat (.list (acc.map cT)))) v2 v3 v4) G = some (.nx (E6 l (some (.dat (.list ((allF l ns acc).map cT)))) w2 w3 w4), G ++ List.replicate q none)
  | [], acc, k, v2, v3, v4, G, _, _, _, _ => ⟨v2, v3, v4, 0, by simp [allF]; rfl⟩
  | n :: ns, acc, k, v2, v3, v4, G, ha, hk, h4, i4 => by
    rw [List.length_cons] at hk
    rw [List.length_cons, Nat.pow_succ] at h4
    have pp : 1 ≤ 4 ^ ns.length := Nat.pow_pos (by decide)
    have a256 : acc.length ≤ 256 := Nat.le_trans (Nat.le_mul_of_pos_right _ (by omega)) h4
    obtain ⟨w3, w4, _, k4, e1⟩ := acOut_ok (n := n) (G := G) (v3 := v3) (v4 := v4) (l := l) (acc := acc) (by omega) (fun c hc => by have := ha c hc; omega) (by omega) i4
    have hg : (grow l n acc).length ≤ acc.length * 4 := by rw [grow_len]; exact Nat.mul_le_mul_left _ hl
    obtain ⟨x2', x3, x4, q, e2⟩ := ac_loop hl ns (grow l n acc) (k + 1) (some (.dat (.str n))) w3 w4 (G ++ [none]) (fun c hc => by
      obtain ⟨a, h1, h2⟩ := List.mem_flatMap.mp hc
      obtain ⟨t, _, rfl⟩ := List.mem_map.mp h2
      have := ha a h1
      rw [List.length_append]; show a.length + 1 ≤ _; omega) (by omega) (by
      refine Nat.le_trans (Nat.mul_le_mul_right _ hg) ?_
      rw [Nat.mul_assoc, Nat.mul_comm 4]
      exact h4) k4
    refine ⟨x2', x3, x4, q + 1, ?_⟩
    have kk : gN 2 (.dat (.str n)) (E6 l (some (.dat (.list (acc.map cT)))) v2 v3 v4) G = some (E6 l (some (.dat (.list (acc.map cT)))) (some (.dat (.str n))) v3 v4) := rfl
    rw [List.map_cons]
    unfold forL
    simp only [kk, e1]
    rw [e2, List.append_assoc]
    rfl
theorem all_calls_ok {l : List Str} (hl : l.length ≤ 4) : m__law_all_calls [.dat (.list (l.map .str))] h = some (.dat (.list ((allF l l [[]]).map cT)), h) := by
  have hz : sizeLine = 16777216 := rfl
  have p4 : 4 ^ l.length ≤ 4 ^ 4 := Nat.pow_le_pow_right (by omega) hl
  have p256 : (4 : Nat) ^ 4 = 256 := by decide
  obtain ⟨w2, w3, w4, q, e⟩ := ac_loop (l := l) hl l [[]] 0 none none none h (fun c hc => by rw [List.mem_singleton] at hc; subst hc; exact Nat.le_refl _) (by omega) (by show 1 * _ ≤ _; omega) fun _ => rfl
  have lv : leave false h (.dat (.list ((allF l l [[]]).map cT))) (h ++ List.replicate q none) = some (.dat (.list ((allF l l [[]]).map cT)), h) := by
    have tk : (h ++ List.replicate q none).take h.length = h := List.take_left
    have := leave_dat (h := h) (h' := h ++ List.replicate q none) (d := .list ((allF l l [[]]).map cT)) (by rw [tk])
    rw [tk] at this
    exact this
  have eq : m__law_all_calls = fnM false 1 6 (sSeq (sAsg (fA (lstW false) (fCons (fA tupW (fNil)) (fNil))) (gN 1)) (sSeq (sFor (seqI (fVar 0)) (gN 2) acOut) (sRet (fVar 1)))) := rfl
  rw [eq]
  refine fnM_rt (w := .dat (.list ((allF l l [[]]).map cT))) (h' := h ++ List.replicate q none) ?_ rfl lv
  show sSeq _ _ (E6 l none none none none) h = _
  refine (zA (ρ1 := E6 l (some (.dat (.list ([[]].map cT)))) none none none) (xA (xC (xA xN (xTp (ds := []) rfl (Nat.zero_le _))) xN) (xLst (ds := [.tuple []]) rfl (by show 1 ≤ sizeLine; decide))) rfl).trans ?_
  refine (zF (xS (E := fVar 0) (x := .list (l.map .str)) rfl (.inl rfl)) e).trans ?_
  rfl
end
theorem lex_total : ∀ us vs : List Nat, lexle us vs ∨ lexle vs us
  | [], vs => .inl (by cases vs <;> trivial)
  | _ :: _, [] => .inl trivial
  | u :: us, v :: vs => by
    rcases Nat.lt_trichotomy u v with h | h | h
    · exact .inl (.inl h)
    · exact (lex_total us vs).elim (fun q => .inl (.inr ⟨h, q⟩)) fun q => .inr (.inr ⟨h.symm, q⟩)
    · exact .inr (.inl h)
theorem rk_lex {n : Nat} {R : List Nat} {lo : Nat} {us vs : List Nat} (hu : VQ n R lo us) (hv : VQ n R lo vs) (h : rk n R lo us ≤ rk n R lo vs) (ne : rk n R lo us ≠ rk n R lo vs) : lexle us vs :=
  (lex_total us vs).elim id fun q => by have := rk_le hv hu q; omega
theorem rk_part {n r lo u v : Nat} {R us : List Nat} (h3 : VQ n R (u + r) us) (h1 : lo ≤ u) (l : u < v) : sumR (fun v => cnt n R (v + r)) lo (u - lo) + rk n R (u + r) us < sumR (fun v => cnt n R (v + r)) lo (v - lo) := by
  have lt := rk_lt h3
  have s1 : sumR (fun v => cnt n R (v + r)) lo (u - lo + 1) = sumR (fun v => cnt n R (v + r)) lo (u - lo) + cnt n R (u + r) := by
    rw [sumR, show lo + (u - lo) = u by omega]
  have s2 := sumR_mono (fun v => cnt n R (v + r)) lo (show u - lo + 1 ≤ v - lo by omega)
  omega
theorem rk_inj {n : Nat} : ∀ {R : List Nat} {lo : Nat} {us vs : List Nat}, VQ n R lo us → VQ n R lo vs → rk n R lo us = rk n R lo vs → us = vs
  | [], _, [], [], _, _, _ => rfl
  | r :: R, lo, u :: us, v :: vs, h, g, e => by
    obtain ⟨h1, h2, h3⟩ := h
    obtain ⟨g1, g2, g3⟩ := g
    have e : sumR (fun v => cnt n R (v + r)) lo (u - lo) + rk n R (u + r) us = sumR (fun v => cnt n R (v + r)) lo (v - lo) + rk n R (v + r) vs := e
    rcases Nat.lt_trichotomy u v with l | l | l
    · have := rk_part (n := n) h3 h1 l
      omega
    · subst l
      rw [rk_inj h3 g3 (by omega)]
    · have := rk_part (n := n) g3 g1 l
      omega
  | [], _, _ :: _, _, h, _, _ => h.elim
  | _ :: _, _, [], _, h, _, _ => h.elim
  | [], _, [], _ :: _, _, g, _ => g.elim
  | _ :: _, _, _ :: _, [], _, g, _ => g.elim
theorem falls_few {A B : List Str} (h : B ≠ []) : fallsN A B < B.length := by
  unfold fallsN
  have := List.length_filter_le (fun p => decide (A.idxOf p.2 < A.idxOf p.1)) (B.zip (B.drop 1))
  have hp := List.length_pos_iff.mpr h
  rw [List.length_zip, List.length_drop] at this
  omega
theorem cnt_all {A B : List Str} (lB : B.length = A.length) (h : B ≠ []) : cnt A.length (nxt A B) 0 = bin (2 * A.length - 1 - fallsN A B) A.length := by
  have f := falls_few (A := A) h
  rw [cnt_closed (nxt_z A B) (fun en => by have := nxt_len A B; rw [en] at this; simp at this; exact absurd (List.length_eq_zero_iff.mp this.symm) h), nxt_sum, nxt_len, lB, if_pos (by omega)]
  congr 1
  omega
theorem alike_ns : ∀ us vs : List Nat, PySem.W.alikeAll (intsL us) (intsL vs) = true
  | [], [] => rfl
  | [], _ :: _ => rfl
  | _ :: _, [] => rfl
  | u :: us, v :: vs => by
    have ih := alike_ns us vs
    show (PySem.W.alike (.int (u : Int)) (.int (v : Int)) && PySem.W.alikeAll (intsL us) (intsL vs)) = true
    rw [ih]; rfl
theorem dlt_lex : ∀ us vs : List Nat, us.length = vs.length → lexle us vs → PyProof.Rows.lexLt PyProof.Rows.itemOrd (PySem.W.keyToksAll (intsL vs)) (PySem.W.keyToksAll (intsL us)) = false
  | [], [], _, _ => rfl
  | u :: us, v :: vs, hl, h => by
    have al : PySem.W.alike (.int (v : Int)) (.int (u : Int)) = true := rfl
    show PyProof.Rows.lexLt PyProof.Rows.itemOrd (PySem.W.keyToksAll (.int (v : Int) :: intsL vs)) (PySem.W.keyToksAll (.int (u : Int) :: intsL us)) = false
    rcases h with h | ⟨rfl, h⟩
    · rw [PySem.W.dataLt_all_no al (by
        have : ((v : Int) == (u : Int)) = false := by rw [beq_eq_false_iff_ne]; omega
        simpa [PyData.eqv] using this), PySem.W.dataLt_int, decide_eq_false (by omega)]
    · rw [PySem.W.dataLt_all_yes al (by simp [PyData.eqv])]
      exact dlt_lex us vs (by simpa using hl) h
  | [], _ :: _, hl, _ => by cases hl
  | _ :: _, [], hl, _ => by cases hl
theorem eqv_ns : ∀ us vs : List Nat, PyData.eqvAll (intsL us) (intsL vs) = decide (us = vs)
  | [], [] => by simp [PyData.eqvAll, intsL]
  | [], v :: vs => by simp [PyData.eqvAll, intsL]
  | u :: us, [] => by simp [PyData.eqvAll, intsL]
  | u :: us, v :: vs => by
    have ih := eqv_ns us vs
    have e : PyData.eqvAll (intsL (u :: us)) (intsL (v :: vs)) = (PyData.eqv (.int (u : Int)) (.int (v : Int)) && PyData.eqvAll (intsL us) (intsL vs)) := by
      unfold intsL
      rw [List.map_cons, List.map_cons, PyData.eqvAll]
    rw [e, ih]
    by_cases h : u = v
    · subst h; simp [PyData.eqv]
    · have h2 : ¬ (u : Int) = (v : Int) := by omega
      simp [PyData.eqv, h, h2]
theorem intsL_int (us : List Nat) : intsL us = (us.map fun u : Nat => (u : Int)).map .int := by
  unfold intsL
  rw [List.map_map]; rfl
theorem shp_ns (us : List Nat) : shp (lN us) = true := by
  show shp (.list (intsL us)) = true
  rw [intsL_int]
  exact shp_ints _
theorem depth_ns (us : List Nat) : (lN us).depth ≤ 1 := by
  have h2 : ∀ us : List Nat, PyData.depthAll (intsL us) = 0 := fun us => by
    induction us with
    | nil => rfl
    | cons a t ih =>
      show PyData.depthAll (.int (a : Int) :: intsL t) = 0
      rw [PyData.depthAll, ih]; simp [PyData.depth]
  show (PyData.list (intsL us)).depth ≤ 1
  rw [PyData.depth, h2]; omega
theorem lex_refl : ∀ us : List Nat, lexle us us
  | [] => trivial
  | u :: us => .inr ⟨rfl, lex_refl us⟩
theorem lex_of {n : Nat} {R : List Nat} {lo : Nat} {us vs : List Nat} (hu : VQ n R lo us) (hv : VQ n R lo vs) (h : rk n R lo us ≤ rk n R lo vs) : lexle us vs := by
  by_cases z : rk n R lo us = rk n R lo vs
  · rw [rk_inj hu hv z]; exact lex_refl _
  · exact rk_lex hu hv h z
theorem leP_eq {a b : Str × Str} (h : a.1 = b.1 → a = b) : leP a b = leS a.1 b.1 := by
  have e : leP a b = !PySem.W.dataLt (prT b) (prT a) := rfl
  obtain ⟨a1, a2⟩ := a
  obtain ⟨b1, b2⟩ := b
  rw [e]
  by_cases z : a1 = b1
  · cases h z
    have q1 : PyData.eqv (.str a1) (.str a1) = true := by simp [PyData.eqv]
    have q2 : PyData.eqv (.str a2) (.str a2) = true := by simp [PyData.eqv]
    show (!PySem.W.dataLt (.tuple [.str a1, .str a2]) (.tuple [.str a1, .str a2])) = _
    rw [PySem.W.dataLt_pair rfl rfl, q1, q2]
    unfold leS
    simp
  · have q : PyData.eqv (.str b1) (.str a1) = false := by
      simp only [PyData.eqv, beq_eq_false_iff_ne, ne_eq]
      exact fun w => z w.symm
    show (!PySem.W.dataLt (.tuple [.str b1, .str b2]) (.tuple [.str a1, .str a2])) = _
    rw [PySem.W.dataLt_pair rfl rfl, q]
    simp only [Bool.false_eq_true, if_false]
    rw [PySem.W.dataLt_str, ← decide_not]
    unfold leS
    simp only [decide_eq_decide, List.not_lt]
theorem leP_firsts {ps : List (Str × Str)} (nd : (ps.map (·.1)).Nodup) : (ps.mergeSort leP).map (·.1) = sortS (ps.map (·.1)) := by
  unfold sortS
  exact PySem.W.sort_maps (r := leP) (s := leS) (fun p : Str × Str => p.1) (l := ps) fun a ha b hb => leP_eq fun z => by
    have e1 := goal_of nd a ha
    have e2 := goal_of nd b hb
    rw [z] at e1
    exact Prod.ext z (e1.symm.trans e2)
section
variable {h : Hh} {ρ : DL.Env}
theorem xAs {E : EM} {ds : List D} {h1 : Hh} (he : E ρ h = some (.row ds, h1)) : fAsT E ρ h = some (.dat (.tuple ds), h1) := by
  unfold fAsT
  simp only [he, obnd]
theorem idxW_lst {x : List D} {i : Int} {d : D} (a : L2.atI x i = some d) : idxW (.dat (.list x)) (.dat (.int i)) h = some (.dat d, h) := by
  unfold idxW
  simp only [deref, a]
  rfl
theorem xIdR {E F : EM} {A : List Str} {s : Str} (he : E ρ h = some (.row (A.map .str), h)) (hf : F ρ h = some (.dat (.str s), h)) (hs : s ∈ A) : fM isRow indexR E (fCons F fNil) ρ h = some (.dat (.int (A.idxOf s : Int)), h) := by
  have ix : indexR (.row (A.map .str)) [.dat (.str s)] h = some (.dat (.int (A.idxOf s : Int)), h) := by
    unfold indexR
    simp only [rowS_strs]
    rw [if_pos hs]; rfl
  have ga : (fCons F fNil) ρ h = some ([.dat (.str s)], h) := xC hf xN
  have ir : isRow (.row (A.map .str)) h = true := rfl
  unfold fM
  simp only [he, obnd, ir, if_true, ga, ix]
end
theorem rowR_ok {x : D} {l : List Str} {h : Hh} {b c : Nat} (hx : IsSeq x (l.map .str)) (ht : Txts l) (hb : BoxAt h b c) (hc : c < 1000000) (hl : l.length ≤ 1000) :
    ∃ (r : List Str) (h' : Hh), m__law_rowR [.ref b, .dat x] h = some (.row (r.map .str), h') ∧ r.Perm l ∧ BoxAt h' b (c + l.length) ∧ Only b h h' := by
  have hz : sizeLine = 16777216 := rfl
  have key := whileL_run (t := fB (f2 (eqW true) (fVar 2) (fA (lstW false) (fNil)))) (body := rowBody) (fun n ρ g => ∃ (left found : List Str) (g' : Hh), ρ = [some (.ref b), some (.dat x), some (.ref h.length), some (.ref (h.length + 1))] ∧ g = g' ++ [some (.lst (left.map .str)), some (.lst (found.map .str))] ∧ (found ++ left).Perm l ∧ left.length + n = l.length ∧ BoxAt g' b (c + n) ∧ Only b h g')
    l.length (n := 0) (fuel := 100000) (ρ := [some (.ref b), some (.dat x), some (.ref h.length), some (.ref (h.length + 1))]) (h := h ++ [some (.lst (l.map .str)), some (.lst [])]) (by omega) ⟨l, [], h, rfl, rfl, List.Perm.refl _, rfl, hb, .refl _ _⟩ (by
      intro j ρ g _ hj hi
      obtain ⟨left, found, g', rfl, rfl, pm, ll, bx, on⟩ := hi
      have gl := on.len
      have tl : Txts left := fun s hs => ht s (pm.mem_iff.mp (List.mem_append_right _ hs))
      have fl : found.length ≤ l.length := by have := pm.length_eq; rw [List.length_append] at this; omega
      obtain ⟨i, g1, e1, i0, i1, b1, o1⟩ := take_ok (n := (left.length : Int)) (box_app (l := [some (.lst (left.map .str)), some (.lst (found.map .str))]) bx) (by omega) (by omega) (by omega)
      obtain ⟨g2, rfl, g2l, o2⟩ := only_two bx.lt o1
      have hi : i.toNat < left.length := by omega
      have hlb : h.length = g'.length := gl.symm
      have et := row_turn (x := .dat x) (p := h.length) (q := h.length + 1) (left := left.map .str) (found := found.map .str) (d := .str left[i.toNat]) (n := (left.length : Int)) (two_get (by omega)).1 (two_get (by omega)).2 (by rw [List.length_map]) e1 (two_get (by omega)).1 i0 (by omega) (by rw [List.getElem?_map, List.getElem?_eq_getElem hi]; rfl) (two_set (by omega)).1 (two_get (by omega)).2 (by rw [List.length_map]; omega)
      rw [(two_set (by omega)).2] at et
      refine ⟨_, _, _, ?_, et, left.eraseIdx i.toNat, found ++ [left[i.toNat]], g2, rfl, ?_, ?_, ?_, ?_, on.trans o2⟩
      · have ne : left ≠ [] := fun z => by rw [z] at hi; simp at hi
        have e3 := eqW_nil (n := h.length) (h := g' ++ [some (.lst (left.map .str)), some (.lst (found.map .str))]) tl (two_get (by omega)).1
        rw [decide_eq_true ne] at e3
        have c0 : 0 ≤ sizeLine := Nat.zero_le _
        clear et e1 hz ht hb hc hl pm ll bx on tl fl b1 o1 o2 hx gl hlb g2l i0 i1 ne hi hj
        walk_at "dl"
      · rw [erase_map, List.map_append]; rfl
      · refine List.Perm.trans ?_ pm
        rw [List.append_assoc]
        exact List.Perm.append_left _ (erase_perm left i.toNat hi).symm
      · rw [List.length_eraseIdx_of_lt hi]; omega
      · have := box_take b1 (n := g2.length) (by rw [g2l]; exact bx.lt)
        rw [List.take_append_of_le_length (Nat.le_refl _), List.take_length] at this
        exact this) (by
      intro ρ g hi
      obtain ⟨left, found, g', rfl, rfl, pm, ll, bx, on⟩ := hi
      have e0 : left = [] := List.length_eq_zero_iff.mp (by omega)
      subst e0
      have gl := on.len
      have e3 := eqW_nil (l := []) (n := h.length) (h := g' ++ [some (.lst (([] : List Str).map .str)), some (.lst (found.map .str))]) (fun s hs => by cases hs) (two_get (by omega)).1
      have e4 : decide (([] : List Str) ≠ []) = false := by simp
      rw [e4] at e3
      have c0 : 0 ≤ sizeLine := Nat.zero_le _
      rw [List.map_nil] at e3 ⊢
      clear hz ht hb hc hl pm ll bx on hx gl e4
      walk_at "dl")
  obtain ⟨ρ', g, e2, left, found, g', rfl, rfl, pm, ll, bx, on⟩ := key
  have e0 : left = [] := List.length_eq_zero_iff.mp (by omega)
  subst e0
  rw [List.append_nil] at pm
  rw [Nat.zero_add] at bx
  refine ⟨found, g', ?_, pm, bx, on⟩
  have gl := on.len
  have lb := hb.lt
  have lv : leave false h (.row (found.map .str)) (g' ++ [some (.lst []), none]) = some (.row (found.map .str), g') := by
    have e : (g' ++ [some (MO.lst []), none]).take h.length = g' := by rw [← gl, List.take_append_of_le_length (Nat.le_refl _), List.take_length]
    have el : live ((g' ++ [some (MO.lst []), none]).take h.length) = live h := by rw [e]; exact live_only hb bx on
    unfold leave
    rw [if_pos el, e]
  have tr : ∀ g : Hh, tupRW [.dat (.list (found.map .str))] g = some (.row (found.map .str), g) := fun _ => rfl
  have hf : frz 3 [some (.ref b), some (.dat x), some (.ref h.length), some (.ref (h.length + 1))] (g' ++ [some (.lst []), some (.lst (found.map .str))]) = some ([some (.ref b), some (.dat x), some (.ref h.length), some (.dat (.list (found.map .str)))], g' ++ [some (.lst []), none]) := by
    have g1 := (two_get (g := g') (o := some (MO.lst [])) (o' := some (MO.lst (found.map .str))) (n := h.length) (by omega)).2
    have g2 := (two_set (g := g') (o := some (MO.lst [])) (o' := some (MO.lst (found.map .str))) (z := none) (n := h.length) (by omega)).2
    have n1 : (b = h.length + 1) = False := eq_false (by omega)
    have n2 : (h.length = h.length + 1) = False := eq_false (by omega)
    unfold frz
    simp only [List.getElem?_cons_zero, List.getElem?_cons_succ, g1, g2, List.set_cons_zero, List.set_cons_succ, List.any_cons, List.any_nil, isR_ref, isR_dat, isR_none, n1, n2, decide_false, Bool.or_false, isTab, Bool.false_eq_true, if_false, moD]
  have ew : sWhile 100000 (fB (f2 (eqW true) (fVar 2) (fA (lstW false) (fNil)))) rowBody [some (.ref b), some (.dat x), some (.ref h.length), some (.ref (h.length + 1))] (h ++ [some (.lst (l.map .str)), some (.lst [])]) = some (.nx [some (.ref b), some (.dat x), some (.ref h.length), some (.ref (h.length + 1))], g' ++ [some (.lst []), some (.lst (found.map .str))]) := e2
  have c0 : 0 ≤ sizeLine := Nat.zero_le _
  have ha : (h ++ [some (MO.lst (l.map .str))]) ++ [some (.lst [])] = h ++ [some (.lst (l.map .str)), some (.lst [])] := by simp
  have hl1 : (h ++ [some (MO.lst (l.map PyData.str))]).length = h.length + 1 := by simp
  unfold rowBody at ew
  unfold m__law_rowR
  clear hz ht hb hc hl pm ll bx on e2 gl lb
  rcases hx with rfl | rfl <;> walk_at "dl"
theorem dlt_strict : ∀ us vs : List Nat, us.length = vs.length → lexle us vs → us ≠ vs → PyProof.Rows.lexLt PyProof.Rows.itemOrd (PySem.W.keyToksAll (intsL us)) (PySem.W.keyToksAll (intsL vs)) = true
  | [], [], _, _, ne => absurd rfl ne
  | u :: us, v :: vs, hl, h, ne => by
    have al : PySem.W.alike (.int (u : Int)) (.int (v : Int)) = true := rfl
    show PyProof.Rows.lexLt PyProof.Rows.itemOrd (PySem.W.keyToksAll (.int (u : Int) :: intsL us)) (PySem.W.keyToksAll (.int (v : Int) :: intsL vs)) = true
    rcases h with h | ⟨rfl, h⟩
    · rw [PySem.W.dataLt_all_no al (by
        have : ((u : Int) == (v : Int)) = false := by rw [beq_eq_false_iff_ne]; omega
        simpa [PyData.eqv] using this), PySem.W.dataLt_int, decide_eq_true (by omega)]
    · rw [PySem.W.dataLt_all_yes al (by simp [PyData.eqv])]
      exact dlt_strict us vs (by simpa using hl) h fun z => ne (by rw [z])
  | [], _ :: _, hl, _, _ => by cases hl
  | _ :: _, [], hl, _, _ => by cases hl
theorem shpPairs {l : List (Str × Str)} (ht : TxtP l) : shp (.list (l.map prT)) = true := by
  have h1 := (tx_lays (tx_pairs ht)).1
  have h2 := depth_pairs l
  unfold shp
  rw [PyData.canLay0, h1, PyData.depth]
  simp only [Bool.true_and, decide_eq_true_eq]
  omega
theorem sortSelf {l : List Str} (h : l.Pairwise fun a b => leS a b = true) : sortS l = l := List.mergeSort_of_pairwise h
theorem minD_is {m : D} : ∀ (xs : List D) (a : D), (a = m ∨ (PySem.W.dataLt m a = true ∧ m ∈ xs)) → (∀ y ∈ xs, PySem.W.dataLt y m = false ∧ (y = m ∨ PySem.W.dataLt m y = true)) → PySem.W.minD a xs = m
  | [], a, h, _ => by
    rcases h with rfl | ⟨_, h⟩
    · rfl
    · cases h
  | y :: xs, a, h, hy => by
    obtain ⟨q1, q2⟩ := hy y List.mem_cons_self
    have ih := fun b hb => minD_is (m := m) xs b hb fun z hz => hy z (List.mem_cons_of_mem _ hz)
    show PySem.W.minD (if PySem.W.dataLt y a then y else a) xs = m
    rcases h with rfl | ⟨h1, h2⟩
    · rw [q1]
      exact ih _ (.inl rfl)
    · by_cases z : PySem.W.dataLt y a = true
      · rw [if_pos z]
        rcases q2 with rfl | q2
        · exact ih _ (.inl rfl)
        · refine ih _ (.inr ⟨q2, ?_⟩)
          rcases List.mem_cons.mp h2 with rfl | h2
          · rw [q1] at q2; cases q2
          · exact h2
      · rw [if_neg z]
        refine ih _ (.inr ⟨h1, ?_⟩)
        rcases List.mem_cons.mp h2 with rfl | h2
        · exact absurd h1 z
        · exact h2
abbrev ent (A B : List Str) (ps : List (Str × Str)) : D := .tuple [.int (goN ps : Int), .tuple (intsL (seqF A B ps)), cT ps]
theorem alike_prs : ∀ ps qs : List (Str × Str), PySem.W.alikeAll (ps.map prT) (qs.map prT) = true
  | [], _ => by simp [PySem.W.alikeAll]
  | _ :: _, [] => by simp [PySem.W.alikeAll]
  | p :: ps, q :: qs => by
    have ih := alike_prs ps qs
    rw [List.map_cons, List.map_cons, PySem.W.alikeAll, ih]
    simp [PySem.W.alike, PySem.W.alikeAll]
theorem alike_ent {A B : List Str} {ps qs : List (Str × Str)} : PySem.W.alike (ent A B ps) (ent A B qs) = true := by
  have a1 : PySem.W.alike (.tuple (intsL (seqF A B ps))) (.tuple (intsL (seqF A B qs))) = true := by rw [PySem.W.alike, alike_ns]
  have a2 : PySem.W.alike (cT ps) (cT qs) = true := by
    show PySem.W.alike (.tuple (ps.map prT)) (.tuple (qs.map prT)) = true
    rw [PySem.W.alike, alike_prs]
  have a0 : PySem.W.alike (.int (goN ps : Int)) (.int (goN qs : Int)) = true := rfl
  show PySem.W.alike (.tuple [.int (goN ps : Int), .tuple (intsL (seqF A B ps)), cT ps]) (.tuple [.int (goN qs : Int), .tuple (intsL (seqF A B qs)), cT qs]) = true
  rw [PySem.W.alike, PySem.W.alikeAll, PySem.W.alikeAll, PySem.W.alikeAll, a0, a1, a2]
  simp [PySem.W.alikeAll]
theorem shp_ent {A B : List Str} {ps : List (Str × Str)} (ht : TxtP ps) : shp (ent A B ps) = true := by
  have s1 := shp_ns (seqF A B ps)
  have s2 := shpPairs ht
  have d1 := depth_ns (seqF A B ps)
  have d2 := depth_call ps
  have c1 : PyData.canLayAll0 (intsL (seqF A B ps)) = true := by
    have : PyData.canLay0 (.list (intsL (seqF A B ps))) = true := by unfold shp at s1; rw [Bool.and_eq_true] at s1; exact s1.1
    rwa [PyData.canLay0] at this
  have c2 : PyData.canLayAll0 (ps.map prT) = true := by
    have : PyData.canLay0 (.list (ps.map prT)) = true := by unfold shp at s2; rw [Bool.and_eq_true] at s2; exact s2.1
    rwa [PyData.canLay0] at this
  have d3 : (PyData.tuple (intsL (seqF A B ps))).depth ≤ 1 := by
    have : (PyData.list (intsL (seqF A B ps))).depth ≤ 1 := d1
    simp only [PyData.depth] at this ⊢; exact this
  have d4 : (cT ps : D).depth ≤ 2 := d2
  have k1 : PyData.canLay0 (.tuple (intsL (seqF A B ps))) = true := by rw [PyData.canLay0]; exact c1
  have k2 : PyData.canLay0 (cT ps) = true := by show PyData.canLay0 (.tuple (ps.map prT)) = true; rw [PyData.canLay0]; exact c2
  have k0 : PyData.canLay0 (.int (goN ps : Int)) = true := by rw [PyData.canLay0]
  have d0 : (PyData.int (goN ps : Int)).depth = 0 := by rw [PyData.depth]
  unfold shp
  rw [PyData.canLay0, PyData.canLayAll0, PyData.canLayAll0, PyData.canLayAll0, PyData.canLayAll0, k0, k1, k2, PyData.depth, PyData.depthAll, PyData.depthAll, PyData.depthAll, PyData.depthAll, d0]
  simp only [Bool.and_self, Bool.true_and, decide_eq_true_eq]
  omega
theorem ent_lt {A B : List Str} {ps qs : List (Str × Str)} : (goN ps < goN qs ∨ (goN ps = goN qs ∧ lexle (seqF A B ps) (seqF A B qs) ∧ seqF A B ps ≠ seqF A B qs)) → PySem.W.dataLt (ent A B qs) (ent A B ps) = false ∧ PySem.W.dataLt (ent A B ps) (ent A B qs) = true := fun h => by
  have al : ∀ i j : Int, PySem.W.alike (.int i) (.int j) = true := fun _ _ => rfl
  have a1 : ∀ us vs : List Nat, PySem.W.alike (.tuple (intsL us)) (.tuple (intsL vs)) = true := fun us vs => by rw [PySem.W.alike, alike_ns]
  show PySem.W.dataLt (.tuple [.int (goN qs : Int), .tuple (intsL (seqF A B qs)), cT qs]) (.tuple [.int (goN ps : Int), .tuple (intsL (seqF A B ps)), cT ps]) = false ∧ PySem.W.dataLt (.tuple [.int (goN ps : Int), .tuple (intsL (seqF A B ps)), cT ps]) (.tuple [.int (goN qs : Int), .tuple (intsL (seqF A B qs)), cT qs]) = true
  rw [PySem.W.dataLt_tuple, PySem.W.dataLt_tuple, PySem.W.dataLt_cons (al _ _), PySem.W.dataLt_cons (al _ _)]
  rcases h with h | ⟨h0, h1, h2⟩
  · have e1 : PyData.eqv (.int (goN qs : Int)) (.int (goN ps : Int)) = false := by
      have : ((goN qs : Int) == (goN ps : Int)) = false := by rw [beq_eq_false_iff_ne]; omega
      simpa [PyData.eqv] using this
    have e2 : PyData.eqv (.int (goN ps : Int)) (.int (goN qs : Int)) = false := by
      have : ((goN ps : Int) == (goN qs : Int)) = false := by rw [beq_eq_false_iff_ne]; omega
      simpa [PyData.eqv] using this
    rw [e1, e2, if_neg (by simp), if_neg (by simp), PySem.W.dataLt_int, PySem.W.dataLt_int]
    exact ⟨decide_eq_false (by omega), decide_eq_true (by omega)⟩
  · have e1 : PyData.eqv (.int (goN qs : Int)) (.int (goN ps : Int)) = true := by rw [h0]; simp [PyData.eqv]
    have e2 : PyData.eqv (.int (goN ps : Int)) (.int (goN qs : Int)) = true := by rw [h0]; simp [PyData.eqv]
    have l : (seqF A B ps).length = (seqF A B qs).length := by unfold seqF; rw [List.length_map, List.length_map]
    have f1 : PyData.eqv (.tuple (intsL (seqF A B qs))) (.tuple (intsL (seqF A B ps))) = false := by
      rw [PyData.eqv, eqv_ns]; exact decide_eq_false fun z => h2 z.symm
    have f2 : PyData.eqv (.tuple (intsL (seqF A B ps))) (.tuple (intsL (seqF A B qs))) = false := by
      rw [PyData.eqv, eqv_ns]; exact decide_eq_false h2
    rw [e1, e2, if_pos rfl, if_pos rfl, PySem.W.dataLt_cons (a1 _ _), PySem.W.dataLt_cons (a1 _ _), f1, f2, if_neg (by simp), if_neg (by simp), PySem.W.dataLt_tuple, PySem.W.dataLt_tuple]
    exact ⟨dlt_lex _ _ l h1, dlt_strict _ _ l h1 h2⟩
def InC (l : List Str) (ps : List (Str × Str)) : Prop := ps.map (·.1) = l ∧ ∀ p ∈ ps, p.2 ∈ l
theorem inC_all {l : List Str} {c : List (Str × Str)} : c ∈ allF l l [[]] ↔ InC l c := by
  rw [allF_mem]
  constructor
  · rintro ⟨a, ha, q, rfl, h1, h2⟩
    rw [List.mem_singleton] at ha
    subst ha
    exact ⟨h1, h2⟩
  · rintro ⟨h1, h2⟩
    exact ⟨[], by simp, c, rfl, h1, h2⟩
theorem InC.call {l A : List Str} {ps : List (Str × Str)} (pA : A.Perm l) (i : InC l ps) : CallOf A ps := ⟨i.1 ▸ pA.symm, fun q hq => pA.mem_iff.mpr (i.2 q hq)⟩
theorem self_goal {ps : List (Str × Str)} (nd : (ps.map (·.1)).Nodup) : ps = (ps.map (·.1)).map fun s => (s, goal ps s) := by
  rw [List.map_map]
  conv => lhs; rw [← List.map_id ps]
  refine List.map_congr_left fun q hq => ?_
  have := goal_of nd q hq
  show q = (q.1, goal ps q.1)
  rw [this]
theorem same_call {l A B : List Str} {ps qs : List (Str × Str)} (nl : l.Nodup) (pA : A.Perm l) (pB : B.Perm A) (i : InC l ps) (j : InC l qs) (e : seqF A B ps = seqF A B qs) : ps = qs := by
  have n1 : (ps.map (·.1)).Nodup := by rw [i.1]; exact nl
  have n2 : (qs.map (·.1)).Nodup := by rw [j.1]; exact nl
  rw [self_goal n1, self_goal n2, i.1, j.1]
  refine List.map_congr_left fun s hs => ?_
  have sB : s ∈ B := pB.mem_iff.mpr (pA.mem_iff.mpr hs)
  have e1 : A.idxOf (goal ps s) = A.idxOf (goal qs s) := by
    unfold seqF at e
    exact List.map_inj_left.mp e s sB
  have sA := pA.mem_iff.mpr hs
  have m1 := ((i.call pA).goal_mem sA).2
  have m2 := ((j.call pA).goal_mem sA).2
  have : goal ps s = goal qs s := idx_inj m1 m2 e1
  rw [this]
theorem callV_in {l A B : List Str} {vs : List Nat} (nl : l.Nodup) (so : l.Pairwise fun a b => leS a b = true) (pA : A.Perm l) (pB : B.Perm A) (hv : ∀ v ∈ vs, v < A.length) (hl : vs.length = B.length) : InC l (callV A B vs) := by
  have nA : A.Nodup := pA.nodup_iff.mpr nl
  have c := (callV_of nA pB hl hv).1
  have lz : B.length ≤ (vs.map fun v => A[v]?.getD ("" : Str)).length := by rw [List.length_map]; omega
  have mf := List.map_fst_zip lz
  refine ⟨?_, fun q hq => pA.mem_iff.mp (c.tgt q hq)⟩
  unfold callV
  rw [leP_firsts (by rw [mf]; exact pB.nodup_iff.mpr nA), mf, sortS_eq (pB.trans pA), sortSelf so]
theorem in_callV {l A B : List Str} {ps : List (Str × Str)} (nl : l.Nodup) (so : l.Pairwise fun a b => leS a b = true) (pA : A.Perm l) (pB : B.Perm A) (i : InC l ps) : callV A B (seqF A B ps) = ps := by
  have nA : A.Nodup := pA.nodup_iff.mpr nl
  have hv : ∀ v ∈ seqF A B ps, v < A.length := fun v hv => by
    obtain ⟨b, hb, rfl⟩ := List.mem_map.mp hv
    exact List.idxOf_lt_length_of_mem ((i.call pA).goal_mem (pB.mem_iff.mp hb)).2
  have hl : (seqF A B ps).length = B.length := by unfold seqF; rw [List.length_map]
  exact same_call nl pA pB (callV_in nl so pA pB hv hl) i (callV_of nA pB hl hv).2
theorem best_least {l A B : List Str} {vs : List Nat} {ps : List (Str × Str)} (nl : l.Nodup) (so : l.Pairwise fun a b => leS a b = true) (pA : A.Perm l) (pB : B.Perm A) (gr : Gr A.length (items A B) 0 vs) (gb : (goN (callV A B vs) : Int) = A.length - FW A B) (i : InC l ps) (e : led A ps = B) :
    PySem.W.dataLt (ent A B ps) (ent A B (callV A B vs)) = false ∧ (ent A B ps = ent A B (callV A B vs) ∨ PySem.W.dataLt (ent A B (callV A B vs)) (ent A B ps) = true) := by
  have nA : A.Nodup := pA.nodup_iff.mpr nl
  have vv : VQ A.length (nxt A B) 0 vs := gr_vq gr
  have vu := led_seq (i.call pA) e
  obtain ⟨k1, k2⟩ := no_less nA pB gr vu gb
  rw [in_callV nl so pA pB i] at k1 k2
  obtain ⟨cv, ev, _⟩ := callV_led nA pB vv
  by_cases z : goN (callV A B vs) < goN ps
  · obtain ⟨a, b⟩ := ent_lt (A := A) (B := B) (.inl z)
    exact ⟨a, .inr b⟩
  · have ge : goN ps = goN (callV A B vs) := by omega
    have lx := lex_of vv vu (k2 ge)
    by_cases w : vs = seqF A B ps
    · have : ps = callV A B vs := same_call nl pA pB i (callV_in nl so pA pB vv.lt (by rw [vv.len, nxt_len])) (by rw [ev]; exact w.symm)
      rw [← this]
      exact ⟨PyProof.Rows.lex_irrefl _, .inl rfl⟩
    · obtain ⟨a, b⟩ := ent_lt (A := A) (B := B) (ps := callV A B vs) (qs := ps) (.inr ⟨ge.symm, by rw [ev]; exact lx, by rw [ev]; exact w⟩)
      exact ⟨a, .inr b⟩
section
variable {h : Hh} {ρ : DL.Env}
theorem minD_run {ds : List D} {m : D} (hm : m ∈ ds) (hy : ∀ y ∈ ds, PySem.W.dataLt y m = false ∧ (y = m ∨ PySem.W.dataLt m y = true)) (ha : ∀ x ∈ ds, ∀ y ∈ ds, PySem.W.alike x y = true) (hv : ∀ x ∈ ds, isVal x = true) (hs : ∀ x ∈ ds, shp x = true) : minDW [.dat (.list ds)] h = some (.dat m, h) := by
  cases ds with
  | nil => cases hm
  | cons d ds =>
    have e : PySem.W.minD d ds = m := by
      refine minD_is ds d ?_ fun y h1 => hy y (List.mem_cons_of_mem _ h1)
      rcases List.mem_cons.mp hm with rfl | h1
      · exact .inl rfl
      · rcases (hy d List.mem_cons_self).2 with rfl | h2
        · exact .inl rfl
        · exact .inr ⟨h2, h1⟩
    have g : ((d :: ds).all (fun x => (d :: ds).all fun y => PySem.W.alike x y) && ((d :: ds).all isVal && (d :: ds).all shp)) = true := by
      rw [Bool.and_eq_true, Bool.and_eq_true, List.all_eq_true, List.all_eq_true, List.all_eq_true]
      exact ⟨fun x hx => List.all_eq_true.mpr fun y h1 => ha x hx y h1, hv, hs⟩
    unfold minDW
    simp only [deref, g, if_true, e]
    rfl
noncomputable def byE : EM := fA tupW (fCons (fA (m__law_going) (fCons (fVar 4) (fNil))) (fCons (fA tupleW (fCons (fLc false (seqI (fVar 1)) (gN 7) (bYes) (fM isRow indexR (fVar 0) (fCons (f2 idxW (fVar 6) (fVar 7)) (fNil))) [7]) (fNil))) (fCons (fVar 4) (fNil))))
noncomputable def byB : SM := (sIf (fB (f2 (eqW false) (fA (m__law_called) (fCons (fAsT (fVar 0)) (fCons (fVar 4) (fNil)))) (fVar 1))) (sSeq (sAsg (fA (dictA false) (fCons (fVar 4) (fNil))) (gN 6)) (sExpr (fM isL appendW (fVar 3) (fCons byE (fNil))))) (sSkip))
theorem by_eq : m__law_by_all = fnM false 3 8 (sSeq (sAsg (fA (lstW true) (fNil)) (gN 3)) (sSeq (sFor (seqI (fVar 2)) (gN 4) byB)
    (sFrz 3 (sSeq (sAsg (fA minDW (fCons (fVar 3) (fNil))) (gN 5)) (sRet (fA tupW (fCons (f2 idxW (fVar 5) (fC (.int 0))) (fCons (f2 idxW (fVar 5) (fC (.int 2))) (fNil))))))))) := rfl
abbrev E8 (A B : List Str) (L : D) (n : Nat) (v4 v6 : Option W) : DL.Env := [some (.row (A.map .str)), some (.dat (rowT B)), some (.dat L), some (.ref n), v4, none, v6, none]
theorem byE_ok {A B : List Str} {L : D} {n : Nat} {ps : List (Str × Str)} (c : CallOf A ps) (pB : B.Perm A) (hl : A.length ≤ 100) : byE (E8 A B L n (some (.dat (cT ps))) (some (.dat (.dict (sdic (tld ps)))))) h = some (.dat (ent A B ps), h) := by
  have hz : sizeLine = 16777216 := rfl
  have lB := pB.length_eq
  have lp := call_len c
  have c3 : 3 ≤ sizeLine := by decide
  have ix : ∀ {s : Str}, s ∈ A → idxW (.dat (.dict (sdic (tld ps)))) (.dat (.str s)) h = some (.dat (.str (goal ps s)), h) := fun {s} hs => by
    have k1 := (c.goal_mem hs).1
    have g1 : getD (sdic (tld ps)) (.str s) = some (some (.str (goal ps s))) := by rw [getD_sdic, look_tld, k1]; rfl
    unfold idxW
    simp only [deref, g1]; rfl
  have lc : lcL (gN 7) bYes (fM isRow indexR (fVar 0) (fCons (f2 idxW (fVar 6) (fVar 7)) (fNil))) (E8 A B L n (some (.dat (cT ps))) (some (.dat (.dict (sdic (tld ps)))))) (B.map .str) h = some (intsL (seqF A B ps), h) := by
    unfold seqF intsL
    rw [List.map_map]
    exact lcL_list PyData.str _ fun s hs => ⟨[some (.row (A.map .str)), some (.dat (rowT B)), some (.dat L), some (.ref n), some (.dat (cT ps)), none, some (.dat (.dict (sdic (tld ps)))), some (.dat (.str s))], rfl, xIdR (E := fVar 0) rfl (x2 (f := idxW) (A := fVar 6) (B := fVar 7) rfl rfl (ix (pB.mem_iff.mp hs))) ((c.goal_mem (pB.mem_iff.mp hs)).2)⟩
  have tp : tupleW [.dat (.list (intsL (seqF A B ps)))] h = some (.dat (.tuple (intsL (seqF A B ps))), h) := xTup (.inl rfl)
  unfold byE
  exact xA (xC (xA (xC (E := fVar 4) rfl xN) (going_ok (by omega))) (xC (xA (xC (xL (vs := [7]) (xS (E := fVar 1) (x := rowT B) (ds := B.map .str) rfl (.inr rfl)) lc (by rw [intsL_len]; unfold seqF; rw [List.length_map]; omega)) xN) tp) (xC (E := fVar 4) rfl xN))) (xTp (ds := [.int (goN ps : Int), .tuple (intsL (seqF A B ps)), cT ps]) rfl c3)
theorem byB_ok {A B : List Str} {L : D} {ps : List (Str × Str)} {v6 : Option W} {G : Hh} {ds : List D} (c : CallOf A ps) (nd : A.Nodup) (ht : Txts A) (pB : B.Perm A) (h0 : 0 < A.length) (hl : A.length ≤ 100) (hd : ds.length ≤ 100000) :
    ∃ w6, (∀ m, isR m v6 = false → isR m w6 = false) ∧ byB (E8 A B L G.length (some (.dat (cT ps))) v6) (G ++ [some (.lst ds)]) = some (.nx (E8 A B L G.length (some (.dat (cT ps))) w6), G ++ [some (.lst (ds ++ ([ps].filter fun q => decide (led A q = B)).map (ent A B)))]) := by
  have hz : sizeLine = 16777216 := rfl
  have lp := call_len c
  have oc := own_called_ok (h := G ++ [some (MO.lst ds)]) (x := rowT A) (.inr rfl) c nd h0 (by omega)
  have eq := eqW_rows (neg := false) (h := G ++ [some (MO.lst ds)]) (a := led A ps) (b := B) (fun s hs => ht s ((led_perm A ps).mem_iff.mp hs)) (fun s hs => ht s (pB.mem_iff.mp hs))
  rw [if_neg (by simp)] at eq
  have t : fB (f2 (eqW false) (fA (m__law_called) (fCons (fAsT (fVar 0)) (fCons (fVar 4) (fNil)))) (fVar 1)) (E8 A B L G.length (some (.dat (cT ps))) v6) (G ++ [some (.lst ds)]) = some (decide (led A ps = B), G ++ [some (.lst ds)]) :=
    xB (x2 (xA (xC (xAs (E := fVar 0) rfl) (xC (E := fVar 4) rfl xN)) oc) (B := fVar 1) rfl eq)
  by_cases z : led A ps = B
  · refine ⟨some (.dat (.dict (sdic (tld ps)))), fun _ _ => rfl, ?_⟩
    rw [decide_eq_true z] at t
    rw [List.filter_cons_of_pos (by simpa using z), List.filter_nil]
    have e1 := dict_call (h := G ++ [some (MO.lst ds)]) (ps := ps) (by omega) (c.nodup nd)
    have e2 := byE_ok (L := L) (n := G.length) (h := G ++ [some (MO.lst ds)]) c pB hl
    have e3 := zAppE (A := fVar 3) (ρ := E8 A B L G.length (some (.dat (cT ps))) (some (.dat (.dict (sdic (tld ps)))))) rfl (app_get (g := G) (o := some (MO.lst ds)) rfl) e2 (app_get rfl) (by omega)
    rw [app_set rfl] at e3
    unfold byB sIf
    simp only [t, sbnd, if_true]
    exact (zA (ρ1 := E8 A B L G.length (some (.dat (cT ps))) (some (.dat (.dict (sdic (tld ps)))))) (xA (xC (E := fVar 4) rfl xN) e1) rfl).trans e3
  · refine ⟨v6, fun _ q => q, ?_⟩
    rw [decide_eq_false z] at t
    rw [List.filter_cons_of_neg (by simpa using z), List.filter_nil, List.map_nil, List.append_nil]
    unfold byB sIf
    simp only [t, sbnd, Bool.false_eq_true, if_false]
    rfl
theorem by_loop {A B : List Str} {L : D} {G : Hh} (nd : A.Nodup) (ht : Txts A) (pB : B.Perm A) (h0 : 0 < A.length) (hl : A.length ≤ 100) : ∀ (cs : List (List (Str × Str))) (ds : List D) (v4 v6 : Option W), (∀ c ∈ cs, CallOf A c) → ds.length + cs.length ≤ 100000 → (∀ m, isR m v4 = false) → (∀ m, isR m v6 = false) →
    ∃ w4 w6, (∀ m, isR m w4 = false) ∧ (∀ m, isR m w6 = false) ∧ forL (gN 4) byB (cs.map cT) (E8 A B L G.length v4 v6) (G ++ [some (.lst ds)]) = some (.nx (E8 A B L G.length w4 w6), G ++ [some (.lst (ds ++ (cs.filter fun q => decide (led A q = B)).map (ent A B)))])
  | [], ds, v4, v6, _, _, i4, i6 => ⟨v4, v6, i4, i6, by simp; rfl⟩
  | c :: cs, ds, v4, v6, hc, hd, i4, i6 => by
    rw [List.length_cons] at hd
    obtain ⟨u6, j6, t⟩ := byB_ok (L := L) (v6 := v6) (G := G) (ds := ds) (hc c List.mem_cons_self) nd ht pB h0 hl (by omega)
    have lf : (([c].filter fun q => decide (led A q = B)).map (ent A B)).length ≤ 1 := by rw [List.length_map]; exact List.length_filter_le _ [c]
    obtain ⟨w4, w6, k4, k6, e⟩ := by_loop nd ht pB h0 hl cs (ds ++ ([c].filter fun q => decide (led A q = B)).map (ent A B)) (some (.dat (cT c))) u6 (fun q hq => hc q (List.mem_cons_of_mem _ hq)) (by rw [List.length_append]; omega) (fun _ => rfl) (fun m => j6 m (i6 m))
    refine ⟨w4, w6, k4, k6, ?_⟩
    have k : gN 4 (.dat (cT c)) (E8 A B L G.length v4 v6) (G ++ [some (.lst ds)]) = some (E8 A B L G.length (some (.dat (cT c))) v6) := rfl
    have ef : ((c :: cs).filter fun q => decide (led A q = B)) = ([c].filter fun q => decide (led A q = B)) ++ cs.filter fun q => decide (led A q = B) := by rw [← List.filter_append]; rfl
    rw [List.map_cons]
    unfold forL
    simp only [k, t]
    rw [ef, List.map_append, ← List.append_assoc]
    exact e
theorem txt_call {A : List Str} {ps : List (Str × Str)} (ht : Txts A) (c : CallOf A ps) : TxtP ps := fun q hq => ⟨ht _ (c.perm.mem_iff.mp (List.mem_map.mpr ⟨q, hq, rfl⟩)), ht _ (c.tgt q hq)⟩
theorem by_all_ok {l A B : List Str} {vs : List Nat} (nl : l.Nodup) (so : l.Pairwise fun a b => leS a b = true) (ht : Txts A) (pA : A.Perm l) (pB : B.Perm A) (h0 : 0 < A.length) (h4 : A.length ≤ 4) (gr : Gr A.length (items A B) 0 vs) (gb : (goN (callV A B vs) : Int) = A.length - FW A B) (el : led A (callV A B vs) = B) :
    m__law_by_all [.row (A.map .str), .dat (rowT B), .dat (.list ((allF l l [[]]).map cT))] h = some (.dat (.tuple [.int ((A.length : Int) - FW A B), cT (callV A B vs)]), h) := by
  have hz : sizeLine = 16777216 := rfl
  have c2 : 2 ≤ sizeLine := by decide
  have nA : A.Nodup := pA.nodup_iff.mpr nl
  have l4 : l.length ≤ 4 := by have := pA.length_eq; omega
  have vv : VQ A.length (nxt A B) 0 vs := gr_vq gr
  have bI : InC l (callV A B vs) := callV_in nl so pA pB vv.lt (by rw [vv.len, nxt_len])
  have la : (allF l l [[]]).length ≤ 256 := by
    rw [allF_len]
    have p1 : l.length ^ l.length ≤ 4 ^ l.length := Nat.pow_le_pow_left l4 _
    have p2 : 4 ^ l.length ≤ 4 ^ 4 := Nat.pow_le_pow_right (by omega) l4
    have p3 : (4 : Nat) ^ 4 = 256 := by decide
    have p4 : ([[]] : List (List (Str × Str))).length * l.length ^ l.length = l.length ^ l.length := by rw [List.length_singleton, Nat.one_mul]
    omega
  obtain ⟨w4, w6, k4, k6, e⟩ := by_loop (L := .list ((allF l l [[]]).map cT)) (G := h) nA ht pB h0 (by omega) (allF l l [[]]) [] none none (fun c hc => (inC_all.mp hc).call pA) (by show 0 + _ ≤ _; omega) (fun _ => rfl) (fun _ => rfl)
  rw [List.nil_append] at e
  have hM : ∀ y ∈ ((allF l l [[]]).filter fun q => decide (led A q = B)).map (ent A B), ∃ ps, y = ent A B ps ∧ InC l ps ∧ led A ps = B := fun y hy => by
    obtain ⟨ps, h1, rfl⟩ := List.mem_map.mp hy
    obtain ⟨h2, h3⟩ := List.mem_filter.mp h1
    exact ⟨ps, rfl, inC_all.mp h2, of_decide_eq_true h3⟩
  have bm : ent A B (callV A B vs) ∈ ((allF l l [[]]).filter fun q => decide (led A q = B)).map (ent A B) := List.mem_map.mpr ⟨_, List.mem_filter.mpr ⟨inC_all.mpr bI, decide_eq_true el⟩, rfl⟩
  generalize ((allF l l [[]]).filter fun q => decide (led A q = B)).map (ent A B) = M at *
  have mn := minD_run (h := h ++ [none]) bm (fun y hy => by
    obtain ⟨ps, rfl, i, e⟩ := hM y hy
    exact best_least nl so pA pB gr gb i e) (fun x hx y hy => by
    obtain ⟨ps, rfl, _⟩ := hM x hx
    obtain ⟨qs, rfl, _⟩ := hM y hy
    exact alike_ent) (fun x hx => by
    obtain ⟨ps, rfl, _⟩ := hM x hx
    rfl) (fun x hx => by
    obtain ⟨ps, rfl, i, _⟩ := hM x hx
    exact shp_ent (txt_call ht (i.call pA)))
  have fz := frz_lst (i := 3) (n := h.length) (ds := M) (ρ := E8 A B (.list ((allF l l [[]]).map cT)) h.length w4 w6) (h := h ++ [some (.lst M)]) rfl (app_get rfl) (by
    have r0 : isR h.length (some (.row (A.map .str))) = false := rfl
    simp only [List.set_cons_succ, List.set_cons_zero, List.any_cons, List.any_nil, isR_dat, isR_none, r0, k4, k6, Bool.or_self])
  rw [app_set rfl] at fz
  have lv : leave false h (.dat (.tuple [.int ((A.length : Int) - FW A B), cT (callV A B vs)])) (h ++ [none]) = some (.dat (.tuple [.int ((A.length : Int) - FW A B), cT (callV A B vs)]), h) := by
    have tk : (h ++ [none]).take h.length = h := List.take_left
    have := leave_dat (h := h) (h' := h ++ [none]) (d := .tuple [.int ((A.length : Int) - FW A B), cT (callV A B vs)]) (by rw [tk])
    rw [tk] at this
    exact this
  have i0 : idxW (.dat (ent A B (callV A B vs))) (.dat (.int 0)) (h ++ [none]) = some (.dat (.int ((A.length : Int) - FW A B)), h ++ [none]) := by
    rw [← gb]; rfl
  have i2 : idxW (.dat (ent A B (callV A B vs))) (.dat (.int 2)) (h ++ [none]) = some (.dat (cT (callV A B vs)), h ++ [none]) := rfl
  rw [by_eq]
  refine fnM_rt (h' := h ++ [none]) ?_ rfl lv
  show sSeq _ _ [some (.row (A.map .str)), some (.dat (rowT B)), some (.dat (.list ((allF l l [[]]).map cT))), none, none, none, none, none] h = _
  refine (zA (w := .ref h.length) (h1 := h ++ [some (.lst [])]) (ρ1 := E8 A B (.list ((allF l l [[]]).map cT)) h.length none none) (xA xN rfl) rfl).trans ?_
  refine (zF (xS (E := fVar 2) (x := .list ((allF l l [[]]).map cT)) rfl (.inl rfl)) e).trans ?_
  refine (zZ fz).trans ?_
  refine (zA (w := .dat (ent A B (callV A B vs))) (h1 := h ++ [none]) (ρ1 := [some (.row (A.map .str)), some (.dat (rowT B)), some (.dat (.list ((allF l l [[]]).map cT))), some (.dat (.list M)), w4, some (.dat (ent A B (callV A B vs))), w6, none]) (xA (xC (E := fVar 3) rfl xN) mn) rfl).trans ?_
  exact zR (xA (xC (x2 (f := idxW) (A := fVar 5) (B := fC (.int 0)) rfl rfl i0) (xC (x2 (f := idxW) (A := fVar 5) (B := fC (.int 2)) rfl rfl i2) xN)) (xTp (ds := [.int ((A.length : Int) - FW A B), cT (callV A B vs)]) rfl c2))
end
theorem onlyP_set {b n : Nat} {h g : Hh} {z : Option MO} (o : OnlyP b h g) (hn : h.length ≤ n) : OnlyP b h (g.set n z) := ⟨by rw [List.length_set]; exact o.len, fun i hi ne => by
  rw [List.getElem?_set_ne (by omega)]
  exact o.off i hi ne⟩
theorem box_set {b c n : Nat} {g : Hh} {z : Option MO} (x : BoxAt g b c) (ne : n ≠ b) : BoxAt (g.set n z) b c := by
  obtain ⟨d, s, k, e, r⟩ := x
  exact ⟨d, s, k, by rw [List.getElem?_set_ne ne]; exact e, r⟩
theorem GoodN.call {l : List Str} {q : List (Str × Str)} (g : GoodN l q) : CallOf l q := ⟨by rw [g.1], g.2⟩
def chg (ps : List (Str × Str)) (x y : Str) : List (Str × Str) := ps.map fun p => if p.1 = x then (p.1, y) else p
theorem chg_good {l : List Str} {ps : List (Str × Str)} {x y : Str} (g : GoodN l ps) (hy : y ∈ l) : GoodN l (chg ps x y) := by
  constructor
  · unfold chg
    rw [List.map_map, ← g.1]
    exact List.map_congr_left fun p _ => by
      show (if p.1 = x then (p.1, y) else p).1 = p.1
      split <;> rfl
  · intro p hp
    obtain ⟨q, hq, rfl⟩ := List.mem_map.mp hp
    split
    · exact hy
    · exact g.2 q hq
theorem sdic_tld (ps : List (Str × Str)) : sdic (tld ps) = ps.map fun p => (PyData.str p.1, PyData.str p.2) := by
  unfold sdic tld
  rw [List.map_map]; rfl
theorem put_chg {ps : List (Str × Str)} {x y : Str} (hx : x ∈ ps.map (·.1)) : putK' (sdic (tld ps)) (.inr x) (.str y) = sdic (tld (chg ps x y)) := by
  obtain ⟨t, e, _⟩ := look_mem hx
  have hs : (getK (sdic (tld ps)) (.inr x)).isSome = true := by rw [getK_sdic, look_tld, e]; rfl
  unfold putK'
  rw [if_pos hs, sdic_tld, sdic_tld]
  unfold chg
  rw [List.map_map, List.map_map]
  refine List.map_congr_left fun p _ => ?_
  show (if dKey (.str p.1) = some (.inr x) then (PyData.str p.1, PyData.str y) else (PyData.str p.1, PyData.str p.2)) = (PyData.str (if p.1 = x then (p.1, y) else p).1, PyData.str (if p.1 = x then (p.1, y) else p).2)
  rw [dKey_str]
  by_cases z : p.1 = x
  · rw [if_pos (by rw [z]), if_pos z]
  · rw [if_neg (fun w => z (by injection w with w; injection w)), if_neg z]
theorem frz_dic {i n : Nat} {ρ : DL.Env} {g : Hh} {es : List (D × D)} (hi : ρ[i]? = some (some (.ref n))) (hg : g[n]? = some (some (.dic es))) (hr : (ρ.set i none).any (isR n) = false) : frz i ρ g = some (ρ.set i (some (.dat (.dict es))), g.set n none) := by
  unfold frz
  simp only [hi, hg, hr, isTab, Bool.or_self, Bool.false_eq_true, if_false, moD]
theorem dict_prsM {ps : List (Str × Str)} {h : Hh} (nd : (ps.map (·.1)).Nodup) : dictA true [.dat (.list (ps.map prT))] h = some (.ref h.length, h ++ [some (.dic (sdic (tld ps)))]) := by
  have e := pairsK_prs (tld ps)
  have e2 := merge_sdic (tld ps) [] (by rw [List.nil_append, tld_keys]; exact nd)
  have e3 : mergeD [] ((tld ps).map fun p => (Sum.inr p.1, p.2)) = sdic (tld ps) := e2
  rw [prs_tld]
  unfold dictA dictW
  simp only [deref, e, e3, mkK, if_true]
theorem pick_str {l : List Str} {h : Hh} {b c : Nat} (hb : BoxAt h b c) (hc : c < 1000000) (l0 : 0 < l.length) (hl : l.length ≤ 100) : ∃ s h', m__law_pick [.ref b, .dat (.list (l.map .str))] h = some (.dat (.str s), h') ∧ s ∈ l ∧ BoxAt h' b (c + 1) ∧ Only b h h' := by
  obtain ⟨d, h', e, hd, b1, o1⟩ := pick_ok (x := .list (l.map .str)) (ds := l.map .str) (.inl rfl) hb (by omega) (by rw [List.length_map]; exact l0) (by rw [List.length_map]; omega)
  obtain ⟨s, hs, rfl⟩ := List.mem_map.mp hd
  exact ⟨s, h', e, hs, b1, o1⟩
theorem xPut {f o i : EM} {w a b : W} {ρ : DL.Env} {h h1 h2 h3 h4 : Hh} (e1 : f ρ h = some (w, h1)) (e2 : o ρ h1 = some (a, h2)) (e3 : i ρ h2 = some (b, h3)) (e4 : putW a b w h3 = some h4) : sPut f o i ρ h = some (.nx ρ, h4) := by
  unfold sPut
  simp only [e1, sbnd, e2, e3, e4]
theorem shp_call {ps : List (Str × Str)} (ht : TxtP ps) : shp (cT ps) = true := by
  have s2 := shpPairs ht
  have d2 := depth_call ps
  have c2 : PyData.canLayAll0 (ps.map prT) = true := by
    have : PyData.canLay0 (.list (ps.map prT)) = true := by unfold shp at s2; rw [Bool.and_eq_true] at s2; exact s2.1
    rwa [PyData.canLay0] at this
  have k2 : PyData.canLay0 (cT ps) = true := by show PyData.canLay0 (.tuple (ps.map prT)) = true; rw [PyData.canLay0]; exact c2
  have d3 : (cT ps : D).depth ≤ 64 := Nat.le_trans d2 (by omega)
  unfold shp
  rw [k2, decide_eq_true d3]; rfl
theorem ne_call {ps : List (Str × Str)} {h : Hh} (ht : TxtP ps) : eqW true (.dat (cT ps)) (.dat (cT ps)) h = some (.dat (.bool false), h) := by
  have s := shp_call ht
  have e : PyData.eqv (cT ps) (cT ps) = true := SeqAt.eqv_refl _ (SeqAt.canLay_of_shaped s)
  unfold eqW
  simp only [deref, eqS, s, e, Bool.and_self, if_true]
  rfl
theorem plainPrs : ∀ ps : List (Str × Str), plainDs (ps.map prT) = true
  | [] => rfl
  | p :: ps => by
    rw [List.map_cons, plainDs, plainPrs ps]
    rfl
theorem plainCall {ps : List (Str × Str)} (hl : ps.length ≤ 1000) : plainD (cT ps) = true := by
  have hz : sizeLine = 16777216 := rfl
  show plainD (.tuple (ps.map prT)) = true
  rw [plainD, plainPrs, Bool.true_and, decide_eq_true_eq, List.length_map]
  omega
theorem plain_two {n : Int} {ps : List (Str × Str)} (hl : ps.length ≤ 1000) : plainD (.list [.int n, cT ps]) = true ∧ (PyData.list [.int n, cT ps]).depth < 12 := by
  have b := depth_call ps
  have a' := plainCall hl
  have b' : (cT ps : D).depth ≤ 2 := b
  have d0 : (PyData.int n).depth = 0 := by rw [PyData.depth]
  have p0 : plainD (PyData.int n) = true := rfl
  have c2 : [PyData.int n, cT ps].length ≤ sizeLine := by show 2 ≤ sizeLine; decide
  revert a' b' c2
  generalize cT ps = d
  intro a' b' c2
  constructor
  · rw [plainD, plainDs, plainDs, plainDs, a', p0, decide_eq_true c2]; rfl
  · rw [PyData.depth, PyData.depthAll, PyData.depthAll, PyData.depthAll, d0]
    omega
theorem fw_self {A : List Str} (nd : A.Nodup) (h0 : 0 < A.length) : FW A A = A.length := by
  have cs := call_stay (List.Perm.refl A)
  have p0 := fw_pos cs nd (led_stay nd A)
  obtain ⟨vs, gr, c, e, lb, g⟩ := fw_at nd (List.Perm.refl A) h0 p0
  have := (none_go c nd lb g).mpr rfl
  omega
theorem rng_map (n : Nat) : rngD 0 n = (List.range n).map fun i : Nat => PyData.int (i : Int) := by
  unfold rngD
  exact List.map_congr_left fun i _ => by rw [Int.zero_add]
theorem mnI_is {ns : List Int} {z : Int} (hm : z ∈ ns) (hy : ∀ y ∈ ns, z ≤ y) : mnI ns = z := by
  cases ns with
  | nil => cases hm
  | cons n ns =>
    obtain ⟨h1, h2, h3⟩ := fold_min ns n
    have u : mnI (n :: ns) ≤ z := by
      show ns.foldl min n ≤ z
      rcases List.mem_cons.mp hm with rfl | hm
      · exact h2
      · exact h3 z hm
    have v : z ≤ mnI (n :: ns) := by
      show z ≤ ns.foldl min n
      rcases h1 with h1 | h1
      · rw [h1]; exact hy n List.mem_cons_self
      · exact hy _ (List.mem_cons_of_mem _ h1)
    omega
theorem idx_is {ns : List Int} {z : Int} {k : Nat} (hk : ns[k]? = some z) (hm : ∀ m, m < k → ns[m]? ≠ some z) : ns.idxOf z = k := by
  obtain ⟨h1, h2⟩ := first_atI (List.mem_of_getElem? hk)
  rcases Nat.lt_trichotomy (ns.idxOf z) k with q | q | q
  · exact absurd h1 (hm _ q)
  · exact q
  · exact absurd hk (h2 _ q)
abbrev R16 (b : Nat) (v1 v2 v3 v4 v5 v6 v7 v8 v9 v10 v11 v12 : Option W) : DL.Env := [some (.ref b), v1, v2, v3, v4, v5, v6, v7, v8, v9, v10, v11, v12, none, none, none]
noncomputable def drawB : SM := (sPut (fA (m__law_pick) (fCons (fVar 0) (fCons (fVar 1) (fNil)))) (fVar 4) (fA (m__law_pick) (fCons (fVar 0) (fCons (fVar 1) (fNil)))))
noncomputable def evI : SM := (sIf (fB (f2 (eqW true) (fVar 8) (f2 idxW (fVar 11) (fM isL indexI (fVar 12) (fCons (fA (mxW mnI) (fCons (fVar 12) (fNil))) (fNil)))))) (sRet (fC (.bool false))) (sSkip))
noncomputable def evB : SM := (sSeq (sAsg (fLc false (rng1I (fCons (fVar 9) (fNil))) (gN 14) (bYes) (fA (m_call_at) (fCons (fAsT (fVar 3)) (fCons (fVar 7) (fCons (fVar 14) (fNil))))) [14]) (gN 11))
    (sSeq (sAsg (fLc false (seqI (fVar 11)) (gN 15) (bYes) (fA (m__law_going) (fCons (fVar 15) (fNil))) [15]) (gN 12)) evI))
noncomputable def endS : SM := (sSeq (sIf (fB (f2 lt_W (fVar 9) (fC (.int 200)))) evB (sSkip))
    (sRet (f2 le_W (fA (m__law_going) (fCons (fVar 8) (fNil))) (fA (m__law_going) (fCons (fVar 6) (fNil))))))
noncomputable def tlS : SM := (sSeq (sAsg (fA tupleW (fCons (fLc false (seqI (fVar 1)) (gN 13) (bYes) (fA tupW (fCons (fVar 13) (fCons (f2 idxW (fVar 4) (fVar 13)) (fNil)))) [13]) (fNil))) (gN 6))
    (sSeq (sAsg (fA (m__law_called) (fCons (fAsT (fVar 3)) (fCons (fVar 6) (fNil)))) (gN 7))
    (sSeq (sAsg (fA (m_call_of_fewest) (fCons (fAsT (fVar 3)) (fCons (fVar 7) (fNil)))) (gN 8))
    (sSeq (sIf (bOr (fB (f2 (eqW true) (fA (m__law_called) (fCons (fAsT (fVar 3)) (fCons (fVar 8) (fNil)))) (fVar 7))) (fB (f2 (eqW true) (fA (m__law_going) (fCons (fVar 8) (fNil))) (fA (m_fewest_goers) (fCons (fAsT (fVar 3)) (fCons (fVar 7) (fNil))))))) (sRet (fC (.bool false))) (sSkip))
    (sSeq (sAsg (fA (m_calls_many) (fCons (fAsT (fVar 3)) (fCons (fVar 7) (fNil)))) (gN 9)) endS)))))
noncomputable def half2 : SM := (sSeq (sAsg (fA (m__law_names) (fCons (fVar 0) (fCons (fC (.int 9)) (fNil)))) (gN 1))
    (sSeq (sAsg (fA (m__law_rowR) (fCons (fVar 0) (fCons (fVar 1) (fNil)))) (gN 3))
    (sSeq (sAsg (fA (dictA true) (fCons (fLc false (seqI (fVar 1)) (gN 13) (bYes) (fA tupW (fCons (fVar 13) (fCons (fVar 13) (fNil)))) [13]) (fNil))) (gN 4))
    (sSeq (sFor (rng1I (fCons (fA (m__law_take) (fCons (fVar 0) (fCons (fC (.int 4)) (fNil)))) (fNil))) (gN 5) drawB)
    (sFrz 4 tlS)))))
theorem right_eq : m__law_right = fnM false 1 16 (sSeq (sAsg (fA (m__law_names) (fCons (fVar 0) (fCons (fC (.int 4)) (fNil)))) (gN 1))
    (sSeq (sPar (fCons (fA (m__law_rowR) (fCons (fVar 0) (fCons (fVar 1) (fNil)))) (fCons (fAsT (fA (m__law_rowR) (fCons (fVar 0) (fCons (fVar 1) (fNil))))) (fNil))) [3, 7])
    (sSeq (sAsg (fA (m__law_by_all) (fCons (fVar 3) (fCons (fVar 7) (fCons (fA (m__law_all_calls) (fCons (fVar 1) (fNil))) (fNil))))) (gT 2 (gC (gN 10) (gC (gN 8) (gE)))))
    (sSeq (sIf (bNot (fB (fA (m__law_same 12) (fCons (fA (lstW false) (fCons (fA (m_fewest_goers) (fCons (fAsT (fVar 3)) (fCons (fVar 7) (fNil)))) (fCons (fA (m_call_of_fewest) (fCons (fAsT (fVar 3)) (fCons (fVar 7) (fNil)))) (fNil)))) (fCons (fA (lstW false) (fCons (fVar 10) (fCons (fVar 8) (fNil)))) (fNil)))))) (sRet (fC (.bool false))) (sSkip))
    (sSeq (sAsg (fA (lstW false) (fCons (fA (kwM 2 [1, 0] (m_fewest_goers)) (fCons (fA (listW false) (fCons (fVar 7) (fNil))) (fCons (fA (listW false) (fCons (fAsT (fVar 3)) (fNil))) (fNil)))) (fCons (fA (kwM 2 [1, 0] (m_call_of_fewest)) (fCons (fA (listW false) (fCons (fVar 7) (fNil))) (fCons (fA (listW false) (fCons (fAsT (fVar 3)) (fNil))) (fNil)))) (fNil)))) (gN 2))
    (sSeq (sIf (bOr (bNot (fB (fA (m__law_same 12) (fCons (fVar 2) (fCons (fA (lstW false) (fCons (fVar 10) (fCons (fVar 8) (fNil)))) (fNil)))))) (bNot (fB (fA (m__law_same 12) (fCons (fA (m_fewest_goers) (fCons (fAsT (fVar 3)) (fCons (fAsT (fVar 3)) (fNil)))) (fCons (fC (.int 0)) (fNil))))))) (sRet (fC (.bool false))) (sSkip)) half2)))))) := rfl
section
variable {g : Hh} {A B : List Str}
theorem leI {i j : Int} : le_W (.dat (.int i)) (.dat (.int j)) g = some (.dat (.bool (decide (i ≤ j))), g) := by
  rw [le_e]
  simp [ltW, deref, bok]
theorem ltI {i j : Int} : lt_W (.dat (.int i)) (.dat (.int j)) g = some (.dat (.bool (decide (i < j))), g) := by
  rw [lt_e]
  simp [ltW, deref, bok]
theorem neI {i : Int} : eqW true (.dat (.int i)) (.dat (.int i)) g = some (.dat (.bool false), g) := by
  rw [eqW_ints, if_pos rfl, decide_eq_true rfl]; rfl
theorem index_run {gs : List Nat} {k z : Nat} (hk : gs[k]? = some z) (hm : ∀ m, m < k → gs[m]? ≠ some z) : indexI (.dat (lN gs)) [.dat (.int (z : Int))] g = some (.dat (.int (k : Int)), g) := by
  have hk' : (gs.map fun r : Nat => (r : Int))[k]? = some (z : Int) := by rw [List.getElem?_map, hk]; rfl
  have hm' : ∀ m, m < k → (gs.map fun r : Nat => (r : Int))[m]? ≠ some (z : Int) := fun m h e => by
    rw [List.getElem?_map] at e
    obtain ⟨a, ea, ez⟩ := Option.map_eq_some_iff.mp e
    have : a = z := by omega
    subst this
    exact hm m h ea
  have ix := idx_is hk' hm'
  have mem : (z : Int) ∈ gs.map fun r : Nat => (r : Int) := List.mem_of_getElem? hk'
  unfold indexI
  simp only [deref, intsL_sum, if_pos mem, ix]
  rfl
theorem min_run {gs : List Nat} {z : Nat} (hm : z ∈ gs) (hy : ∀ y ∈ gs, z ≤ y) : mxW mnI [.dat (lN gs)] g = some (.dat (.int (z : Int)), g) := by
  have e := mnI_is (ns := gs.map fun r : Nat => (r : Int)) (z := (z : Int)) (List.mem_map.mpr ⟨z, hm, rfl⟩) fun y h => by
    obtain ⟨a, ha, rfl⟩ := List.mem_map.mp h
    have := hy a ha
    omega
  have l : 0 < (gs.map fun r : Nat => (r : Int)).length := by
    rw [List.length_map]; exact List.length_pos_of_mem hm
  unfold mxW
  simp only [deref, intsL_sum, if_pos l, e]
  rfl
theorem ev_ok {b : Nat} {vs : List Nat} {n : Nat} {v1 v2 v4 v5 v6 v10 : Option W} (nd : A.Nodup) (tA : Txts A) (p : B.Perm A) (h0 : 0 < A.length) (hl : A.length ≤ 9) (gr : Gr A.length (items A B) 0 vs) (gb : (goN (callV A B vs) : Int) = A.length - FW A B) (hn : n = cnt A.length (nxt A B) 0) (n2 : n < 200) :
    ∃ v11 v12, evB (R16 b v1 v2 (some (.row (A.map .str))) v4 v5 v6 (some (.dat (rowT B))) (some (.dat (cT (callV A B vs)))) (some (.dat (.int (n : Int)))) v10 none none) g = some (.nx (R16 b v1 v2 (some (.row (A.map .str))) v4 v5 v6 (some (.dat (rowT B))) (some (.dat (cT (callV A B vs)))) (some (.dat (.int (n : Int)))) v10 v11 v12), g) := by
  have hz : sizeLine = 16777216 := rfl
  have vv := gr_vq gr
  have F : ∀ q : Nat, q < n → ∃ us, VQ A.length (nxt A B) 0 us ∧ rk A.length (nxt A B) 0 us = q ∧ m_call_at [.dat (rowT A), .dat (rowT B), .dat (.int (q : Int))] g = some (.dat (cT (callV A B us)), g) := fun q hq => call_at_ok (h := g) (x := rowT A) (.inr rfl) p nd h0 (by omega) tA (by rw [← hn]; exact hq)
  obtain ⟨f, hf⟩ : ∃ f : Nat → List Nat, ∀ q, q < n → VQ A.length (nxt A B) 0 (f q) ∧ rk A.length (nxt A B) 0 (f q) = q ∧ m_call_at [.dat (rowT A), .dat (rowT B), .dat (.int (q : Int))] g = some (.dat (cT (callV A B (f q))), g) := by
    refine ⟨fun q => if hq : q < n then Classical.choose (F q hq) else [], fun q hq => ?_⟩
    simp only [dif_pos hq]
    exact Classical.choose_spec (F q hq)
  have kn : rk A.length (nxt A B) 0 vs < n := by rw [hn]; exact rk_lt vv
  have fk : f (rk A.length (nxt A B) 0 vs) = vs := rk_inj (hf _ kn).1 vv (hf _ kn).2.1
  generalize hk : rk A.length (nxt A B) 0 vs = k at *
  let V (v11 v12 : Option W) : DL.Env := R16 b v1 v2 (some (.row (A.map .str))) v4 v5 v6 (some (.dat (rowT B))) (some (.dat (cT (callV A B vs)))) (some (.dat (.int (n : Int)))) v10 v11 v12
  let L11 : List D := (List.range n).map fun q => cT (callV A B (f q))
  let gs : List Nat := (List.range n).map fun q => goN (callV A B (f q))
  have it : rng1I (fCons (fVar 9) (fNil)) (V none none) g = some ((List.range n).map fun i : Nat => PyData.int (i : Int), g) := by
    unfold rng1I
    rw [xC (E := fVar 9) rfl xN]
    simp only [obnd_some]
    rw [if_pos (by omega), Int.toNat_natCast, rng_map]
  have lc1 : lcL (gN 14) bYes (fA (m_call_at) (fCons (fAsT (fVar 3)) (fCons (fVar 7) (fCons (fVar 14) (fNil))))) (V none none) ((List.range n).map fun i : Nat => PyData.int (i : Int)) g = some (L11, g) := lcL_list (fun r : Nat => PyData.int (r : Int)) _ fun q hq => ⟨[some (.ref b), v1, v2, some (.row (A.map .str)), v4, v5, v6, some (.dat (rowT B)), some (.dat (cT (callV A B vs))), some (.dat (.int (n : Int))), v10, none, none, none, some (.dat (.int (q : Int))), none], rfl, xA (xC (xAs (E := fVar 3) rfl) (xC (E := fVar 7) rfl (xC (E := fVar 14) rfl xN))) (hf q (List.mem_range.mp hq)).2.2⟩
  have ll1 : L11.length = n := by show ((List.range n).map _).length = n; rw [List.length_map, List.length_range]
  have lgs : gs.length = n := by show ((List.range n).map _).length = n; rw [List.length_map, List.length_range]
  have egs : intsL gs = (List.range n).map fun q => PyData.int (goN (callV A B (f q)) : Int) := by
    show intsL ((List.range n).map _) = _
    unfold intsL
    rw [List.map_map]; rfl
  have lc2 : lcL (gN 15) bYes (fA (m__law_going) (fCons (fVar 15) (fNil))) (V (some (.dat (.list L11))) none) L11 g = some (intsL gs, g) := by
    rw [egs]
    exact lcL_list (fun q => cT (callV A B (f q))) _ fun q hq => ⟨[some (.ref b), v1, v2, some (.row (A.map .str)), v4, v5, v6, some (.dat (rowT B)), some (.dat (cT (callV A B vs))), some (.dat (.int (n : Int))), v10, some (.dat (.list L11)), none, none, none, some (.dat (cT (callV A B (f q))))], rfl, xA (xC (E := fVar 15) rfl xN) (going_ok (by
      have := call_len (callV_led nd p (hf q (List.mem_range.mp hq)).1).1
      omega))⟩
  have gk : gs[k]? = some (goN (callV A B vs)) := by
    show ((List.range n).map _)[k]? = _
    rw [List.getElem?_map, List.getElem?_range kn]
    show some (goN (callV A B (f k))) = _
    rw [fk]
  have gm : ∀ {m x : Nat}, gs[m]? = some x → m < n ∧ x = goN (callV A B (f m)) := fun {m x} e => by
    have e : ((List.range n).map fun q => goN (callV A B (f q)))[m]? = some x := e
    rw [List.getElem?_map] at e
    obtain ⟨a, ea, ex⟩ := Option.map_eq_some_iff.mp e
    obtain ⟨hm, e2⟩ := List.getElem?_eq_some_iff.mp ea
    rw [List.length_range] at hm
    rw [List.getElem_range] at e2
    subst e2
    exact ⟨hm, ex.symm⟩
  have less : ∀ m, m < n → goN (callV A B vs) ≤ goN (callV A B (f m)) ∧ (goN (callV A B (f m)) = goN (callV A B vs) → k ≤ m) := fun m hm => by
    obtain ⟨a, c⟩ := no_less nd p gr (hf m hm).1 gb
    rw [hk, (hf m hm).2.1] at c
    exact ⟨a, c⟩
  have mn := min_run (g := g) (List.mem_of_getElem? gk) fun y hy => by
    obtain ⟨m, em⟩ := List.getElem?_of_mem hy
    obtain ⟨hm, rfl⟩ := gm em
    exact (less m hm).1
  have ix := index_run (g := g) gk fun m hm e => by
    obtain ⟨h1, h2⟩ := gm e
    have := (less m h1).2 h2.symm
    omega
  have at11 : L2.atI L11 (k : Int) = some (cT (callV A B vs)) := by
    apply at_nat
    show ((List.range n).map _)[k]? = _
    rw [List.getElem?_map, List.getElem?_range kn]
    show some (cT (callV A B (f k))) = _
    rw [fk]
  have ne := ne_call (h := g) (txt_call tA (callV_led nd p vv).1)
  have fm : fM isL indexI (fVar 12) (fCons (fA (mxW mnI) (fCons (fVar 12) (fNil))) (fNil)) (V (some (.dat (.list L11))) (some (.dat (lN gs)))) g = some (.dat (.int (k : Int)), g) := by
    have e1 : fVar 12 (V (some (.dat (.list L11))) (some (.dat (lN gs)))) g = some (.dat (lN gs), g) := rfl
    have ga : (fCons (fA (mxW mnI) (fCons (fVar 12) (fNil))) (fNil)) (V (some (.dat (.list L11))) (some (.dat (lN gs)))) g = some ([.dat (.int (goN (callV A B vs) : Int))], g) := xC (xA (xC (E := fVar 12) rfl xN) mn) xN
    have il : isL (.dat (lN gs)) g = true := rfl
    unfold fM
    simp only [e1, obnd, il, if_true, ga, ix]
  refine ⟨some (.dat (.list L11)), some (.dat (lN gs)), ?_⟩
  show evB (V none none) g = some (.nx (V (some (.dat (.list L11))) (some (.dat (lN gs)))), g)
  unfold evB
  refine (zA (ρ1 := V (some (.dat (.list L11))) none) (xL (vs := [14]) it lc1 (by omega)) rfl).trans ?_
  refine (zA (ρ1 := V (some (.dat (.list L11))) (some (.dat (lN gs)))) (xL (vs := [15]) (xS (E := fVar 11) (x := .list L11) rfl (.inl rfl)) lc2 (by rw [intsL_len]; omega)) rfl).trans ?_
  unfold evI
  exact zIfF (xB (x2 (f := eqW true) (A := fVar 8) rfl (x2 (f := idxW) (A := fVar 11) rfl fm (idxW_lst at11)) ne))
theorem end_ok {b : Nat} {vs : List Nat} {n : Nat} {ps : List (Str × Str)} {v1 v2 v4 v5 v10 : Option W} (nd : A.Nodup) (tA : Txts A) (p : B.Perm A) (h0 : 0 < A.length) (hl : A.length ≤ 9) (c : CallOf A ps) (el : led A ps = B) (gr : Gr A.length (items A B) 0 vs) (gb : (goN (callV A B vs) : Int) = A.length - FW A B) (hn : n = cnt A.length (nxt A B) 0) :
    endS (R16 b v1 v2 (some (.row (A.map .str))) v4 v5 (some (.dat (cT ps))) (some (.dat (rowT B))) (some (.dat (cT (callV A B vs)))) (some (.dat (.int (n : Int)))) v10 none none) g = some (.rt (.dat (.bool true)), g) := by
  have ub := fw_ub c nd el
  have lp := call_len c
  have lb := call_len (callV_led nd p (gr_vq gr)).1
  have fin : ∀ v11 v12 : Option W, sRet (f2 le_W (fA (m__law_going) (fCons (fVar 8) (fNil))) (fA (m__law_going) (fCons (fVar 6) (fNil)))) (R16 b v1 v2 (some (.row (A.map .str))) v4 v5 (some (.dat (cT ps))) (some (.dat (rowT B))) (some (.dat (cT (callV A B vs)))) (some (.dat (.int (n : Int)))) v10 v11 v12) g = some (.rt (.dat (.bool true)), g) := fun v11 v12 => by
    have q := leI (g := g) (i := (goN (callV A B vs) : Int)) (j := (goN ps : Int))
    rw [decide_eq_true (by omega)] at q
    exact zR (x2 (f := le_W) (xA (xC (E := fVar 8) rfl xN) (going_ok (by omega))) (xA (xC (E := fVar 6) rfl xN) (going_ok (by omega))) q)
  have t := ltI (g := g) (i := (n : Int)) (j := 200)
  unfold endS
  by_cases z : n < 200
  · rw [decide_eq_true (by omega)] at t
    obtain ⟨v11, v12, e⟩ := ev_ok (g := g) (b := b) (v1 := v1) (v2 := v2) (v4 := v4) (v5 := v5) (v6 := some (.dat (cT ps))) (v10 := v10) nd tA p h0 hl gr gb hn z
    exact zIt (xB (x2 (f := lt_W) (A := fVar 9) (B := fC (.int 200)) rfl rfl t)) ((zS e).trans (fin v11 v12))
  · rw [decide_eq_false (by omega)] at t
    exact (zI (xB (x2 (f := lt_W) (A := fVar 9) (B := fC (.int 200)) rfl rfl t))).trans (fin none none)
theorem tl_ok {b : Nat} {l : List Str} {ps : List (Str × Str)} {v2 v5 v7 v8 v10 : Option W} (gp : GoodN l ps) (nl : l.Nodup) (tl : Txts l) (pA : A.Perm l) (h0 : 0 < A.length) (hl : A.length ≤ 9) :
    tlS (R16 b (some (.dat (.list (l.map .str)))) v2 (some (.row (A.map .str))) (some (.dat (.dict (sdic (tld ps))))) v5 none v7 v8 none v10 none none) g = some (.rt (.dat (.bool true)), g) := by
  have hz : sizeLine = 16777216 := rfl
  have c2 : 2 ≤ sizeLine := by decide
  have lA := pA.length_eq
  have nd : A.Nodup := pA.nodup_iff.mpr nl
  have tA : Txts A := fun s hs => tl s (pA.mem_iff.mp hs)
  have c : CallOf A ps := gp.call.of_perm pA.symm
  have lp := call_len c
  obtain ⟨B, el⟩ : ∃ B, led A ps = B := ⟨_, rfl⟩
  have p : B.Perm A := el ▸ led_perm A ps
  have tB : Txts B := fun s hs => tA s (p.mem_iff.mp hs)
  obtain ⟨vs, gr, cb, sb, lb, gb⟩ := fw_at nd p h0 (fw_pos c nd el)
  have lcb := call_len cb
  have self : l.map (fun s => (s, goal ps s)) = ps := by
    have := self_goal (ps := ps) (by rw [gp.1]; exact nl)
    rw [gp.1] at this
    exact this.symm
  have lc : lcL (gN 13) bYes (fA tupW (fCons (fVar 13) (fCons (f2 idxW (fVar 4) (fVar 13)) (fNil)))) (R16 b (some (.dat (.list (l.map .str)))) v2 (some (.row (A.map .str))) (some (.dat (.dict (sdic (tld ps))))) v5 none v7 v8 none v10 none none) (l.map .str) g = some (ps.map prT, g) := by
    have := lcL_list (k := gN 13) (f := fA tupW (fCons (fVar 13) (fCons (f2 idxW (fVar 4) (fVar 13)) (fNil)))) (ρ := R16 b (some (.dat (.list (l.map .str)))) v2 (some (.row (A.map .str))) (some (.dat (.dict (sdic (tld ps))))) v5 none v7 v8 none v10 none none) (h := g) PyData.str (fun s => prT (s, goal ps s)) (xs := l) fun s hs => ⟨[some (.ref b), some (.dat (.list (l.map .str))), v2, some (.row (A.map .str)), some (.dat (.dict (sdic (tld ps)))), v5, none, v7, v8, none, v10, none, none, some (.dat (.str s)), none, none], rfl, by
      have td : getD (sdic (tld ps)) (.str s) = some (some (.str (goal ps s))) := by rw [getD_sdic, look_tld, (gp.call.goal_mem hs).1]; rfl
      exact xA (xC (E := fVar 13) rfl (xC (xIdx (x := .dat .none) (y := .dat .none) (A := fVar 4) (B := fVar 13) rfl rfl td) xN)) (xTp (ds := [.str s, .str (goal ps s)]) rfl c2)⟩
    rw [this]
    have e : (l.map fun s => prT (s, goal ps s)) = (l.map fun s => (s, goal ps s)).map prT := by rw [List.map_map]; rfl
    rw [e, self]
  have oc := own_called_ok (h := g) (x := rowT A) (.inr rfl) c nd h0 (by omega)
  rw [el] at oc
  have oc2 := own_called_ok (h := g) (x := rowT A) (.inr rfl) cb nd h0 (by omega)
  rw [lb] at oc2
  have eq := eqW_rows (neg := true) (h := g) (a := B) (b := B) tB tB
  rw [if_pos rfl, decide_eq_true rfl] at eq
  have be := best_call_ok (h := g) (x := rowT A) (y := rowT B) (.inr rfl) (.inr rfl) p nd h0 (by omega) tA gr
  have fe := fewest_ok (h := g) (x := rowT A) (y := rowT B) (.inr rfl) (.inr rfl) p nd h0 (by omega) tA
  rw [← gb] at fe
  have ma := calls_many_ok (h := g) (x := rowT A) (y := rowT B) (.inr rfl) (.inr rfl) p nd h0 (by omega) tA
  have nn := neI (g := g) (i := (goN (callV A B vs) : Int))
  unfold tlS
  refine (zA (ρ1 := R16 b (some (.dat (.list (l.map .str)))) v2 (some (.row (A.map .str))) (some (.dat (.dict (sdic (tld ps))))) v5 (some (.dat (cT ps))) v7 v8 none v10 none none) (xA (xC (xL (vs := [13]) (xS (E := fVar 1) (x := .list (l.map .str)) rfl (.inl rfl)) lc (by rw [List.length_map]; omega)) xN) (xTup (.inl rfl))) rfl).trans ?_
  refine (zA (ρ1 := R16 b (some (.dat (.list (l.map .str)))) v2 (some (.row (A.map .str))) (some (.dat (.dict (sdic (tld ps))))) v5 (some (.dat (cT ps))) (some (.dat (rowT B))) v8 none v10 none none) (xA (xC (xAs (E := fVar 3) rfl) (xC (E := fVar 6) rfl xN)) oc) rfl).trans ?_
  refine (zA (ρ1 := R16 b (some (.dat (.list (l.map .str)))) v2 (some (.row (A.map .str))) (some (.dat (.dict (sdic (tld ps))))) v5 (some (.dat (cT ps))) (some (.dat (rowT B))) (some (.dat (cT (callV A B vs)))) none v10 none none) (xA (xC (xAs (E := fVar 3) rfl) (xC (E := fVar 7) rfl xN)) be) rfl).trans ?_
  refine (zI (xO (xB (x2 (f := eqW true) (xA (xC (xAs (E := fVar 3) rfl) (xC (E := fVar 8) rfl xN)) oc2) (B := fVar 7) rfl eq)) (xB (x2 (f := eqW true) (xA (xC (E := fVar 8) rfl xN) (going_ok (by omega))) (xA (xC (xAs (E := fVar 3) rfl) (xC (E := fVar 7) rfl xN)) fe) nn)))).trans ?_
  refine (zA (ρ1 := R16 b (some (.dat (.list (l.map .str)))) v2 (some (.row (A.map .str))) (some (.dat (.dict (sdic (tld ps))))) v5 (some (.dat (cT ps))) (some (.dat (rowT B))) (some (.dat (cT (callV A B vs)))) (some (.dat (.int (cnt A.length (nxt A B) 0 : Int)))) v10 none none) (xA (xC (xAs (E := fVar 3) rfl) (xC (E := fVar 7) rfl xN)) ma) rfl).trans ?_
  exact end_ok nd tA p h0 hl c el gr gb rfl
end
theorem any_led {A B : List Str} (nd : A.Nodup) (tA : Txts A) (p : B.Perm A) (h0 : 0 < A.length) (hl : A.length ≤ 100) : 0 ≤ FW A B := by
  have lB := p.length_eq
  have hB : B ≠ [] := fun z => by rw [z] at lB; simp at lB; omega
  have f := falls_few (A := A) hB
  have c := cnt_all (A := A) lB hB
  have b := bin_pos (N := 2 * A.length - 1 - fallsN A B) (t := A.length) (by omega)
  obtain ⟨us, vu, _, _⟩ := call_at_ok (h := []) (t := 0) (x := rowT A) (.inr rfl) p nd h0 hl tA (by omega)
  obtain ⟨cu, _, lu⟩ := callV_led nd p vu
  exact fw_pos cu nd lu
theorem half2_ok {b c : Nat} {h : Hh} {v1 v2 v3 v7 v8 v10 : Option W} (hb : BoxAt h b c) (hc : c < 5000) (i2 : ∀ m, isR m v2 = false) (i7 : ∀ m, isR m v7 = false) (i8 : ∀ m, isR m v8 = false) (i10 : ∀ m, isR m v10 = false) :
    ∃ g, half2 (R16 b v1 v2 v3 none none none v7 v8 none v10 none none) h = some (.rt (.dat (.bool true)), g) ∧ BoxAt g b (c + 60) ∧ OnlyP b h g := by
  have hz : sizeLine = 16777216 := rfl
  have c2 : 2 ≤ sizeLine := by decide
  obtain ⟨l, h1, e1, fk, _, b1, o1⟩ := names_ok (most := 9) hb (by omega) (by omega) (by omega)
  have l9 := fk.le
  have l0 := fk.pos
  obtain ⟨A, h2, e2, pA, b2, o2⟩ := rowR_ok (x := .list (l.map .str)) (.inl rfl) fk.txts b1 (by omega) (by omega)
  have lA := pA.length_eq
  have bl := b2.lt
  have ll2 := (o1.trans o2).len
  have ne : h2.length ≠ b := by omega
  let V (v4 v5 : Option W) : DL.Env := R16 b (some (.dat (.list (l.map .str)))) v2 (some (.row (A.map .str))) v4 v5 none v7 v8 none v10 none none
  have lc : lcL (gN 13) bYes (fA tupW (fCons (fVar 13) (fCons (fVar 13) (fNil)))) (V none none) (l.map .str) h2 = some ((l.map fun s => (s, s)).map prT, h2) := by
    have := lcL_list (k := gN 13) (f := fA tupW (fCons (fVar 13) (fCons (fVar 13) (fNil)))) (ρ := V none none) (h := h2) PyData.str (fun s => prT (s, s)) (xs := l) fun s _ => ⟨[some (.ref b), some (.dat (.list (l.map .str))), v2, some (.row (A.map .str)), none, none, none, v7, v8, none, v10, none, none, some (.dat (.str s)), none, none], rfl, xA (xC (E := fVar 13) rfl (xC (E := fVar 13) rfl xN)) (xTp (ds := [.str s, .str s]) rfl c2)⟩
    rw [this, List.map_map]; rfl
  have f0 : (l.map fun s => (s, s)).map (·.1) = l := by rw [List.map_map]; exact List.map_id l
  have d0 := dict_prsM (ps := l.map fun s => (s, s)) (h := h2) (by rw [f0]; exact fk.nd)
  have g0 : GoodN l (l.map fun s => (s, s)) := ⟨f0, fun p hp => by obtain ⟨s, hs, rfl⟩ := List.mem_map.mp hp; exact hs⟩
  have bx0 : BoxAt (h2 ++ [some (.dic (sdic (tld (l.map fun s => (s, s)))))]) b (c + 1 + 4 * 9 + l.length) := box_app b2
  have q0 : OnlyP b h (h2 ++ [some (.dic (sdic (tld (l.map fun s => (s, s)))))]) := OnlyP.app (o1.trans o2).p
  obtain ⟨r, g2, e3, r0, r1, b3, o3⟩ := take_ok (n := 4) bx0 (by omega) (by omega) (by omega)
  obtain ⟨t, rfl⟩ : ∃ t : Nat, r = t := ⟨r.toNat, by omega⟩
  have at2 : g2[h2.length]? = some (some (.dic (sdic (tld (l.map fun s => (s, s)))))) := by rw [o3.off _ ne]; exact app_get rfl
  have it : rng1I (fCons (fA (m__law_take) (fCons (fVar 0) (fCons (fC (.int 4)) (fNil)))) (fNil)) (V (some (.ref h2.length)) none) (h2 ++ [some (.dic (sdic (tld (l.map fun s => (s, s)))))]) = some (rngD 0 t, g2) := by
    have ea := xA (m := m__law_take) (ρ := V (some (.ref h2.length)) none) (xC (E := fVar 0) rfl (xC (E := fC (.int 4)) rfl xN)) e3
    unfold rng1I
    rw [xC ea xN]
    simp only [obnd_some]
    rw [if_pos (by omega), Int.toNat_natCast]
  obtain ⟨ρ', g', e, ps, v5, gp, at', bx', on', i5, rfl⟩ := forL_end (k := gN 5) (body := drawB) (fun j ρ g => ∃ (ps : List (Str × Str)) (v5 : Option W), GoodN l ps ∧ g[h2.length]? = some (some (.dic (sdic (tld ps)))) ∧ BoxAt g b (c + 1 + 4 * 9 + l.length + 1 + 2 * j) ∧ OnlyP b h g ∧ (∀ m, isR m v5 = false) ∧ ρ = V (some (.ref h2.length)) v5)
    (ds := rngD 0 t) (ρ := V (some (.ref h2.length)) none) (h := g2) ⟨_, none, g0, at2, b3, q0.only o3, fun _ => rfl, rfl⟩ (by
      rintro j d ej ρ g ⟨ps, v5, gp, ag, bx, on, i5, rfl⟩
      obtain ⟨hj, rfl⟩ := rng_get ej
      obtain ⟨y, g3, p1, my, bx1, o3'⟩ := pick_str (l := l) bx (by omega) l0 (by omega)
      obtain ⟨x, g4, p2, mx, bx2, o4⟩ := pick_str (l := l) bx1 (by omega) l0 (by omega)
      have on4 := o3'.trans o4
      have ag4 : g4[h2.length]? = some (some (.dic (sdic (tld ps)))) := by rw [on4.off _ ne]; exact ag
      have pl := gp.len
      have put : putW (.ref h2.length) (.dat (.str x)) (.dat (.str y)) g4 = some (g4.set h2.length (some (.dic (sdic (tld (chg ps x y)))))) := by
        have l1 : (sdic (tld ps)).length < sizeLine := by rw [sdic_tld, List.length_map]; omega
        unfold putW dicAt
        simp only [ag4, dKey_str, l1, if_true, put_chg (ps := ps) (x := x) (y := y) (by rw [gp.1]; exact mx)]
      refine ⟨V (some (.ref h2.length)) (some (.dat (.int (j : Int)))), _, _, rfl, xPut (xA (xC (E := fVar 0) rfl (xC (E := fVar 1) rfl xN)) p1) (o := fVar 4) rfl (xA (xC (E := fVar 0) rfl (xC (E := fVar 1) rfl xN)) p2) put, chg ps x y, _, chg_good gp my, ?_, (box_set bx2 ne).mono (by omega), onlyP_set (on.only on4) (by omega), fun _ => rfl, rfl⟩
      rw [List.getElem?_set_self (lt_of_get ag4)])
  rw [rng_len] at bx'
  have fz := frz_dic (i := 4) (n := h2.length) (es := sdic (tld ps)) (ρ := V (some (.ref h2.length)) v5) (g := g') rfl at' (by
    have r3 : isR h2.length (some (.row (A.map .str))) = false := rfl
    show List.any [some (.ref b), some (.dat (.list (l.map .str))), v2, some (.row (A.map .str)), none, v5, none, v7, v8, none, v10, none, none, none, none, none] (isR h2.length) = false
    simp only [List.any_cons, List.any_nil, isR_dat, isR_none, i2, i5, i7, i8, i10, r3, isR_ne (show b ≠ h2.length by omega), Bool.or_self])
  have tl := tl_ok (g := g'.set h2.length none) (b := b) (v2 := v2) (v5 := v5) (v7 := v7) (v8 := v8) (v10 := v10) gp fk.nd fk.txts pA (by omega) (by omega)
  refine ⟨g'.set h2.length none, ?_, (box_set bx' ne).mono (by omega), onlyP_set on' (by omega)⟩
  unfold half2
  refine (zA (ρ1 := R16 b (some (.dat (.list (l.map .str)))) v2 v3 none none none v7 v8 none v10 none none) (xA (xC (E := fVar 0) rfl (xC (E := fC (.int 9)) rfl xN)) e1) rfl).trans ?_
  refine (zA (ρ1 := V none none) (xA (xC (E := fVar 0) rfl (xC (E := fVar 1) rfl xN)) e2) rfl).trans ?_
  refine (zA (ρ1 := V (some (.ref h2.length)) none) (xA (xC (xL (vs := [13]) (xS (E := fVar 1) (x := .list (l.map .str)) rfl (.inl rfl)) lc (by rw [List.length_map, List.length_map]; omega)) xN) d0) rfl).trans ?_
  refine (zF it e).trans ?_
  exact (zZ fz).trans tl
theorem right_ok (h : Hh) (b c : Nat) (hb : BoxAt h b c) (hc : c ≤ 2 * 200) : ∃ h', m__law_right [.ref b] h = some (.dat (.bool true), h') ∧ BoxAt h' b (c + 200) ∧ Only b h h' := by
  have hz : sizeLine = 16777216 := rfl
  have c2 : 2 ≤ sizeLine := by decide
  obtain ⟨l, h1, e1, fk, so, b1, o1⟩ := names_ok (most := 4) hb (by omega) (by omega) (by omega)
  have l4 := fk.le
  have l0 := fk.pos
  have lx : IsSeq (PyData.list (l.map .str)) (l.map .str) := .inl rfl
  obtain ⟨A, h2, e2, pA, b2, o2⟩ := rowR_ok lx fk.txts b1 (by omega) (by omega)
  obtain ⟨B, h3, e3, pBl, b3, o3⟩ := rowR_ok lx fk.txts b2 (by omega) (by omega)
  have lA := pA.length_eq
  have nd : A.Nodup := pA.nodup_iff.mpr fk.nd
  have tA : Txts A := fun s hs => fk.txts s (pA.mem_iff.mp hs)
  have p : B.Perm A := pBl.trans pA.symm
  have n0 : 0 < A.length := by omega
  -- there is a call that leads there
  obtain ⟨vs, gr, cb, sb, lb, gb⟩ := fw_at nd p n0 (any_led nd tA p n0 (by omega))
  have lcb := call_len cb
  have ba := by_all_ok (h := h3) fk.nd so tA pA p n0 (by omega) gr gb lb
  have ac := all_calls_ok (h := h3) (l := l) l4
  have fe := fewest_ok (h := h3) (x := rowT A) (y := rowT B) (.inr rfl) (.inr rfl) p nd n0 (by omega) tA
  have be := best_call_ok (h := h3) (x := rowT A) (y := rowT B) (.inr rfl) (.inr rfl) p nd n0 (by omega) tA gr
  have feL := fewest_ok (h := h3) (x := .list (A.map .str)) (y := .list (B.map .str)) (.inl rfl) (.inl rfl) p nd n0 (by omega) tA
  have beL := best_call_ok (h := h3) (x := .list (A.map .str)) (y := .list (B.map .str)) (.inl rfl) (.inl rfl) p nd n0 (by omega) tA gr
  have feS := fewest_ok (h := h3) (x := rowT A) (y := rowT A) (.inr rfl) (.inr rfl) (List.Perm.refl A) nd n0 (by omega) tA
  rw [fw_self nd n0, Int.sub_self] at feS
  obtain ⟨pl, dp⟩ := plain_two (n := (A.length : Int) - FW A B) (ps := callV A B vs) (by omega)
  have sm := same_refl 12 (.list [.int ((A.length : Int) - FW A B), cT (callV A B vs)]) h3 pl dp
  have s0 := same_refl 12 (.int 0) h3 rfl (by rw [PyData.depth]; decide)
  let V1 : Option W := some (.dat (.list (l.map .str)))
  let V3 : Option W := some (.row (A.map .str))
  let V7 : Option W := some (.dat (rowT B))
  let V8 : Option W := some (.dat (cT (callV A B vs)))
  let V10 : Option W := some (.dat (.int ((A.length : Int) - FW A B)))
  let V2 : Option W := some (.dat (.list [.int ((A.length : Int) - FW A B), cT (callV A B vs)]))
  obtain ⟨g, eh, bg, og⟩ := half2_ok (v1 := V1) (v2 := V2) (v3 := V3) (v7 := V7) (v8 := V8) (v10 := V10) b3 (by omega) (fun _ => rfl) (fun _ => rfl) (fun _ => rfl) (fun _ => rfl)
  have oo := (o1.trans o2).trans o3
  have oP : OnlyP b h g := ⟨by have := og.len; have := oo.len; omega, fun i hi n => by
    have h3l := oo.len
    rw [og.off i (by omega) n]
    exact oo.off i n⟩
  obtain ⟨hE, lv, bE, oE⟩ := leave_P (d := .bool true) hb bg oP
  refine ⟨hE, ?_, bE.mono (by omega), oE⟩
  rw [right_eq]
  refine fnM_rt (w := .dat (.bool true)) (h' := g) ?_ rfl lv
  show sSeq _ _ (R16 b none none none none none none none none none none none none) h = _
  have two : ∀ {E F : EM} {ρ : DL.Env}, E ρ h3 = some (.dat (.int ((A.length : Int) - FW A B)), h3) → F ρ h3 = some (.dat (cT (callV A B vs)), h3) → fA (lstW false) (fCons E (fCons F (fNil))) ρ h3 = some (.dat (.list [.int ((A.length : Int) - FW A B), cT (callV A B vs)]), h3) := fun {E F ρ} h1 h2 => xA (xC h1 (xC h2 xN)) (xLst (ds := [.int ((A.length : Int) - FW A B), cT (callV A B vs)]) rfl c2)
  refine (zA (ρ1 := R16 b V1 none none none none none none none none none none none) (xA (xC (E := fVar 0) rfl (xC (E := fC (.int 4)) rfl xN)) e1) rfl).trans ?_
  refine (zP (is := [3, 7]) (ρ1 := R16 b V1 none V3 none none none V7 none none none none none) (xC (xA (xC (E := fVar 0) rfl (xC (E := fVar 1) rfl xN)) e2) (xC (xAs (xA (xC (E := fVar 0) rfl (xC (E := fVar 1) rfl xN)) e3)) xN)) rfl rfl).trans ?_
  refine (zA (ρ1 := R16 b V1 none V3 none none none V7 V8 none V10 none none) (xA (xC (E := fVar 3) rfl (xC (E := fVar 7) rfl (xC (xA (xC (E := fVar 1) rfl xN) ac) xN))) ba) rfl).trans ?_
  refine (zI (xT (xA (xC (two (xA (xC (xAs (E := fVar 3) rfl) (xC (E := fVar 7) rfl xN)) fe) (xA (xC (xAs (E := fVar 3) rfl) (xC (E := fVar 7) rfl xN)) be)) (xC (two (E := fVar 10) (F := fVar 8) rfl rfl) xN)) sm))).trans ?_
  refine (zA (ρ1 := R16 b V1 V2 V3 none none none V7 V8 none V10 none none) (two (xA (xC (xA (xC (E := fVar 7) rfl xN) (xList (.inr rfl))) (xC (xA (xC (xAs (E := fVar 3) rfl) xN) (xList (.inr rfl))) xN)) (xK (by rfl) rfl feL)) (xA (xC (xA (xC (E := fVar 7) rfl xN) (xList (.inr rfl))) (xC (xA (xC (xAs (E := fVar 3) rfl) xN) (xList (.inr rfl))) xN)) (xK (by rfl) rfl beL))) rfl).trans ?_
  refine (zI (xO (xT (xA (xC (E := fVar 2) rfl (xC (two (E := fVar 10) (F := fVar 8) rfl rfl) xN)) sm)) (xT (xA (xC (xA (xC (xAs (E := fVar 3) rfl) (xC (xAs (E := fVar 3) rfl) xN)) feS) (xC (E := fC (.int 0)) rfl xN)) s0)))).trans ?_
  exact eh
theorem law_eq : m_law = lawF 2 m__law_right := rfl
theorem law_true (ns : List Int) (hl : ns.length ≤ 63) : ∃ h, m_law [.scr ns] [] = some (.dat (.bool true), h) := by
  rw [law_eq]
  exact law_okF (t := 2) (h0 := []) (cost := 200) rfl (by omega) (by omega) (by decide) (fun h b c _ _ hb hc => right_ok h b c hb hc) ns hl
end LW
set_option maxHeartbeats 4000000
namespace LW
open PySem PySem.Spec PyProof.Rows L2 DL
def topS (i : Nat) : Stmt := PySem.Challenge.pw_standby_k57_the_fewest_who_go.main.body.getD i (.Pass ⟨0, 0, 0, 0⟩)
section
variable {P : Program} {w : World} {K : PySem.W.Frag} {mg : Str → Option Value} {base : Heap}
abbrev s_places_of : Stmt := topS 5
abbrev N_places_of : List Str := ["row", "place", "name"]
theorem sc_places_of : FnScope N_places_of ["row"] (defScope s_places_of) := ⟨rfl, rfl, rfl, by decide +kernel, rfl, by decide +kernel, by decide +kernel⟩
theorem ok_places_of (f : Addr) (fd : FuncData) (F : Fun K "places_of" "places_of" s_places_of f fd) (hm : mg "places_of" = some (.ref f)) (B : Bi mg)   : GD P w K mg base 1 "places_of" s_places_of ["row"] m_places_of := gd_ok false F hm sc_places_of fun cdv A outer s H E hr =>
    ds_one (ds_ret (d_dc false (own := [("place", 1), ("name", 2)]) rfl sc_places_of.nd (di_enumA B.enumerate (da_cons (dv 0 (pv 0)) (da_nil))) (blkOk_by (N := N_places_of) (sc := defScope s_places_of) (by decide +kernel)) (fun _ _ _ _ _ => dg_tup rfl (dgs_cons (dg_name 1 (pg_name (i := 1) sc_places_of.nd rfl (Or.inl rfl))) (dgs_cons (dg_name 2 (pg_name (i := 2) sc_places_of.nd rfl (Or.inl rfl))) (dgs_nil)))) (fun _ _ _ _ _ => dts_nil) (fun _ _ _ _ _ => dv 2 (pv 2)) (fun _ _ _ _ _ => dv 1 (pv 1)) (by decide)))
abbrev s_look_alike : Stmt := topS 6
abbrev N_look_alike : List Str := ["one", "other"]
theorem sc_look_alike : FnScope N_look_alike ["one", "other"] (defScope s_look_alike) := ⟨rfl, rfl, rfl, by decide +kernel, rfl, by decide +kernel, by decide +kernel⟩
theorem ok_look_alike (f : Addr) (fd : FuncData) (F : Fun K "look_alike" "look_alike" s_look_alike f fd) (hm : mg "look_alike" = some (.ref f)) (B : Bi mg)   : GD P w K mg base 1 "look_alike" s_look_alike ["one", "other"] m_look_alike := gd_ok false F hm sc_look_alike fun cdv A outer s H E hr =>
    ds_one (ds_if (t_ne hr.room (d_sorted hr false B.sorted (da_cons (dv 0 (pv 0)) (da_nil))) (d_sorted hr false B.sorted (da_cons (dv 1 (pv 1)) (da_nil)))) (ds_one (ds_never)) (ds_nil))
abbrev s_choices : Stmt := topS 10
abbrev N_choices : List Str := ["many", "few", "found", "turn"]
theorem sc_choices : FnScope N_choices ["many", "few"] (defScope s_choices) := ⟨rfl, rfl, rfl, by decide +kernel, rfl, by decide +kernel, by decide +kernel⟩
theorem ok_choices (f : Addr) (fd : FuncData) (F : Fun K "choices" "choices" s_choices f fd) (hm : mg "choices" = some (.ref f)) (B : Bi mg)   : GD P w K mg base 1 "choices" s_choices ["many", "few"] m_choices := gd_ok false F hm sc_choices fun cdv A outer s H E hr =>
    ds_cons (ds_if (dt_not (t_chain (op_le.or op_le_str) s_lt (op_le.or op_le_str) s_lt (d_int) (dv 1 (pv 1)) (dv 0 (pv 0)))) (ds_one (ds_ret (d_int))) (ds_nil))
    (ds_cons (ds_set (ps_set (i := 2) sc_choices.nd rfl (Or.inl rfl) (d_int)))
    (ds_cons (ds_for rfl PassesOwn.never (di_rng1 B.range (da_cons (dv 1 (pv 1)) (da_nil))) (dg_name 3 (pg_name (i := 3) sc_choices.nd rfl (Or.inl rfl)))
    (ds_one (ds_set (ps_set (i := 2) sc_choices.nd rfl (Or.inl rfl) (d_div (d_mul false (dv 2 (pv 2)) (d_sub (dv 0 (pv 0)) (dv 3 (pv 3)))) (d_add false (dv 3 (pv 3)) (d_int)))))))
    (ds_one (ds_ret (dv 2 (pv 2))))))
abbrev s_risen : Stmt := topS 11
abbrev N_risen : List Str := ["one", "other", "place", "rises", "at", "name", "ahead"]
theorem sc_risen : FnScope N_risen ["one", "other"] (defScope s_risen) := ⟨rfl, rfl, rfl, by decide +kernel, rfl, by decide +kernel, by decide +kernel⟩
theorem ok_risen (f : Addr) (fd : FuncData) (F : Fun K "risen" "risen" s_risen f fd) (hm : mg "risen" = some (.ref f)) (B : Bi mg)   : GD P w K mg base 1 "risen" s_risen ["one", "other"] m_risen := gd_ok false F hm sc_risen fun cdv A outer s H E hr =>
    ds_cons (ds_set (ps_set (i := 2) sc_risen.nd rfl (Or.inr rfl) (d_dc false (own := [("at", 4), ("name", 5)]) rfl sc_risen.nd (di_enumA B.enumerate (da_cons (dv 0 (pv 0)) (da_nil))) (blkOk_by (N := N_risen) (sc := defScope s_risen) (by decide +kernel)) (fun _ _ _ _ _ => dg_tup rfl (dgs_cons (dg_name 4 (pg_name (i := 4) sc_risen.nd rfl (Or.inl rfl))) (dgs_cons (dg_name 5 (pg_name (i := 5) sc_risen.nd rfl (Or.inl rfl))) (dgs_nil)))) (fun _ _ _ _ _ => dts_nil) (fun _ _ _ _ _ => dv 5 (pv 5)) (fun _ _ _ _ _ => dv 4 (pv 4)) (by decide))))
    (ds_cons (ds_setLc false (own := [("ahead", 6), ("name", 5)]) (i := 3) rfl sc_risen.nd rfl rfl (sw_true rfl rfl rfl (by decide +kernel)) (di_zip B.zip (da_cons (dv 1 (pv 1)) (da_cons (d_slice false (dv 1 (pv 1)) (do_some (d_int)) (do_none)) (da_nil)))) (blkOk_by (N := N_risen) (sc := defScope s_risen) (by decide +kernel)) (fun _ _ _ _ _ => dg_tup rfl (dgs_cons (dg_name 6 (pg_name (i := 6) sc_risen.nd rfl (Or.inl rfl))) (dgs_cons (dg_name 5 (pg_name (i := 5) sc_risen.nd rfl (Or.inl rfl))) (dgs_nil)))) (fun _ _ _ _ _ => dts_nil) (fun _ _ _ _ _ => d_intC B.int (da_cons (d_lt (d_idx hr.room (dv 2 (pv 2)) (dv 5 (pv 5)) (fun _ _ => rfl)) (d_idx hr.room (dv 2 (pv 2)) (dv 6 (pv 6)) (fun _ _ => rfl))) (da_nil))) (by decide))
    (ds_one (ds_ret (d_add false (d_lst false (da_cons (d_int) (da_nil))) (dv 3 (pv 3))))))
abbrev s_call_by : Stmt := topS 13
abbrev N_call_by : List Str := ["one", "other", "values", "name", "value"]
theorem sc_call_by : FnScope N_call_by ["one", "other", "values"] (defScope s_call_by) := ⟨rfl, rfl, rfl, by decide +kernel, rfl, by decide +kernel, by decide +kernel⟩
theorem ok_call_by (f : Addr) (fd : FuncData) (F : Fun K "call_by" "call_by" s_call_by f fd) (hm : mg "call_by" = some (.ref f)) (B : Bi mg)   : GD P w K mg base 1 "call_by" s_call_by ["one", "other", "values"] m_call_by := gd_ok false F hm sc_call_by fun cdv A outer s H E hr =>
    ds_one (ds_ret (d_tuple B.tuple (da_cons (d_sorted hr false B.sorted (da_cons (d_lc false (own := [("name", 3), ("value", 4)]) rfl sc_call_by.nd (di_zipSS B.zip (da_cons (dv 1 (pv 1)) (da_cons (dv 2 (pv 2)) (da_nil)))) (blkOk_by (N := N_call_by) (sc := defScope s_call_by) (by decide +kernel)) (fun _ _ _ _ _ => dg_tup rfl (dgs_cons (dg_name 3 (pg_name (i := 3) sc_call_by.nd rfl (Or.inl rfl))) (dgs_cons (dg_name 4 (pg_name (i := 4) sc_call_by.nd rfl (Or.inl rfl))) (dgs_nil)))) (fun _ _ _ _ _ => dts_nil) (fun _ _ _ _ _ => d_tup (da_cons (dv 3 (pv 3)) (da_cons (d_idx hr.room (dv 0 (pv 0)) (dv 4 (pv 4)) (fun _ _ => rfl)) (da_nil)))) (by decide)) (da_nil))) (da_nil))))
abbrev s__law_box : Stmt := topS 20
abbrev N__law_box : List Str := ["_law_script", "_law_k", "_law_cell"]
theorem sc__law_box : FnScope N__law_box ["_law_script", "_law_k"] (defScope s__law_box) := ⟨rfl, rfl, rfl, by decide +kernel, rfl, by decide +kernel, by decide +kernel⟩
theorem ok__law_box (f : Addr) (fd : FuncData) (F : Fun K "_law_box" "_law_box" s__law_box f fd) (hm : mg "_law_box" = some (.ref f)) (B : Bi mg)   : GD P w K mg base 1 "_law_box" s__law_box ["_law_script", "_law_k"] m__law_box := gd_ok true F hm sc__law_box fun cdv A outer s H E hr =>
    ds_cons (ds_set (ps_set (i := 2) sc__law_box.nd rfl (Or.inl rfl) (d_int)))
    (ds_cons (ds_if (t_lt (dv 1 (pv 1)) (d_len B.len (da_cons (dv 0 (pv 0)) (da_nil)))) (ds_one (ds_set (ps_set (i := 2) sc__law_box.nd rfl (Or.inl rfl) (d_idx hr.room (dv 0 (pv 0)) (dv 1 (pv 1)) (fun _ _ => rfl))))) (ds_nil))
    (ds_one (ds_ret (d_lst true (da_cons (d_mul false (d_abs B.abs (da_cons (dv 2 (pv 2)) (da_nil))) (d_intC B.int (da_cons (d_ge (d_abs B.abs (da_cons (dv 2 (pv 2)) (da_nil))) (d_pow (d_int) (d_int))) (da_nil)))) (da_cons (d_add false (d_add false (d_mod (dv 2 (pv 2)) (d_int)) (d_mul false (d_int) (dv 1 (pv 1)))) (d_int)) (da_cons (d_int) (da_nil))))))))
abbrev s__law_take : Stmt := topS 21
abbrev N__law_take : List Str := ["_law_box_here", "_law_size", "_law_once", "_law_found"]
theorem sc__law_take : FnScope N__law_take ["_law_box_here", "_law_size"] (defScope s__law_take) := ⟨rfl, rfl, rfl, by decide +kernel, rfl, by decide +kernel, by decide +kernel⟩
theorem ok__law_take (f : Addr) (fd : FuncData) (F : Fun K "_law_take" "_law_take" s__law_take f fd) (hm : mg "_law_take" = some (.ref f)) (B : Bi mg)   : GD P w K mg base 1 "_law_take" s__law_take ["_law_box_here", "_law_size"] m__law_take := gd_ok false F hm sc__law_take fun cdv A outer s H E hr =>
    ds_cons (ds_if (t_gt (d_idx hr.room (dv 0 (pv 0)) (d_int) (fun _ _ => rfl)) (d_int)) (ds_cons (ds_set (ps_set (i := 3) sc__law_take.nd rfl (Or.inl rfl) (d_mod (d_idx hr.room (dv 0 (pv 0)) (d_int) (fun _ _ => rfl)) (dv 1 (pv 1)))))
    (ds_cons (ds_sub (d_div (d_idx hr.room (dv 0 (pv 0)) (d_int) (fun _ _ => rfl)) (dv 1 (pv 1))) (dv 0 (pv 0)) (d_int) (ps_asg (d_div (d_idx hr.room (dv 0 (pv 0)) (d_int) (fun _ _ => rfl)) (dv 1 (pv 1))) (pg_sub (dv 0 (pv 0)) (d_int) set_list)))
    (ds_one (ds_ret (dv 3 (pv 3)))))) (ds_nil))
    (ds_cons (ds_sub (d_add false (d_idx hr.room (dv 0 (pv 0)) (d_int) (fun _ _ => rfl)) (d_int)) (dv 0 (pv 0)) (d_int) (ps_asg (d_add false (d_idx hr.room (dv 0 (pv 0)) (d_int) (fun _ _ => rfl)) (d_int)) (pg_sub (dv 0 (pv 0)) (d_int) set_list)))
    (ds_cons (ds_set (ps_set (i := 2) sc__law_take.nd rfl (Or.inl rfl) (d_mod (d_pow (d_add false (d_idx hr.room (dv 0 (pv 0)) (d_int) (fun _ _ => rfl)) (d_mul false (d_int) (d_idx hr.room (dv 0 (pv 0)) (d_int) (fun _ _ => rfl)))) (d_int)) (d_int))))
    (ds_one (ds_ret (d_mod (d_div (d_mod (d_add false (d_mul false (dv 2 (pv 2)) (d_add false (d_mod (dv 2 (pv 2)) (d_int)) (d_int))) (d_mul false (d_idx hr.room (dv 0 (pv 0)) (d_int) (fun _ _ => rfl)) (d_int))) (d_int)) (d_int)) (dv 1 (pv 1)))))))
abbrev s__law_folded : Stmt := topS 24
abbrev N__law_folded : List Str := ["_law_script", "_law_size", "_law_cells", "_law_k", "_law_cell"]
theorem sc__law_folded : FnScope N__law_folded ["_law_script", "_law_size"] (defScope s__law_folded) := ⟨rfl, rfl, rfl, by decide +kernel, rfl, by decide +kernel, by decide +kernel⟩
theorem ok__law_folded (f : Addr) (fd : FuncData) (F : Fun K "_law_folded" "_law_folded" s__law_folded f fd) (hm : mg "_law_folded" = some (.ref f)) (B : Bi mg)   : GD P w K mg base 1 "_law_folded" s__law_folded ["_law_script", "_law_size"] m__law_folded := gd_ok false F hm sc__law_folded fun cdv A outer s H E hr =>
    ds_cons (ds_set (ps_set (i := 2) sc__law_folded.nd rfl (Or.inl rfl) (d_list true B.list (da_cons (d_slice false (dv 0 (pv 0)) (do_none) (do_some (dv 1 (pv 1)))) (da_nil)))))
    (ds_cons (ds_for rfl PassesOwn.never (di_enumA B.enumerate (da_cons (d_slice false (dv 0 (pv 0)) (do_some (dv 1 (pv 1))) (do_some (d_int))) (da_nil))) (dg_tup rfl (dgs_cons (dg_name 3 (pg_name (i := 3) sc__law_folded.nd rfl (Or.inl rfl))) (dgs_cons (dg_name 4 (pg_name (i := 4) sc__law_folded.nd rfl (Or.inl rfl))) (dgs_nil))))
    (ds_one (ds_sub (d_add false (d_idx hr.room (dv 2 (pv 2)) (d_mod (dv 3 (pv 3)) (dv 1 (pv 1))) (fun _ _ => rfl)) (d_mul false (dv 4 (pv 4)) (d_add false (dv 3 (pv 3)) (d_int)))) (dv 2 (pv 2)) (d_mod (dv 3 (pv 3)) (dv 1 (pv 1))) (ps_asg (d_add false (d_idx hr.room (dv 2 (pv 2)) (d_mod (dv 3 (pv 3)) (dv 1 (pv 1))) (fun _ _ => rfl)) (d_mul false (dv 4 (pv 4)) (d_add false (dv 3 (pv 3)) (d_int)))) (pg_sub (dv 2 (pv 2)) (d_mod (dv 3 (pv 3)) (dv 1 (pv 1))) set_list)))))
    (ds_frz 2 (ds_one (ds_ret (d_if (t_ne hr.room (dv 2 (pv 2)) (d_lst false (da_nil))) (dv 2 (pv 2)) (d_lst false (da_cons (d_int) (da_nil))))))))
abbrev s__law_all_calls : Stmt := topS 27
abbrev N__law_all_calls : List Str := ["_law_names_due", "_law_found", "_law_name", "_law_later", "_law_some", "_law_to"]
theorem sc__law_all_calls : FnScope N__law_all_calls ["_law_names_due"] (defScope s__law_all_calls) := ⟨rfl, rfl, rfl, by decide +kernel, rfl, by decide +kernel, by decide +kernel⟩
theorem ok__law_all_calls (f : Addr) (fd : FuncData) (F : Fun K "_law_all_calls" "_law_all_calls" s__law_all_calls f fd) (hm : mg "_law_all_calls" = some (.ref f)) (B : Bi mg)   : GD P w K mg base 1 "_law_all_calls" s__law_all_calls ["_law_names_due"] m__law_all_calls := gd_ok false F hm sc__law_all_calls fun cdv A outer s H E hr =>
    ds_cons (ds_set (ps_set (i := 1) sc__law_all_calls.nd rfl (Or.inl rfl) (d_lst false (da_cons (d_tup (da_nil)) (da_nil)))))
    (ds_cons (ds_for rfl PassesOwn.never (di_seq (dv 0 (pv 0))) (dg_name 2 (pg_name (i := 2) sc__law_all_calls.nd rfl (Or.inr rfl)))
    (ds_cons (ds_set (ps_set (i := 3) sc__law_all_calls.nd rfl (Or.inl rfl) (d_lst true (da_nil))))
    (ds_cons (ds_for rfl PassesOwn.never (di_seq (dv 1 (pv 1))) (dg_name 4 (pg_name (i := 4) sc__law_all_calls.nd rfl (Or.inr rfl)))
    (ds_one (ds_expr ((pe_bm PySem.F.plainAttrs_list PySem.F.slot_list_extend PySem.F.type_list_extend mt_extend (dv 3 (pv 3)) (da_cons (d_lc false (own := [("_law_to", 5)]) rfl sc__law_all_calls.nd (di_seq (dv 0 (pv 0))) (blkOk_by (N := N__law_all_calls) (sc := defScope s__law_all_calls) (by decide +kernel)) (fun _ _ _ _ _ => dg_name 5 (pg_name (i := 5) sc__law_all_calls.nd rfl (Or.inl rfl))) (fun _ _ _ _ _ => dts_nil) (fun _ _ _ _ _ => d_add false (dv 4 (pv 4)) (d_tup (da_cons (d_tup (da_cons (dv 2 (pv 2)) (da_cons (dv 5 (pv 5)) (da_nil)))) (da_nil)))) (by decide)) (da_nil))).weak (meth_imp s_extend)))))
    (ds_frz 3 (ds_one (ds_set (ps_set (i := 1) sc__law_all_calls.nd rfl (Or.inl rfl) (dv 3 (pv 3)))))))))
    (ds_one (ds_ret (dv 1 (pv 1)))))
abbrev s__law_called : Stmt := topS 28
abbrev N__law_called : List Str := ["_law_row_due", "_law_cry", "_law_told", "_law_found", "_law_name", "_law_who"]
theorem sc__law_called : FnScope N__law_called ["_law_row_due", "_law_cry"] (defScope s__law_called) := ⟨rfl, rfl, rfl, by decide +kernel, rfl, by decide +kernel, by decide +kernel⟩
theorem ok__law_called (f : Addr) (fd : FuncData) (F : Fun K "_law_called" "_law_called" s__law_called f fd) (hm : mg "_law_called" = some (.ref f)) (B : Bi mg)   : GD P w K mg base 1 "_law_called" s__law_called ["_law_row_due", "_law_cry"] m__law_called := gd_ok false F hm sc__law_called fun cdv A outer s H E hr =>
    ds_cons (ds_set (ps_set (i := 2) sc__law_called.nd rfl (Or.inr rfl) (d_dictA rfl false B.dict (da_cons (dv 1 (pv 1)) (da_nil)))))
    (ds_cons (ds_set (ps_set (i := 3) sc__law_called.nd rfl (Or.inl rfl) (d_lst false (da_nil))))
    (ds_cons (ds_for rfl PassesOwn.never (di_seq (dv 0 (pv 0))) (dg_name 4 (pg_name (i := 4) sc__law_called.nd rfl (Or.inr rfl)))
    (ds_one (ds_set (ps_set (i := 3) sc__law_called.nd rfl (Or.inl rfl) (d_add false (dv 3 (pv 3)) (d_lc false (own := [("_law_who", 5)]) rfl sc__law_called.nd (di_seq (dv 0 (pv 0))) (blkOk_by (N := N__law_called) (sc := defScope s__law_called) (by decide +kernel)) (fun _ _ _ _ _ => dg_name 5 (pg_name (i := 5) sc__law_called.nd rfl (Or.inl rfl))) (fun _ _ _ _ _ => dts_one (t_eq hr.room (d_idx hr.room (dv 2 (pv 2)) (dv 5 (pv 5)) (fun _ _ => rfl)) (dv 4 (pv 4)))) (fun _ _ _ _ _ => dv 5 (pv 5)) (by decide)))))))
    (ds_one (ds_ret (d_tuple B.tuple (da_cons (dv 3 (pv 3)) (da_nil)))))))
abbrev s__law_going : Stmt := topS 29
abbrev N__law_going : List Str := ["_law_cry", "_law_name", "_law_to"]
theorem sc__law_going : FnScope N__law_going ["_law_cry"] (defScope s__law_going) := ⟨rfl, rfl, rfl, by decide +kernel, rfl, by decide +kernel, by decide +kernel⟩
theorem ok__law_going (f : Addr) (fd : FuncData) (F : Fun K "_law_going" "_law_going" s__law_going f fd) (hm : mg "_law_going" = some (.ref f)) (B : Bi mg)   : GD P w K mg base 1 "_law_going" s__law_going ["_law_cry"] m__law_going := gd_ok false F hm sc__law_going fun cdv A outer s H E hr =>
    ds_one (ds_ret (d_len B.len (da_cons (d_lc false (own := [("_law_name", 1), ("_law_to", 2)]) rfl sc__law_going.nd (di_seq (dv 0 (pv 0))) (blkOk_by (N := N__law_going) (sc := defScope s__law_going) (by decide +kernel)) (fun _ _ _ _ _ => dg_tup rfl (dgs_cons (dg_name 1 (pg_name (i := 1) sc__law_going.nd rfl (Or.inl rfl))) (dgs_cons (dg_name 2 (pg_name (i := 2) sc__law_going.nd rfl (Or.inl rfl))) (dgs_nil)))) (fun _ _ _ _ _ => dts_one (t_ne hr.room (dv 1 (pv 1)) (dv 2 (pv 2)))) (fun _ _ _ _ _ => dv 1 (pv 1)) (by decide)) (da_nil))))
abbrev s_place_of : Stmt := topS 7
abbrev N_place_of : List Str := ["row", "name", "places"]
theorem sc_place_of : FnScope N_place_of ["row", "name"] (defScope s_place_of) := ⟨rfl, rfl, rfl, by decide +kernel, rfl, by decide +kernel, by decide +kernel⟩
theorem ok_place_of (f : Addr) (fd : FuncData) (F : Fun K "place_of" "place_of" s_place_of f fd) (hm : mg "place_of" = some (.ref f)) (B : Bi mg)  (g_places_of : GD P w K mg base 1 "places_of" s_places_of ["row"] m_places_of) : GD P w K mg base 2 "place_of" s_place_of ["row", "name"] m_place_of := gd_ok false F hm sc_place_of fun cdv A outer s H E hr =>
    ds_cons (ds_set (ps_set (i := 2) sc_place_of.nd rfl (Or.inl rfl) (d_call' g_places_of (hr.mono (by omega)) (da_cons (dv 0 (pv 0)) (da_nil)) (fun _ _ _ _ _ _ us hl => match us, hl with | [_], _ => rfl))))
    (ds_cons (ds_if (t_notin hr.room (dv 1 (pv 1)) (dv 2 (pv 2))) (ds_one (ds_never)) (ds_nil))
    (ds_one (ds_ret (d_idx hr.room (dv 2 (pv 2)) (dv 1 (pv 1)) (fun _ _ => rfl)))))
abbrev s_ways_on : Stmt := topS 12
abbrev N_ways_on : List Str := ["size", "rises", "at", "value", "left"]
theorem sc_ways_on : FnScope N_ways_on ["size", "rises", "at", "value"] (defScope s_ways_on) := ⟨rfl, rfl, rfl, by decide +kernel, rfl, by decide +kernel, by decide +kernel⟩
theorem ok_ways_on (f : Addr) (fd : FuncData) (F : Fun K "ways_on" "ways_on" s_ways_on f fd) (hm : mg "ways_on" = some (.ref f)) (B : Bi mg)  (g_choices : GD P w K mg base 1 "choices" s_choices ["many", "few"] m_choices) : GD P w K mg base 2 "ways_on" s_ways_on ["size", "rises", "at", "value"] m_ways_on := gd_ok false F hm sc_ways_on fun cdv A outer s H E hr =>
    ds_cons (ds_set (ps_set (i := 4) sc_ways_on.nd rfl (Or.inl rfl) (d_sub (d_sub (dv 0 (pv 0)) (d_int)) (dv 2 (pv 2)))))
    (ds_one (ds_ret (d_call' g_choices (hr.mono (by omega)) (da_cons (d_add false (d_sub (d_sub (d_sub (dv 0 (pv 0)) (d_int)) (dv 3 (pv 3))) (d_sum rfl B.sum (da_cons (d_slice false (dv 1 (pv 1)) (do_some (d_add false (dv 2 (pv 2)) (d_int))) (do_none)) (da_nil)))) (dv 4 (pv 4))) (da_cons (dv 4 (pv 4)) (da_nil))) (fun _ _ _ _ _ _ us hl => match us, hl with | [_, _], _ => rfl))))
abbrev s_most_stay : Stmt := topS 16
abbrev N_most_stay : List Str := ["one", "other", "found", "at", "rises", "size", "some", "value", "stays"]
theorem sc_most_stay : FnScope N_most_stay ["one", "other"] (defScope s_most_stay) := ⟨rfl, rfl, rfl, by decide +kernel, rfl, by decide +kernel, by decide +kernel⟩
theorem ok_most_stay (f : Addr) (fd : FuncData) (F : Fun K "most_stay" "most_stay" s_most_stay f fd) (hm : mg "most_stay" = some (.ref f)) (B : Bi mg)  (g_risen : GD P w K mg base 1 "risen" s_risen ["one", "other"] m_risen) : GD P w K mg base 2 "most_stay" s_most_stay ["one", "other"] m_most_stay := gd_ok false F hm sc_most_stay fun cdv A outer s H E hr =>
    ds_cons (ds_par2 (ps_par (i := 4) (j := 5) rfl sc_most_stay.nd rfl rfl (by decide) rfl rfl (da_cons (d_add false (d_call' g_risen (hr.mono (by omega)) (da_cons (dv 0 (pv 0)) (da_cons (dv 1 (pv 1)) (da_nil))) (fun _ _ _ _ _ _ us hl => match us, hl with | [_, _], _ => rfl)) (d_lst false (da_cons (d_int) (da_nil)))) (da_cons (d_len B.len (da_cons (dv 0 (pv 0)) (da_nil))) (da_nil))) (by rfl)))
    (ds_cons (ds_set (ps_set (i := 2) sc_most_stay.nd rfl (Or.inl rfl) (d_lst true (da_cons (d_mul false (d_lst false (da_cons (d_int) (da_nil))) (d_add false (dv 5 (pv 5)) (d_int))) (da_nil)))))
    (ds_cons (ds_for rfl PassesOwn.never (di_rng3 B.range (da_cons (d_sub (dv 5 (pv 5)) (d_int)) (da_cons (d_neg (d_int)) (da_cons (d_neg (d_int)) (da_nil))))) (dg_name 3 (pg_name (i := 3) sc_most_stay.nd rfl (Or.inl rfl)))
    (ds_cons (ds_set (ps_set (i := 6) sc_most_stay.nd rfl (Or.inl rfl) (d_lst true (da_cons (d_mul false (d_neg (d_int)) (dv 5 (pv 5))) (da_nil)))))
    (ds_cons (ds_for rfl PassesOwn.never (di_rng3 B.range (da_cons (d_sub (dv 5 (pv 5)) (d_int)) (da_cons (d_neg (d_int)) (da_cons (d_neg (d_int)) (da_nil))))) (dg_name 7 (pg_name (i := 7) sc_most_stay.nd rfl (Or.inl rfl)))
    (ds_cons (ds_set (ps_set (i := 8) sc_most_stay.nd rfl (Or.inl rfl) (d_add false (d_intC B.int (da_cons (d_eq hr.room (d_idx hr.room (dv 0 (pv 0)) (dv 7 (pv 7)) (fun _ _ => rfl)) (d_idx hr.room (dv 1 (pv 1)) (dv 3 (pv 3)) (fun _ _ => rfl))) (da_nil))) (d_idx hr.room (d_idx hr.room (dv 2 (pv 2)) (d_neg (d_int)) (fun _ _ => rfl)) (d_add false (dv 7 (pv 7)) (d_idx hr.room (dv 4 (pv 4)) (d_add false (dv 3 (pv 3)) (d_int)) (fun _ _ => rfl))) (fun _ _ => rfl)))))
    (ds_one (ds_expr ((pe_bm PySem.F.plainAttrs_list PySem.F.slot_list_append PySem.F.type_list_append mt_append (dv 6 (pv 6)) (da_cons (d_max rfl B.max (da_cons (d_idx hr.room (dv 6 (pv 6)) (d_neg (d_int)) (fun _ _ => rfl)) (da_cons (dv 8 (pv 8)) (da_nil)))) (da_nil))).weak (meth_imp s_append))))))
    (ds_frz 6 (ds_one (ds_expr ((pe_bm PySem.F.plainAttrs_list PySem.F.slot_list_append PySem.F.type_list_append mt_append (dv 2 (pv 2)) (da_cons (d_rev false (dv 6 (pv 6))) (da_nil))).weak (meth_imp s_append))))))))
    (ds_frz 2 (ds_one (ds_ret (d_rev false (dv 2 (pv 2))))))))
abbrev s__law_pick : Stmt := topS 22
abbrev N__law_pick : List Str := ["_law_box_here", "_law_some"]
theorem sc__law_pick : FnScope N__law_pick ["_law_box_here", "_law_some"] (defScope s__law_pick) := ⟨rfl, rfl, rfl, by decide +kernel, rfl, by decide +kernel, by decide +kernel⟩
theorem ok__law_pick (f : Addr) (fd : FuncData) (F : Fun K "_law_pick" "_law_pick" s__law_pick f fd) (hm : mg "_law_pick" = some (.ref f)) (B : Bi mg)  (g__law_take : GD P w K mg base 1 "_law_take" s__law_take ["_law_box_here", "_law_size"] m__law_take) : GD P w K mg base 2 "_law_pick" s__law_pick ["_law_box_here", "_law_some"] m__law_pick := gd_ok false F hm sc__law_pick fun cdv A outer s H E hr =>
    ds_one (ds_ret (d_idx hr.room (dv 1 (pv 1)) (d_call' g__law_take (hr.mono (by omega)) (da_cons (dv 0 (pv 0)) (da_cons (d_len B.len (da_cons (dv 1 (pv 1)) (da_nil))) (da_nil))) (fun _ _ _ _ _ _ us hl => match us, hl with | [_, _], _ => rfl)) (fun _ _ => rfl)))
abbrev s__law_row : Stmt := topS 26
abbrev N__law_row : List Str := ["_law_box_here", "_law_names_due", "_law_left", "_law_found"]
theorem sc__law_row : FnScope N__law_row ["_law_box_here", "_law_names_due"] (defScope s__law_row) := ⟨rfl, rfl, rfl, by decide +kernel, rfl, by decide +kernel, by decide +kernel⟩
theorem ok__law_row (f : Addr) (fd : FuncData) (F : Fun K "_law_row" "_law_row" s__law_row f fd) (hm : mg "_law_row" = some (.ref f)) (B : Bi mg)  (g__law_take : GD P w K mg base 1 "_law_take" s__law_take ["_law_box_here", "_law_size"] m__law_take) : GD P w K mg base 2 "_law_row" s__law_row ["_law_box_here", "_law_names_due"] m__law_rowR := gd_ok false F hm sc__law_row fun cdv A outer s H E hr =>
    ds_cons (ds_par2 (ps_par (i := 2) (j := 3) rfl sc__law_row.nd rfl rfl (by decide) rfl rfl (da_cons (d_list true B.list (da_cons (dv 1 (pv 1)) (da_nil))) (da_cons (d_lst true (da_nil)) (da_nil))) (by rfl)))
    (ds_cons (ds_while 100000 PassesOwn.never (t_ne hr.room (dv 2 (pv 2)) (d_lst false (da_nil)))
    (ds_one (ds_expr ((pe_bm PySem.F.plainAttrs_list PySem.F.slot_list_append PySem.F.type_list_append mt_append (dv 3 (pv 3)) (da_cons ((pe_bm PySem.F.plainAttrs_list PySem.F.slot_list_pop PySem.F.type_list_pop mt_popAt (dv 2 (pv 2)) (da_cons (d_call' g__law_take (hr.mono (by omega)) (da_cons (dv 0 (pv 0)) (da_cons (d_len B.len (da_cons (dv 2 (pv 2)) (da_nil))) (da_nil))) (fun _ _ _ _ _ _ us hl => match us, hl with | [_, _], _ => rfl)) (da_nil))).weak (meth_imp s_popAt)) (da_nil))).weak (meth_imp s_append)))))
    (ds_frz 3 (ds_one (ds_ret (d_tupR B.tuple (da_cons (dv 3 (pv 3)) (da_nil)))))))
abbrev s__law_by_all : Stmt := topS 30
abbrev N__law_by_all : List Str := ["_law_first", "_law_end", "_law_cries", "_law_some", "_law_cry", "_law_best", "_law_told", "_law_name"]
theorem sc__law_by_all : FnScope N__law_by_all ["_law_first", "_law_end", "_law_cries"] (defScope s__law_by_all) := ⟨rfl, rfl, rfl, by decide +kernel, rfl, by decide +kernel, by decide +kernel⟩
theorem ok__law_by_all (f : Addr) (fd : FuncData) (F : Fun K "_law_by_all" "_law_by_all" s__law_by_all f fd) (hm : mg "_law_by_all" = some (.ref f)) (B : Bi mg)  (g__law_called : GD P w K mg base 1 "_law_called" s__law_called ["_law_row_due", "_law_cry"] m__law_called) (g__law_going : GD P w K mg base 1 "_law_going" s__law_going ["_law_cry"] m__law_going) : GD P w K mg base 2 "_law_by_all" s__law_by_all ["_law_first", "_law_end", "_law_cries"] m__law_by_all := gd_ok false F hm sc__law_by_all fun cdv A outer s H E hr =>
    ds_cons (ds_set (ps_set (i := 3) sc__law_by_all.nd rfl (Or.inl rfl) (d_lst true (da_nil))))
    (ds_cons (ds_for rfl PassesOwn.never (di_seq (dv 2 (pv 2))) (dg_name 4 (pg_name (i := 4) sc__law_by_all.nd rfl (Or.inl rfl)))
    (ds_one (ds_if (t_eq hr.room (d_call' g__law_called (hr.mono (by omega)) (da_cons (d_asT (dv 0 (pv 0))) (da_cons (dv 4 (pv 4)) (da_nil))) (fun _ _ _ _ _ _ us hl => match us, hl with | [_, _], _ => rfl)) (dv 1 (pv 1))) (ds_cons (ds_set (ps_set (i := 6) sc__law_by_all.nd rfl (Or.inr rfl) (d_dictA rfl false B.dict (da_cons (dv 4 (pv 4)) (da_nil)))))
    (ds_one (ds_expr ((pe_bm PySem.F.plainAttrs_list PySem.F.slot_list_append PySem.F.type_list_append mt_append (dv 3 (pv 3)) (da_cons (d_tup (da_cons (d_call' g__law_going (hr.mono (by omega)) (da_cons (dv 4 (pv 4)) (da_nil)) (fun _ _ _ _ _ _ us hl => match us, hl with | [_], _ => rfl)) (da_cons (d_tuple B.tuple (da_cons (d_lc false (own := [("_law_name", 7)]) rfl sc__law_by_all.nd (di_seq (dv 1 (pv 1))) (blkOk_by (N := N__law_by_all) (sc := defScope s__law_by_all) (by decide +kernel)) (fun _ _ _ _ _ => dg_name 7 (pg_name (i := 7) sc__law_by_all.nd rfl (Or.inl rfl))) (fun _ _ _ _ _ => dts_nil) (fun _ _ _ _ _ => d_indexR (dv 0 (pv 0)) (da_cons (d_idx hr.room (dv 6 (pv 6)) (dv 7 (pv 7)) (fun _ _ => rfl)) (da_nil))) (by decide)) (da_nil))) (da_cons (dv 4 (pv 4)) (da_nil))))) (da_nil))).weak (meth_imp s_append))))) (ds_nil))))
    (ds_frz 3 (ds_cons (ds_set (ps_set (i := 5) sc__law_by_all.nd rfl (Or.inl rfl) (d_minD hr B.min (da_cons (dv 3 (pv 3)) (da_nil)))))
    (ds_one (ds_ret (d_tup (da_cons (d_idx hr.room (dv 5 (pv 5)) (d_int) (fun _ _ => rfl)) (da_cons (d_idx hr.room (dv 5 (pv 5)) (d_int) (fun _ _ => rfl)) (da_nil)))))))))
abbrev s_falls : Stmt := topS 8
abbrev N_falls : List Str := ["one", "other", "places", "name", "place", "later"]
theorem sc_falls : FnScope N_falls ["one", "other"] (defScope s_falls) := ⟨rfl, rfl, rfl, by decide +kernel, rfl, by decide +kernel, by decide +kernel⟩
theorem ok_falls (f : Addr) (fd : FuncData) (F : Fun K "falls" "falls" s_falls f fd) (hm : mg "falls" = some (.ref f)) (B : Bi mg)  (g_look_alike : GD P w K mg base 1 "look_alike" s_look_alike ["one", "other"] m_look_alike) (g_place_of : GD P w K mg base 2 "place_of" s_place_of ["row", "name"] m_place_of) : GD P w K mg base 3 "falls" s_falls ["one", "other"] m_falls := gd_ok false F hm sc_falls fun cdv A outer s H E hr =>
    ds_cons (ds_expr (d_call' g_look_alike (hr.mono (by omega)) (da_cons (dv 0 (pv 0)) (da_cons (dv 1 (pv 1)) (da_nil))) (fun _ _ _ _ _ _ us hl => match us, hl with | [_, _], _ => rfl)))
    (ds_cons (ds_setLc false (own := [("name", 3)]) (i := 2) rfl sc_falls.nd rfl rfl (sw_true rfl rfl rfl (by decide +kernel)) (di_seq (dv 1 (pv 1))) (blkOk_by (N := N_falls) (sc := defScope s_falls) (by decide +kernel)) (fun _ _ _ _ _ => dg_name 3 (pg_name (i := 3) sc_falls.nd rfl (Or.inl rfl))) (fun _ _ _ _ _ => dts_nil) (fun _ _ _ _ _ => d_call' g_place_of (hr.mono (by omega)) (da_cons (dv 0 (pv 0)) (da_cons (dv 3 (pv 3)) (da_nil))) (fun _ _ _ _ _ _ us hl => match us, hl with | [_, _], _ => rfl)) (by decide))
    (ds_one (ds_ret (d_len B.len (da_cons (d_lc false (own := [("place", 4), ("later", 5)]) rfl sc_falls.nd (di_zip B.zip (da_cons (dv 2 (pv 2)) (da_cons (d_slice false (dv 2 (pv 2)) (do_some (d_int)) (do_none)) (da_nil)))) (blkOk_by (N := N_falls) (sc := defScope s_falls) (by decide +kernel)) (fun _ _ _ _ _ => dg_tup rfl (dgs_cons (dg_name 4 (pg_name (i := 4) sc_falls.nd rfl (Or.inl rfl))) (dgs_cons (dg_name 5 (pg_name (i := 5) sc_falls.nd rfl (Or.inl rfl))) (dgs_nil)))) (fun _ _ _ _ _ => dts_one (t_gt (dv 4 (pv 4)) (dv 5 (pv 5)))) (fun _ _ _ _ _ => dv 4 (pv 4)) (by decide)) (da_nil))))))
abbrev s__law_names : Stmt := topS 25
abbrev N__law_names : List Str := ["_law_box_here", "_law_most", "_law_count", "_law_found", "_law_name", "_law_turn"]
theorem sc__law_names : FnScope N__law_names ["_law_box_here", "_law_most"] (defScope s__law_names) := ⟨rfl, rfl, rfl, by decide +kernel, rfl, by decide +kernel, by decide +kernel⟩
theorem ok__law_names (f : Addr) (fd : FuncData) (F : Fun K "_law_names" "_law_names" s__law_names f fd) (hm : mg "_law_names" = some (.ref f)) (B : Bi mg)  (g__law_take : GD P w K mg base 1 "_law_take" s__law_take ["_law_box_here", "_law_size"] m__law_take) (g__law_pick : GD P w K mg base 2 "_law_pick" s__law_pick ["_law_box_here", "_law_some"] m__law_pick) : GD P w K mg base 3 "_law_names" s__law_names ["_law_box_here", "_law_most"] m__law_names := gd_ok false F hm sc__law_names fun cdv A outer s H E hr =>
    ds_cons (ds_par2 (ps_par (i := 2) (j := 3) rfl sc__law_names.nd rfl rfl (by decide) rfl rfl (da_cons (d_add false (d_int) (d_call' g__law_take (hr.mono (by omega)) (da_cons (dv 0 (pv 0)) (da_cons (dv 1 (pv 1)) (da_nil))) (fun _ _ _ _ _ _ us hl => match us, hl with | [_, _], _ => rfl))) (da_cons (d_lst false (da_nil)) (da_nil))) (by rfl)))
    (ds_cons (ds_while 100000 PassesOwn.never (t_lt (d_len B.len (da_cons (dv 3 (pv 3)) (da_nil))) (dv 2 (pv 2)))
    (ds_cons (ds_set (ps_set (i := 4) sc__law_names.nd rfl (Or.inl rfl) (d_join (d_str) (d_lc false (own := [("_law_turn", 5)]) rfl sc__law_names.nd (di_rng1 B.range (da_cons (d_add false (d_int) (d_call' g__law_take (hr.mono (by omega)) (da_cons (dv 0 (pv 0)) (da_cons (d_int) (da_nil))) (fun _ _ _ _ _ _ us hl => match us, hl with | [_, _], _ => rfl))) (da_nil))) (blkOk_by (N := N__law_names) (sc := defScope s__law_names) (by decide +kernel)) (fun _ _ _ _ _ => dg_name 5 (pg_name (i := 5) sc__law_names.nd rfl (Or.inl rfl))) (fun _ _ _ _ _ => dts_nil) (fun _ _ _ _ _ => d_call' g__law_pick (hr.mono (by omega)) (da_cons (dv 0 (pv 0)) (da_cons (d_str) (da_nil))) (fun _ _ _ _ _ _ us hl => match us, hl with | [_, _], _ => rfl)) (by decide)))))
    (ds_one (ds_set (ps_set (i := 3) sc__law_names.nd rfl (Or.inl rfl) (d_sortS hr rfl false B.sorted B.set (da_cons (d_add false (dv 3 (pv 3)) (d_lst false (da_cons (d_add false (dv 4 (pv 4)) (d_idx hr.room (d_str) (d_len B.len (da_cons (dv 3 (pv 3)) (da_nil))) (fun _ _ => rfl))) (da_nil)))) (da_nil))))))))
    (ds_one (ds_ret (dv 3 (pv 3)))))
abbrev s_calls_many : Stmt := topS 14
abbrev N_calls_many : List Str := ["one", "other"]
theorem sc_calls_many : FnScope N_calls_many ["one", "other"] (defScope s_calls_many) := ⟨rfl, rfl, rfl, by decide +kernel, rfl, by decide +kernel, by decide +kernel⟩
theorem ok_calls_many (f : Addr) (fd : FuncData) (F : Fun K "calls_many" "calls_many" s_calls_many f fd) (hm : mg "calls_many" = some (.ref f)) (B : Bi mg)  (g_choices : GD P w K mg base 1 "choices" s_choices ["many", "few"] m_choices) (g_falls : GD P w K mg base 3 "falls" s_falls ["one", "other"] m_falls) : GD P w K mg base 4 "calls_many" s_calls_many ["one", "other"] m_calls_many := gd_ok false F hm sc_calls_many fun cdv A outer s H E hr =>
    ds_one (ds_ret (d_call' g_choices (hr.mono (by omega)) (da_cons (d_sub (d_sub (d_mul false (d_int) (d_len B.len (da_cons (dv 0 (pv 0)) (da_nil)))) (d_int)) (d_call' g_falls (hr.mono (by omega)) (da_cons (dv 0 (pv 0)) (da_cons (dv 1 (pv 1)) (da_nil))) (fun _ _ _ _ _ _ us hl => match us, hl with | [_, _], _ => rfl))) (da_cons (d_len B.len (da_cons (dv 0 (pv 0)) (da_nil))) (da_nil))) (fun _ _ _ _ _ _ us hl => match us, hl with | [_, _], _ => rfl)))
abbrev s_fewest_goers : Stmt := topS 17
abbrev N_fewest_goers : List Str := ["one", "other"]
theorem sc_fewest_goers : FnScope N_fewest_goers ["one", "other"] (defScope s_fewest_goers) := ⟨rfl, rfl, rfl, by decide +kernel, rfl, by decide +kernel, by decide +kernel⟩
theorem ok_fewest_goers (f : Addr) (fd : FuncData) (F : Fun K "fewest_goers" "fewest_goers" s_fewest_goers f fd) (hm : mg "fewest_goers" = some (.ref f)) (B : Bi mg)  (g_falls : GD P w K mg base 3 "falls" s_falls ["one", "other"] m_falls) (g_most_stay : GD P w K mg base 2 "most_stay" s_most_stay ["one", "other"] m_most_stay) : GD P w K mg base 4 "fewest_goers" s_fewest_goers ["one", "other"] m_fewest_goers := gd_ok false F hm sc_fewest_goers fun cdv A outer s H E hr =>
    ds_cons (ds_expr (d_call' g_falls (hr.mono (by omega)) (da_cons (dv 0 (pv 0)) (da_cons (dv 1 (pv 1)) (da_nil))) (fun _ _ _ _ _ _ us hl => match us, hl with | [_, _], _ => rfl)))
    (ds_one (ds_ret (d_sub (d_len B.len (da_cons (dv 0 (pv 0)) (da_nil))) (d_idx hr.room (d_idx hr.room (d_call' g_most_stay (hr.mono (by omega)) (da_cons (dv 0 (pv 0)) (da_cons (dv 1 (pv 1)) (da_nil))) (fun _ _ _ _ _ _ us hl => match us, hl with | [_, _], _ => rfl)) (d_int) (fun _ _ => rfl)) (d_int) (fun _ _ => rfl)))))
abbrev s_call_of_fewest : Stmt := topS 18
abbrev N_call_of_fewest : List Str := ["one", "other", "left", "best", "rises", "values", "least", "at", "name", "value"]
theorem sc_call_of_fewest : FnScope N_call_of_fewest ["one", "other"] (defScope s_call_of_fewest) := ⟨rfl, rfl, rfl, by decide +kernel, rfl, by decide +kernel, by decide +kernel⟩
theorem ok_call_of_fewest (f : Addr) (fd : FuncData) (F : Fun K "call_of_fewest" "call_of_fewest" s_call_of_fewest f fd) (hm : mg "call_of_fewest" = some (.ref f)) (B : Bi mg)  (g_falls : GD P w K mg base 3 "falls" s_falls ["one", "other"] m_falls) (g_call_by : GD P w K mg base 1 "call_by" s_call_by ["one", "other", "values"] m_call_by) (g_most_stay : GD P w K mg base 2 "most_stay" s_most_stay ["one", "other"] m_most_stay) (g_risen : GD P w K mg base 1 "risen" s_risen ["one", "other"] m_risen) : GD P w K mg base 4 "call_of_fewest" s_call_of_fewest ["one", "other"] m_call_of_fewest := gd_ok false F hm sc_call_of_fewest fun cdv A outer s H E hr =>
    ds_cons (ds_expr (d_call' g_falls (hr.mono (by omega)) (da_cons (dv 0 (pv 0)) (da_cons (dv 1 (pv 1)) (da_nil))) (fun _ _ _ _ _ _ us hl => match us, hl with | [_, _], _ => rfl)))
    (ds_cons (ds_unp (is := [3, 4, 5, 6]) rfl (da_cons (d_call' g_most_stay (hr.mono (by omega)) (da_cons (dv 0 (pv 0)) (da_cons (dv 1 (pv 1)) (da_nil))) (fun _ _ _ _ _ _ us hl => match us, hl with | [_, _], _ => rfl)) (da_cons (d_add false (d_call' g_risen (hr.mono (by omega)) (da_cons (dv 0 (pv 0)) (da_cons (dv 1 (pv 1)) (da_nil))) (fun _ _ _ _ _ _ us hl => match us, hl with | [_, _], _ => rfl)) (d_lst false (da_cons (d_int) (da_nil)))) (da_cons (d_lst true (da_nil)) (da_cons (d_int) (da_nil))))) (pgs_cons (pg_name (i := 3) sc_call_of_fewest.nd rfl (Or.inl rfl)) (pgs_cons (pg_name (i := 4) sc_call_of_fewest.nd rfl (Or.inl rfl)) (pgs_cons (pg_name (i := 5) sc_call_of_fewest.nd rfl (Or.inl rfl)) (pgs_cons (pg_name (i := 6) sc_call_of_fewest.nd rfl (Or.inl rfl)) (pgs_nil))))) rfl)
    (ds_cons (ds_set (ps_set (i := 2) sc_call_of_fewest.nd rfl (Or.inl rfl) (d_idx hr.room (d_idx hr.room (dv 3 (pv 3)) (d_int) (fun _ _ => rfl)) (d_int) (fun _ _ => rfl))))
    (ds_cons (ds_for rfl PassesOwn.never (di_enumA B.enumerate (da_cons (dv 1 (pv 1)) (da_nil))) (dg_tup rfl (dgs_cons (dg_name 7 (pg_name (i := 7) sc_call_of_fewest.nd rfl (Or.inl rfl))) (dgs_cons (dg_name 8 (pg_name (i := 8) sc_call_of_fewest.nd rfl (Or.inl rfl))) (dgs_nil))))
    (ds_cons (ds_set (ps_set (i := 9) sc_call_of_fewest.nd rfl (Or.inl rfl) (dv 6 (pv 6))))
    (ds_cons (ds_while 100000 PassesOwn.never (t_ne hr.room (d_add false (d_intC B.int (da_cons (d_eq hr.room (d_idx hr.room (dv 0 (pv 0)) (dv 9 (pv 9)) (fun _ _ => rfl)) (dv 8 (pv 8))) (da_nil))) (d_idx hr.room (d_idx hr.room (dv 3 (pv 3)) (d_add false (dv 7 (pv 7)) (d_int)) (fun _ _ => rfl)) (d_add false (dv 9 (pv 9)) (d_idx hr.room (dv 4 (pv 4)) (d_add false (dv 7 (pv 7)) (d_int)) (fun _ _ => rfl))) (fun _ _ => rfl))) (dv 2 (pv 2)))
    (ds_one (ds_aug (ps_aug (i := 9) sc_call_of_fewest.nd rfl (Or.inl rfl) (d_int) ip_gAdd))))
    (ds_cons (ds_aug (ps_aug (i := 2) sc_call_of_fewest.nd rfl (Or.inl rfl) (d_intC B.int (da_cons (d_eq hr.room (d_idx hr.room (dv 0 (pv 0)) (dv 9 (pv 9)) (fun _ _ => rfl)) (dv 8 (pv 8))) (da_nil))) ip_gSub))
    (ds_cons (ds_expr ((pe_bm PySem.F.plainAttrs_list PySem.F.slot_list_append PySem.F.type_list_append mt_append (dv 5 (pv 5)) (da_cons (dv 9 (pv 9)) (da_nil))).weak (meth_imp s_append)))
    (ds_one (ds_set (ps_set (i := 6) sc_call_of_fewest.nd rfl (Or.inl rfl) (d_add false (dv 9 (pv 9)) (d_idx hr.room (dv 4 (pv 4)) (d_add false (dv 7 (pv 7)) (d_int)) (fun _ _ => rfl)))))))))))
    (ds_frz 5 (ds_one (ds_ret (d_call' g_call_by (hr.mono (by omega)) (da_cons (dv 0 (pv 0)) (da_cons (dv 1 (pv 1)) (da_cons (dv 5 (pv 5)) (da_nil)))) (fun _ _ _ _ _ _ us hl => match us, hl with | [_, _, _], _ => rfl))))))))
abbrev s_call_at : Stmt := topS 15
abbrev N_call_at : List Str := ["one", "other", "number", "rises", "values", "left", "at", "rise", "value"]
theorem sc_call_at : FnScope N_call_at ["one", "other", "number"] (defScope s_call_at) := ⟨rfl, rfl, rfl, by decide +kernel, rfl, by decide +kernel, by decide +kernel⟩
theorem ok_call_at (f : Addr) (fd : FuncData) (F : Fun K "call_at" "call_at" s_call_at f fd) (hm : mg "call_at" = some (.ref f)) (B : Bi mg)  (g_call_by : GD P w K mg base 1 "call_by" s_call_by ["one", "other", "values"] m_call_by) (g_risen : GD P w K mg base 1 "risen" s_risen ["one", "other"] m_risen) (g_calls_many : GD P w K mg base 4 "calls_many" s_calls_many ["one", "other"] m_calls_many) (g_ways_on : GD P w K mg base 2 "ways_on" s_ways_on ["size", "rises", "at", "value"] m_ways_on) : GD P w K mg base 5 "call_at" s_call_at ["one", "other", "number"] m_call_at := gd_ok false F hm sc_call_at fun cdv A outer s H E hr =>
    ds_cons (ds_if (dt_not (t_chain (op_le.or op_le_str) s_lt (op_lt.or op_lt_str) s_lt (d_int) (dv 2 (pv 2)) (d_call' g_calls_many (hr.mono (by omega)) (da_cons (dv 0 (pv 0)) (da_cons (dv 1 (pv 1)) (da_nil))) (fun _ _ _ _ _ _ us hl => match us, hl with | [_, _], _ => rfl)))) (ds_one (ds_never)) (ds_nil))
    (ds_cons (ds_par3 (ps_par3 (i := 3) (j := 4) (l := 5) rfl sc_call_at.nd rfl rfl rfl (by decide) (by decide) (by decide) rfl rfl rfl (da_cons (d_call' g_risen (hr.mono (by omega)) (da_cons (dv 0 (pv 0)) (da_cons (dv 1 (pv 1)) (da_nil))) (fun _ _ _ _ _ _ us hl => match us, hl with | [_, _], _ => rfl)) (da_cons (d_lst true (da_nil)) (da_cons (dv 2 (pv 2)) (da_nil)))) (by rfl)))
    (ds_cons (ds_for rfl PassesOwn.never (di_enumA B.enumerate (da_cons (dv 3 (pv 3)) (da_nil))) (dg_tup rfl (dgs_cons (dg_name 6 (pg_name (i := 6) sc_call_at.nd rfl (Or.inl rfl))) (dgs_cons (dg_name 7 (pg_name (i := 7) sc_call_at.nd rfl (Or.inl rfl))) (dgs_nil))))
    (ds_cons (ds_set (ps_set (i := 8) sc_call_at.nd rfl (Or.inl rfl) (d_if (t_gt (dv 6 (pv 6)) (d_int)) (d_add false (d_idx hr.room (dv 4 (pv 4)) (d_neg (d_int)) (fun _ _ => rfl)) (dv 7 (pv 7))) (d_int))))
    (ds_cons (ds_while 100000 PassesOwn.never (t_ge (dv 5 (pv 5)) (d_call' g_ways_on (hr.mono (by omega)) (da_cons (d_len B.len (da_cons (dv 0 (pv 0)) (da_nil))) (da_cons (dv 3 (pv 3)) (da_cons (dv 6 (pv 6)) (da_cons (dv 8 (pv 8)) (da_nil))))) (fun _ _ _ _ _ _ us hl => match us, hl with | [_, _, _, _], _ => rfl)))
    (ds_cons (ds_aug (ps_aug (i := 5) sc_call_at.nd rfl (Or.inl rfl) (d_call' g_ways_on (hr.mono (by omega)) (da_cons (d_len B.len (da_cons (dv 0 (pv 0)) (da_nil))) (da_cons (dv 3 (pv 3)) (da_cons (dv 6 (pv 6)) (da_cons (dv 8 (pv 8)) (da_nil))))) (fun _ _ _ _ _ _ us hl => match us, hl with | [_, _, _, _], _ => rfl)) ip_gSub))
    (ds_one (ds_aug (ps_aug (i := 8) sc_call_at.nd rfl (Or.inl rfl) (d_int) ip_gAdd)))))
    (ds_one (ds_expr ((pe_bm PySem.F.plainAttrs_list PySem.F.slot_list_append PySem.F.type_list_append mt_append (dv 4 (pv 4)) (da_cons (dv 8 (pv 8)) (da_nil))).weak (meth_imp s_append)))))))
    (ds_frz 4 (ds_one (ds_ret (d_call' g_call_by (hr.mono (by omega)) (da_cons (dv 0 (pv 0)) (da_cons (dv 1 (pv 1)) (da_cons (dv 4 (pv 4)) (da_nil)))) (fun _ _ _ _ _ _ us hl => match us, hl with | [_, _, _], _ => rfl)))))))
abbrev s__law_same : Stmt := topS 23
abbrev N__law_same : List Str := ["_law_found", "_law_due", "_law_first_one", "_law_two"]
theorem sc__law_same : FnScope N__law_same ["_law_found", "_law_due"] (defScope s__law_same) := ⟨rfl, rfl, rfl, by decide +kernel, rfl, by decide +kernel, by decide +kernel⟩
theorem ok__law_same (f : Addr) (fd : FuncData) (F : Fun K "_law_same" "_law_same" s__law_same f fd) (hm : mg "_law_same" = some (.ref f)) (B : Bi mg)   : ∀ n : Nat, GD P w K mg base (n) "_law_same" s__law_same ["_law_found", "_law_due"] (m__law_same n)
  | 0 => GD.no F hm
  | n + 1 => have ih := ok__law_same f fd F hm B  n
    gd_ok false F hm sc__law_same fun cdv A outer s H E hr =>
    ds_cons (ds_if (dt_val (d_isi2 B.isinstance B.list bt_list (.inr (.inr (.inr (.inl rfl)))) B.tuple bt_tuple (.inr (.inr (.inr (.inr (.inl rfl))))) (dv 1 (pv 1)))) (ds_cons (ds_if (PW.pt (dw_or (t_ne hr.room (d_isi B.isinstance B.list bt_list (.inr (.inr (.inr (.inl rfl)))) (dv 0 (pv 0))) (d_isi B.isinstance B.list bt_list (.inr (.inr (.inr (.inl rfl)))) (dv 1 (pv 1)))) (dw_or1 (t_ne hr.room (d_isi B.isinstance B.tuple bt_tuple (.inr (.inr (.inr (.inr (.inl rfl))))) (dv 0 (pv 0))) (d_isi B.isinstance B.tuple bt_tuple (.inr (.inr (.inr (.inr (.inl rfl))))) (dv 1 (pv 1))))))) (ds_one (ds_ret (d_bl))) (ds_nil))
    (ds_cons (ds_if (t_ne hr.room (d_len B.len (da_cons (dv 0 (pv 0)) (da_nil))) (d_len B.len (da_cons (dv 1 (pv 1)) (da_nil)))) (ds_one (ds_ret (d_bl))) (ds_nil))
    (ds_one (ds_ret (d_all rfl B.all (da_cons (d_lc false (own := [("_law_first_one", 2), ("_law_two", 3)]) rfl sc__law_same.nd (di_zip B.zip (da_cons (dv 0 (pv 0)) (da_cons (dv 1 (pv 1)) (da_nil)))) (blkOk_by (N := N__law_same) (sc := defScope s__law_same) (by decide +kernel)) (fun _ _ _ _ _ => dg_tup rfl (dgs_cons (dg_name 2 (pg_name (i := 2) sc__law_same.nd rfl (Or.inl rfl))) (dgs_cons (dg_name 3 (pg_name (i := 3) sc__law_same.nd rfl (Or.inl rfl))) (dgs_nil)))) (fun _ _ _ _ _ => dts_nil) (fun _ _ _ _ _ => d_call' ih hr (da_cons (dv 2 (pv 2)) (da_cons (dv 3 (pv 3)) (da_nil))) (fun _ _ _ _ _ _ us hl => match us, hl with | [_, _], _ => rfl)) (by decide)) (da_nil))))))) (ds_nil))
    (ds_cons (ds_if (PW.pt (dw_or (t_is (dv 1 (pv 1)) (d_non)) (dw_or1 (dt_val (d_isi B.isinstance B.str bt_str (.inr (.inr (.inl rfl))) (dv 1 (pv 1))))))) (ds_one (ds_ret (d_and (d_eq hr.room (dv 0 (pv 0)) (dv 1 (pv 1))) (d_one (d_eq hr.room (d_isi B.isinstance B.str bt_str (.inr (.inr (.inl rfl))) (dv 0 (pv 0))) (d_isi B.isinstance B.str bt_str (.inr (.inr (.inl rfl))) (dv 1 (pv 1)))))))) (ds_nil))
    (ds_one (ds_ret (d_and (d_isi B.isinstance B.int bt_int (.inl rfl) (dv 0 (pv 0))) (d_and (d_eq hr.room (d_isi B.isinstance B.bool bt_bool (.inr (.inl rfl)) (dv 0 (pv 0))) (d_isi B.isinstance B.bool bt_bool (.inr (.inl rfl)) (dv 1 (pv 1)))) (d_one (d_eq hr.room (dv 0 (pv 0)) (dv 1 (pv 1)))))))))
abbrev s__law_right : Stmt := topS 31
abbrev N__law_right : List Str := ["_law_box_here", "_law_names_due", "_law_told", "_law_first", "_law_some", "_law_turn", "_law_drawn", "_law_end", "_law_cry", "_law_many", "_law_few", "_law_every", "_law_sizes", "_law_name", "_law_at", "_law_some_call"]
theorem sc__law_right : FnScope N__law_right ["_law_box_here"] (defScope s__law_right) := ⟨rfl, rfl, rfl, by decide +kernel, rfl, by decide +kernel, by decide +kernel⟩
theorem ok__law_right (f : Addr) (fd : FuncData) (F : Fun K "_law_right" "_law_right" s__law_right f fd) (hm : mg "_law_right" = some (.ref f)) (B : Bi mg)  (g__law_names : GD P w K mg base 3 "_law_names" s__law_names ["_law_box_here", "_law_most"] m__law_names) (g__law_by_all : GD P w K mg base 2 "_law_by_all" s__law_by_all ["_law_first", "_law_end", "_law_cries"] m__law_by_all) (g__law_row : GD P w K mg base 2 "_law_row" s__law_row ["_law_box_here", "_law_names_due"] m__law_rowR) (g__law_called : GD P w K mg base 1 "_law_called" s__law_called ["_law_row_due", "_law_cry"] m__law_called) (g_call_of_fewest : GD P w K mg base 4 "call_of_fewest" s_call_of_fewest ["one", "other"] m_call_of_fewest) (g_calls_many : GD P w K mg base 4 "calls_many" s_calls_many ["one", "other"] m_calls_many) (g__law_all_calls : GD P w K mg base 1 "_law_all_calls" s__law_all_calls ["_law_names_due"] m__law_all_calls) (g__law_same : GD P w K mg base 12 "_law_same" s__law_same ["_law_found", "_law_due"] (m__law_same 12)) (g_fewest_goers : GD P w K mg base 4 "fewest_goers" s_fewest_goers ["one", "other"] m_fewest_goers) (g__law_take : GD P w K mg base 1 "_law_take" s__law_take ["_law_box_here", "_law_size"] m__law_take) (g__law_pick : GD P w K mg base 2 "_law_pick" s__law_pick ["_law_box_here", "_law_some"] m__law_pick) (g__law_going : GD P w K mg base 1 "_law_going" s__law_going ["_law_cry"] m__law_going) (g_call_at : GD P w K mg base 5 "call_at" s_call_at ["one", "other", "number"] m_call_at) : GD P w K mg base 13 "_law_right" s__law_right ["_law_box_here"] m__law_right := gd_ok false F hm sc__law_right fun cdv A outer s H E hr =>
    ds_cons (ds_set (ps_set (i := 1) sc__law_right.nd rfl (Or.inl rfl) (d_call' g__law_names (hr.mono (by omega)) (da_cons (dv 0 (pv 0)) (da_cons (d_int) (da_nil))) (fun _ _ _ _ _ _ us hl => match us, hl with | [_, _], _ => rfl))))
    (ds_cons (ds_unp (is := [3, 7]) rfl (da_cons (d_call' g__law_row (hr.mono (by omega)) (da_cons (dv 0 (pv 0)) (da_cons (dv 1 (pv 1)) (da_nil))) (fun _ _ _ _ _ _ us hl => match us, hl with | [_, _], _ => rfl)) (da_cons (d_asT (d_call' g__law_row (hr.mono (by omega)) (da_cons (dv 0 (pv 0)) (da_cons (dv 1 (pv 1)) (da_nil))) (fun _ _ _ _ _ _ us hl => match us, hl with | [_, _], _ => rfl))) (da_nil))) (pgs_cons (pg_name (i := 3) sc__law_right.nd rfl (Or.inr rfl)) (pgs_cons (pg_name (i := 7) sc__law_right.nd rfl (Or.inr rfl)) (pgs_nil))) rfl)
    (ds_cons (ds_asg (d_call' g__law_by_all (hr.mono (by omega)) (da_cons (dv 3 (pv 3)) (da_cons (dv 7 (pv 7)) (da_cons (d_call' g__law_all_calls (hr.mono (by omega)) (da_cons (dv 1 (pv 1)) (da_nil)) (fun _ _ _ _ _ _ us hl => match us, hl with | [_], _ => rfl)) (da_nil)))) (fun _ _ _ _ _ _ us hl => match us, hl with | [_, _, _], _ => rfl)) (dg_tup rfl (dgs_cons (dg_name 10 (pg_name (i := 10) sc__law_right.nd rfl (Or.inl rfl))) (dgs_cons (dg_name 8 (pg_name (i := 8) sc__law_right.nd rfl (Or.inl rfl))) (dgs_nil)))))
    (ds_cons (ds_if (dt_not (dt_val (d_call' g__law_same (hr.mono (by omega)) (da_cons (d_lst false (da_cons (d_call' g_fewest_goers (hr.mono (by omega)) (da_cons (d_asT (dv 3 (pv 3))) (da_cons (dv 7 (pv 7)) (da_nil))) (fun _ _ _ _ _ _ us hl => match us, hl with | [_, _], _ => rfl)) (da_cons (d_call' g_call_of_fewest (hr.mono (by omega)) (da_cons (d_asT (dv 3 (pv 3))) (da_cons (dv 7 (pv 7)) (da_nil))) (fun _ _ _ _ _ _ us hl => match us, hl with | [_, _], _ => rfl)) (da_nil)))) (da_cons (d_lst false (da_cons (dv 10 (pv 10)) (da_cons (dv 8 (pv 8)) (da_nil)))) (da_nil))) (fun _ _ _ _ _ _ us hl => match us, hl with | [_, _], _ => rfl)))) (ds_one (ds_ret (d_bl))) (ds_nil))
    (ds_cons (ds_set (ps_set (i := 2) sc__law_right.nd rfl (Or.inl rfl) (d_lst false (da_cons (d_callK (ks := ["other", "one"]) g_fewest_goers (hr.mono (by omega)) (dk_cons (d_list false B.list (da_cons (dv 7 (pv 7)) (da_nil))) (dk_cons (d_list false B.list (da_cons (d_asT (dv 3 (pv 3))) (da_nil))) (dk_nil))) (fun _ _ _ _ _ _ us l hl hp => match us, hl with | [_, _], _ => by cases hp; rfl) rfl) (da_cons (d_callK (ks := ["other", "one"]) g_call_of_fewest (hr.mono (by omega)) (dk_cons (d_list false B.list (da_cons (dv 7 (pv 7)) (da_nil))) (dk_cons (d_list false B.list (da_cons (d_asT (dv 3 (pv 3))) (da_nil))) (dk_nil))) (fun _ _ _ _ _ _ us l hl hp => match us, hl with | [_, _], _ => by cases hp; rfl) rfl) (da_nil))))))
    (ds_cons (ds_if (PW.pt (dw_or (dt_not (dt_val (d_call' g__law_same (hr.mono (by omega)) (da_cons (dv 2 (pv 2)) (da_cons (d_lst false (da_cons (dv 10 (pv 10)) (da_cons (dv 8 (pv 8)) (da_nil)))) (da_nil))) (fun _ _ _ _ _ _ us hl => match us, hl with | [_, _], _ => rfl)))) (dw_or1 (dt_not (dt_val (d_call' g__law_same (hr.mono (by omega)) (da_cons (d_call' g_fewest_goers (hr.mono (by omega)) (da_cons (d_asT (dv 3 (pv 3))) (da_cons (d_asT (dv 3 (pv 3))) (da_nil))) (fun _ _ _ _ _ _ us hl => match us, hl with | [_, _], _ => rfl)) (da_cons (d_int) (da_nil))) (fun _ _ _ _ _ _ us hl => match us, hl with | [_, _], _ => rfl))))))) (ds_one (ds_ret (d_bl))) (ds_nil))
    (ds_cons (ds_set (ps_set (i := 1) sc__law_right.nd rfl (Or.inl rfl) (d_call' g__law_names (hr.mono (by omega)) (da_cons (dv 0 (pv 0)) (da_cons (d_int) (da_nil))) (fun _ _ _ _ _ _ us hl => match us, hl with | [_, _], _ => rfl))))
    (ds_cons (ds_set (ps_set (i := 3) sc__law_right.nd rfl (Or.inr rfl) (d_call' g__law_row (hr.mono (by omega)) (da_cons (dv 0 (pv 0)) (da_cons (dv 1 (pv 1)) (da_nil))) (fun _ _ _ _ _ _ us hl => match us, hl with | [_, _], _ => rfl))))
    (ds_cons (ds_set (ps_set (i := 4) sc__law_right.nd rfl (Or.inr rfl) (d_dictA rfl true B.dict (da_cons (d_lc false (own := [("_law_name", 13)]) rfl sc__law_right.nd (di_seq (dv 1 (pv 1))) (blkOk_by (N := N__law_right) (sc := defScope s__law_right) (by decide +kernel)) (fun _ _ _ _ _ => dg_name 13 (pg_name (i := 13) sc__law_right.nd rfl (Or.inl rfl))) (fun _ _ _ _ _ => dts_nil) (fun _ _ _ _ _ => d_tup (da_cons (dv 13 (pv 13)) (da_cons (dv 13 (pv 13)) (da_nil)))) (by decide)) (da_nil)))))
    (ds_cons (ds_for rfl PassesOwn.never (di_rng1 B.range (da_cons (d_call' g__law_take (hr.mono (by omega)) (da_cons (dv 0 (pv 0)) (da_cons (d_int) (da_nil))) (fun _ _ _ _ _ _ us hl => match us, hl with | [_, _], _ => rfl)) (da_nil))) (dg_name 5 (pg_name (i := 5) sc__law_right.nd rfl (Or.inl rfl)))
    (ds_one (ds_put hr (d_call' g__law_pick (hr.mono (by omega)) (da_cons (dv 0 (pv 0)) (da_cons (dv 1 (pv 1)) (da_nil))) (fun _ _ _ _ _ _ us hl => match us, hl with | [_, _], _ => rfl)) (dv 4 (pv 4)) (d_call' g__law_pick (hr.mono (by omega)) (da_cons (dv 0 (pv 0)) (da_cons (dv 1 (pv 1)) (da_nil))) (fun _ _ _ _ _ _ us hl => match us, hl with | [_, _], _ => rfl)) (fun hu => ps_asg (d_call' g__law_pick (hr.mono (by omega)) (da_cons (dv 0 (pv 0)) (da_cons (dv 1 (pv 1)) (da_nil))) (fun _ _ _ _ _ _ us hl => match us, hl with | [_, _], _ => rfl)) (pg_sub (dv 4 (pv 4)) (d_call' g__law_pick (hr.mono (by omega)) (da_cons (dv 0 (pv 0)) (da_cons (dv 1 (pv 1)) (da_nil))) (fun _ _ _ _ _ _ us hl => match us, hl with | [_, _], _ => rfl)) (set_dict hu))))))
    (ds_frz 4 (ds_cons (ds_set (ps_set (i := 6) sc__law_right.nd rfl (Or.inl rfl) (d_tuple B.tuple (da_cons (d_lc false (own := [("_law_name", 13)]) rfl sc__law_right.nd (di_seq (dv 1 (pv 1))) (blkOk_by (N := N__law_right) (sc := defScope s__law_right) (by decide +kernel)) (fun _ _ _ _ _ => dg_name 13 (pg_name (i := 13) sc__law_right.nd rfl (Or.inl rfl))) (fun _ _ _ _ _ => dts_nil) (fun _ _ _ _ _ => d_tup (da_cons (dv 13 (pv 13)) (da_cons (d_idx hr.room (dv 4 (pv 4)) (dv 13 (pv 13)) (fun _ _ => rfl)) (da_nil)))) (by decide)) (da_nil)))))
    (ds_cons (ds_set (ps_set (i := 7) sc__law_right.nd rfl (Or.inr rfl) (d_call' g__law_called (hr.mono (by omega)) (da_cons (d_asT (dv 3 (pv 3))) (da_cons (dv 6 (pv 6)) (da_nil))) (fun _ _ _ _ _ _ us hl => match us, hl with | [_, _], _ => rfl))))
    (ds_cons (ds_set (ps_set (i := 8) sc__law_right.nd rfl (Or.inl rfl) (d_call' g_call_of_fewest (hr.mono (by omega)) (da_cons (d_asT (dv 3 (pv 3))) (da_cons (dv 7 (pv 7)) (da_nil))) (fun _ _ _ _ _ _ us hl => match us, hl with | [_, _], _ => rfl))))
    (ds_cons (ds_if (PW.pt (dw_or (t_ne hr.room (d_call' g__law_called (hr.mono (by omega)) (da_cons (d_asT (dv 3 (pv 3))) (da_cons (dv 8 (pv 8)) (da_nil))) (fun _ _ _ _ _ _ us hl => match us, hl with | [_, _], _ => rfl)) (dv 7 (pv 7))) (dw_or1 (t_ne hr.room (d_call' g__law_going (hr.mono (by omega)) (da_cons (dv 8 (pv 8)) (da_nil)) (fun _ _ _ _ _ _ us hl => match us, hl with | [_], _ => rfl)) (d_call' g_fewest_goers (hr.mono (by omega)) (da_cons (d_asT (dv 3 (pv 3))) (da_cons (dv 7 (pv 7)) (da_nil))) (fun _ _ _ _ _ _ us hl => match us, hl with | [_, _], _ => rfl)))))) (ds_one (ds_ret (d_bl))) (ds_nil))
    (ds_cons (ds_set (ps_set (i := 9) sc__law_right.nd rfl (Or.inl rfl) (d_call' g_calls_many (hr.mono (by omega)) (da_cons (d_asT (dv 3 (pv 3))) (da_cons (dv 7 (pv 7)) (da_nil))) (fun _ _ _ _ _ _ us hl => match us, hl with | [_, _], _ => rfl))))
    (ds_cons (ds_if (t_lt (dv 9 (pv 9)) (d_int)) (ds_cons (ds_setLc false (own := [("_law_at", 14)]) (i := 11) rfl sc__law_right.nd rfl rfl (sw_true rfl rfl rfl (by decide +kernel)) (di_rng1 B.range (da_cons (dv 9 (pv 9)) (da_nil))) (blkOk_by (N := N__law_right) (sc := defScope s__law_right) (by decide +kernel)) (fun _ _ _ _ _ => dg_name 14 (pg_name (i := 14) sc__law_right.nd rfl (Or.inl rfl))) (fun _ _ _ _ _ => dts_nil) (fun _ _ _ _ _ => d_call' g_call_at (hr.mono (by omega)) (da_cons (d_asT (dv 3 (pv 3))) (da_cons (dv 7 (pv 7)) (da_cons (dv 14 (pv 14)) (da_nil)))) (fun _ _ _ _ _ _ us hl => match us, hl with | [_, _, _], _ => rfl)) (by decide))
    (ds_cons (ds_setLc false (own := [("_law_some_call", 15)]) (i := 12) rfl sc__law_right.nd rfl rfl (sw_true rfl rfl rfl (by decide +kernel)) (di_seq (dv 11 (pv 11))) (blkOk_by (N := N__law_right) (sc := defScope s__law_right) (by decide +kernel)) (fun _ _ _ _ _ => dg_name 15 (pg_name (i := 15) sc__law_right.nd rfl (Or.inl rfl))) (fun _ _ _ _ _ => dts_nil) (fun _ _ _ _ _ => d_call' g__law_going (hr.mono (by omega)) (da_cons (dv 15 (pv 15)) (da_nil)) (fun _ _ _ _ _ _ us hl => match us, hl with | [_], _ => rfl)) (by decide))
    (ds_one (ds_if (t_ne hr.room (dv 8 (pv 8)) (d_idx hr.room (dv 11 (pv 11)) ((pe_bm PySem.F.plainAttrs_list PySem.F.slot_list_index PySem.F.type_list_index mt_index (dv 12 (pv 12)) (da_cons (d_minL rfl B.min (da_cons (dv 12 (pv 12)) (da_nil))) (da_nil))).weak (meth_imp s_indexI)) (fun _ _ => rfl))) (ds_one (ds_ret (d_bl))) (ds_nil))))) (ds_nil))
    (ds_one (ds_ret (d_le (d_call' g__law_going (hr.mono (by omega)) (da_cons (dv 8 (pv 8)) (da_nil)) (fun _ _ _ _ _ _ us hl => match us, hl with | [_], _ => rfl)) (d_call' g__law_going (hr.mono (by omega)) (da_cons (dv 6 (pv 6)) (da_nil)) (fun _ _ _ _ _ _ us hl => match us, hl with | [_], _ => rfl)))))))))))))))))))))
abbrev s_law : Stmt := topS 32
abbrev N_law : List Str := ["_law_script", "_law_cells", "_law_k", "_law_box_here", "_law_turn"]
theorem sc_law : FnScope N_law ["_law_script"] (defScope s_law) := ⟨rfl, rfl, rfl, by decide +kernel, rfl, by decide +kernel, by decide +kernel⟩
theorem ok_law (f : Addr) (fd : FuncData) (F : Fun K "law" "law" s_law f fd) (hm : mg "law" = some (.ref f)) (B : Bi mg)  (g__law_folded : GD P w K mg base 1 "_law_folded" s__law_folded ["_law_script", "_law_size"] m__law_folded) (g__law_box : GD P w K mg base 1 "_law_box" s__law_box ["_law_script", "_law_k"] m__law_box) (g__law_right : GD P w K mg base 13 "_law_right" s__law_right ["_law_box_here"] m__law_right) : FnG P w K mg base CX0 14 f fd ["_law_script"] (spD m_law) := fng_ok false F sc_law fun cdv A outer s H E hr =>
    ds_cons (ds_set (ps_set (i := 1) sc_law.nd rfl (Or.inl rfl) (d_call' g__law_folded (hr.mono (by omega)) (da_cons (dv 0 (pv 0)) (da_cons (d_int) (da_nil))) (fun _ _ _ _ _ _ us hl => match us, hl with | [_, _], _ => rfl))))
    (ds_cons (ds_for rfl PassesOwn.never (di_rng1 B.range (da_cons (d_len B.len (da_cons (dv 1 (pv 1)) (da_nil))) (da_nil))) (dg_name 2 (pg_name (i := 2) sc_law.nd rfl (Or.inl rfl)))
    (ds_cons (ds_set (ps_set (i := 3) sc_law.nd rfl (Or.inr rfl) (d_call' g__law_box (hr.mono (by omega)) (da_cons (dv 1 (pv 1)) (da_cons (dv 2 (pv 2)) (da_nil))) (fun _ _ _ _ _ _ us hl => match us, hl with | [_, _], _ => rfl))))
    (ds_one (ds_if (dt_not (dt_val (d_all rfl B.all (da_cons (d_lc false (own := [("_law_turn", 4)]) rfl sc_law.nd (di_rng1 B.range (da_cons (d_int) (da_nil))) (blkOk_by (N := N_law) (sc := defScope s_law) (by decide +kernel)) (fun _ _ _ _ _ => dg_name 4 (pg_name (i := 4) sc_law.nd rfl (Or.inl rfl))) (fun _ _ _ _ _ => dts_nil) (fun _ _ _ _ _ => d_call' g__law_right (hr.mono (by omega)) (da_cons (dv 3 (pv 3)) (da_nil)) (fun _ _ _ _ _ _ us hl => match us, hl with | [_], _ => rfl)) (by decide)) (da_nil))))) (ds_one (ds_ret (d_bl))) (ds_nil)))))
    (ds_one (ds_ret (d_bl))))
end
theorem all_mk {l : PySem.W.OpenLaw} {w : World} {K : PySem.W.Frag} {h : Heap} {mg : Str → Option Value} {fa f0 f1 f2 f3 f4 f5 f6 f7 f8 f9 f10 f11 f12 f13 f14 f15 f16 f17 f18 f19 f20 f21 f22 f23 f24 f25 : Addr} (X : K.In h) (G : h.Ns mainGlobals mg) (hfa : mg "law" = some (.ref fa))
    {od0 od1 od2 od3 od4 od5 od6 od7 od8 od9 od10 od11 od12 od13 od14 od15 od16 od17 od18 od19 od20 od21 od22 od23 od24 od25 an0 an1 an2 an3 an4 an5 an6 an7 an8 an9 an10 an11 an12 an13 an14 an15 an16 an17 an18 an19 an20 an21 an22 an23 an24 an25 : Option Addr} {sl0 sl1 sl2 sl3 sl4 sl5 sl6 sl7 sl8 sl9 sl10 sl11 sl12 sl13 sl14 sl15 sl16 sl17 sl18 sl19 sl20 sl21 sl22 sl23 sl24 sl25 : Array (Option Value)} {oc0 oc1 oc2 oc3 oc4 oc5 oc6 oc7 oc8 oc9 oc10 oc11 oc12 oc13 oc14 oc15 oc16 oc17 oc18 oc19 oc20 oc21 oc22 oc23 oc24 oc25 kV0 kV1 kV2 kV3 kV4 kV5 kV6 kV7 kV8 kV9 kV10 kV11 kV12 kV13 kV14 kV15 kV16 kV17 kV18 kV19 kV20 kV21 kV22 kV23 kV24 kV25 dc0 dc1 dc2 dc3 dc4 dc5 dc6 dc7 dc8 dc9 dc10 dc11 dc12 dc13 dc14 dc15 dc16 dc17 dc18 dc19 dc20 dc21 dc22 dc23 dc24 dc25 pm0 pm1 pm2 pm3 pm4 pm5 pm6 pm7 pm8 pm9 pm10 pm11 pm12 pm13 pm14 pm15 pm16 pm17 pm18 pm19 pm20 pm21 pm22 pm23 pm24 pm25 cd0 cd1 cd2 cd3 cd4 cd5 cd6 cd7 cd8 cd9 cd10 cd11 cd12 cd13 cd14 cd15 cd16 cd17 cd18 cd19 cd20 cd21 cd22 cd23 cd24 cd25 ct0 ct1 ct2 ct3 ct4 ct5 ct6 ct7 ct8 ct9 ct10 ct11 ct12 ct13 ct14 ct15 ct16 ct17 ct18 ct19 ct20 ct21 ct22 ct23 ct24 ct25 : Value}
    (a0 : PySem.W.nsIn K mainGlobals "places_of" = some (some (.ref f0))) (l0 : K.lookup f0 = some ⟨oc0, od0, .func (PySem.W.fnOf "places_of" "places_of" (defArgs s_places_of) (defBody s_places_of) (defScope s_places_of) .none kV0 dc0 pm0 an0 cd0 ct0), sl0⟩) (c0 : PySem.W.codeIn K cd0 "places_of" = true) (k0 : PySem.W.keepIn K (.ref f0) = true)
    (a1 : PySem.W.nsIn K mainGlobals "look_alike" = some (some (.ref f1))) (l1 : K.lookup f1 = some ⟨oc1, od1, .func (PySem.W.fnOf "look_alike" "look_alike" (defArgs s_look_alike) (defBody s_look_alike) (defScope s_look_alike) .none kV1 dc1 pm1 an1 cd1 ct1), sl1⟩) (c1 : PySem.W.codeIn K cd1 "look_alike" = true) (k1 : PySem.W.keepIn K (.ref f1) = true)
    (a2 : PySem.W.nsIn K mainGlobals "place_of" = some (some (.ref f2))) (l2 : K.lookup f2 = some ⟨oc2, od2, .func (PySem.W.fnOf "place_of" "place_of" (defArgs s_place_of) (defBody s_place_of) (defScope s_place_of) .none kV2 dc2 pm2 an2 cd2 ct2), sl2⟩) (c2 : PySem.W.codeIn K cd2 "place_of" = true) (k2 : PySem.W.keepIn K (.ref f2) = true)
    (a3 : PySem.W.nsIn K mainGlobals "falls" = some (some (.ref f3))) (l3 : K.lookup f3 = some ⟨oc3, od3, .func (PySem.W.fnOf "falls" "falls" (defArgs s_falls) (defBody s_falls) (defScope s_falls) .none kV3 dc3 pm3 an3 cd3 ct3), sl3⟩) (c3 : PySem.W.codeIn K cd3 "falls" = true) (k3 : PySem.W.keepIn K (.ref f3) = true)
    (a4 : PySem.W.nsIn K mainGlobals "choices" = some (some (.ref f4))) (l4 : K.lookup f4 = some ⟨oc4, od4, .func (PySem.W.fnOf "choices" "choices" (defArgs s_choices) (defBody s_choices) (defScope s_choices) .none kV4 dc4 pm4 an4 cd4 ct4), sl4⟩) (c4 : PySem.W.codeIn K cd4 "choices" = true) (k4 : PySem.W.keepIn K (.ref f4) = true)
    (a5 : PySem.W.nsIn K mainGlobals "risen" = some (some (.ref f5))) (l5 : K.lookup f5 = some ⟨oc5, od5, .func (PySem.W.fnOf "risen" "risen" (defArgs s_risen) (defBody s_risen) (defScope s_risen) .none kV5 dc5 pm5 an5 cd5 ct5), sl5⟩) (c5 : PySem.W.codeIn K cd5 "risen" = true) (k5 : PySem.W.keepIn K (.ref f5) = true)
    (a6 : PySem.W.nsIn K mainGlobals "ways_on" = some (some (.ref f6))) (l6 : K.lookup f6 = some ⟨oc6, od6, .func (PySem.W.fnOf "ways_on" "ways_on" (defArgs s_ways_on) (defBody s_ways_on) (defScope s_ways_on) .none kV6 dc6 pm6 an6 cd6 ct6), sl6⟩) (c6 : PySem.W.codeIn K cd6 "ways_on" = true) (k6 : PySem.W.keepIn K (.ref f6) = true)
    (a7 : PySem.W.nsIn K mainGlobals "call_by" = some (some (.ref f7))) (l7 : K.lookup f7 = some ⟨oc7, od7, .func (PySem.W.fnOf "call_by" "call_by" (defArgs s_call_by) (defBody s_call_by) (defScope s_call_by) .none kV7 dc7 pm7 an7 cd7 ct7), sl7⟩) (c7 : PySem.W.codeIn K cd7 "call_by" = true) (k7 : PySem.W.keepIn K (.ref f7) = true)
    (a8 : PySem.W.nsIn K mainGlobals "calls_many" = some (some (.ref f8))) (l8 : K.lookup f8 = some ⟨oc8, od8, .func (PySem.W.fnOf "calls_many" "calls_many" (defArgs s_calls_many) (defBody s_calls_many) (defScope s_calls_many) .none kV8 dc8 pm8 an8 cd8 ct8), sl8⟩) (c8 : PySem.W.codeIn K cd8 "calls_many" = true) (k8 : PySem.W.keepIn K (.ref f8) = true)
    (a9 : PySem.W.nsIn K mainGlobals "call_at" = some (some (.ref f9))) (l9 : K.lookup f9 = some ⟨oc9, od9, .func (PySem.W.fnOf "call_at" "call_at" (defArgs s_call_at) (defBody s_call_at) (defScope s_call_at) .none kV9 dc9 pm9 an9 cd9 ct9), sl9⟩) (c9 : PySem.W.codeIn K cd9 "call_at" = true) (k9 : PySem.W.keepIn K (.ref f9) = true)
    (a10 : PySem.W.nsIn K mainGlobals "most_stay" = some (some (.ref f10))) (l10 : K.lookup f10 = some ⟨oc10, od10, .func (PySem.W.fnOf "most_stay" "most_stay" (defArgs s_most_stay) (defBody s_most_stay) (defScope s_most_stay) .none kV10 dc10 pm10 an10 cd10 ct10), sl10⟩) (c10 : PySem.W.codeIn K cd10 "most_stay" = true) (k10 : PySem.W.keepIn K (.ref f10) = true)
    (a11 : PySem.W.nsIn K mainGlobals "fewest_goers" = some (some (.ref f11))) (l11 : K.lookup f11 = some ⟨oc11, od11, .func (PySem.W.fnOf "fewest_goers" "fewest_goers" (defArgs s_fewest_goers) (defBody s_fewest_goers) (defScope s_fewest_goers) .none kV11 dc11 pm11 an11 cd11 ct11), sl11⟩) (c11 : PySem.W.codeIn K cd11 "fewest_goers" = true) (k11 : PySem.W.keepIn K (.ref f11) = true)
    (a12 : PySem.W.nsIn K mainGlobals "call_of_fewest" = some (some (.ref f12))) (l12 : K.lookup f12 = some ⟨oc12, od12, .func (PySem.W.fnOf "call_of_fewest" "call_of_fewest" (defArgs s_call_of_fewest) (defBody s_call_of_fewest) (defScope s_call_of_fewest) .none kV12 dc12 pm12 an12 cd12 ct12), sl12⟩) (c12 : PySem.W.codeIn K cd12 "call_of_fewest" = true) (k12 : PySem.W.keepIn K (.ref f12) = true)
    (a13 : PySem.W.nsIn K mainGlobals "_law_box" = some (some (.ref f13))) (l13 : K.lookup f13 = some ⟨oc13, od13, .func (PySem.W.fnOf "_law_box" "_law_box" (defArgs s__law_box) (defBody s__law_box) (defScope s__law_box) .none kV13 dc13 pm13 an13 cd13 ct13), sl13⟩) (c13 : PySem.W.codeIn K cd13 "_law_box" = true) (k13 : PySem.W.keepIn K (.ref f13) = true)
    (a14 : PySem.W.nsIn K mainGlobals "_law_take" = some (some (.ref f14))) (l14 : K.lookup f14 = some ⟨oc14, od14, .func (PySem.W.fnOf "_law_take" "_law_take" (defArgs s__law_take) (defBody s__law_take) (defScope s__law_take) .none kV14 dc14 pm14 an14 cd14 ct14), sl14⟩) (c14 : PySem.W.codeIn K cd14 "_law_take" = true) (k14 : PySem.W.keepIn K (.ref f14) = true)
    (a15 : PySem.W.nsIn K mainGlobals "_law_pick" = some (some (.ref f15))) (l15 : K.lookup f15 = some ⟨oc15, od15, .func (PySem.W.fnOf "_law_pick" "_law_pick" (defArgs s__law_pick) (defBody s__law_pick) (defScope s__law_pick) .none kV15 dc15 pm15 an15 cd15 ct15), sl15⟩) (c15 : PySem.W.codeIn K cd15 "_law_pick" = true) (k15 : PySem.W.keepIn K (.ref f15) = true)
    (a16 : PySem.W.nsIn K mainGlobals "_law_same" = some (some (.ref f16))) (l16 : K.lookup f16 = some ⟨oc16, od16, .func (PySem.W.fnOf "_law_same" "_law_same" (defArgs s__law_same) (defBody s__law_same) (defScope s__law_same) .none kV16 dc16 pm16 an16 cd16 ct16), sl16⟩) (c16 : PySem.W.codeIn K cd16 "_law_same" = true) (k16 : PySem.W.keepIn K (.ref f16) = true)
    (a17 : PySem.W.nsIn K mainGlobals "_law_folded" = some (some (.ref f17))) (l17 : K.lookup f17 = some ⟨oc17, od17, .func (PySem.W.fnOf "_law_folded" "_law_folded" (defArgs s__law_folded) (defBody s__law_folded) (defScope s__law_folded) .none kV17 dc17 pm17 an17 cd17 ct17), sl17⟩) (c17 : PySem.W.codeIn K cd17 "_law_folded" = true) (k17 : PySem.W.keepIn K (.ref f17) = true)
    (a18 : PySem.W.nsIn K mainGlobals "_law_names" = some (some (.ref f18))) (l18 : K.lookup f18 = some ⟨oc18, od18, .func (PySem.W.fnOf "_law_names" "_law_names" (defArgs s__law_names) (defBody s__law_names) (defScope s__law_names) .none kV18 dc18 pm18 an18 cd18 ct18), sl18⟩) (c18 : PySem.W.codeIn K cd18 "_law_names" = true) (k18 : PySem.W.keepIn K (.ref f18) = true)
    (a19 : PySem.W.nsIn K mainGlobals "_law_row" = some (some (.ref f19))) (l19 : K.lookup f19 = some ⟨oc19, od19, .func (PySem.W.fnOf "_law_row" "_law_row" (defArgs s__law_row) (defBody s__law_row) (defScope s__law_row) .none kV19 dc19 pm19 an19 cd19 ct19), sl19⟩) (c19 : PySem.W.codeIn K cd19 "_law_row" = true) (k19 : PySem.W.keepIn K (.ref f19) = true)
    (a20 : PySem.W.nsIn K mainGlobals "_law_all_calls" = some (some (.ref f20))) (l20 : K.lookup f20 = some ⟨oc20, od20, .func (PySem.W.fnOf "_law_all_calls" "_law_all_calls" (defArgs s__law_all_calls) (defBody s__law_all_calls) (defScope s__law_all_calls) .none kV20 dc20 pm20 an20 cd20 ct20), sl20⟩) (c20 : PySem.W.codeIn K cd20 "_law_all_calls" = true) (k20 : PySem.W.keepIn K (.ref f20) = true)
    (a21 : PySem.W.nsIn K mainGlobals "_law_called" = some (some (.ref f21))) (l21 : K.lookup f21 = some ⟨oc21, od21, .func (PySem.W.fnOf "_law_called" "_law_called" (defArgs s__law_called) (defBody s__law_called) (defScope s__law_called) .none kV21 dc21 pm21 an21 cd21 ct21), sl21⟩) (c21 : PySem.W.codeIn K cd21 "_law_called" = true) (k21 : PySem.W.keepIn K (.ref f21) = true)
    (a22 : PySem.W.nsIn K mainGlobals "_law_going" = some (some (.ref f22))) (l22 : K.lookup f22 = some ⟨oc22, od22, .func (PySem.W.fnOf "_law_going" "_law_going" (defArgs s__law_going) (defBody s__law_going) (defScope s__law_going) .none kV22 dc22 pm22 an22 cd22 ct22), sl22⟩) (c22 : PySem.W.codeIn K cd22 "_law_going" = true) (k22 : PySem.W.keepIn K (.ref f22) = true)
    (a23 : PySem.W.nsIn K mainGlobals "_law_by_all" = some (some (.ref f23))) (l23 : K.lookup f23 = some ⟨oc23, od23, .func (PySem.W.fnOf "_law_by_all" "_law_by_all" (defArgs s__law_by_all) (defBody s__law_by_all) (defScope s__law_by_all) .none kV23 dc23 pm23 an23 cd23 ct23), sl23⟩) (c23 : PySem.W.codeIn K cd23 "_law_by_all" = true) (k23 : PySem.W.keepIn K (.ref f23) = true)
    (a24 : PySem.W.nsIn K mainGlobals "_law_right" = some (some (.ref f24))) (l24 : K.lookup f24 = some ⟨oc24, od24, .func (PySem.W.fnOf "_law_right" "_law_right" (defArgs s__law_right) (defBody s__law_right) (defScope s__law_right) .none kV24 dc24 pm24 an24 cd24 ct24), sl24⟩) (c24 : PySem.W.codeIn K cd24 "_law_right" = true) (k24 : PySem.W.keepIn K (.ref f24) = true)
    (a25 : PySem.W.nsIn K mainGlobals "law" = some (some (.ref f25))) (l25 : K.lookup f25 = some ⟨oc25, od25, .func (PySem.W.fnOf "law" "law" (defArgs s_law) (defBody s_law) (defScope s_law) .none kV25 dc25 pm25 an25 cd25 ct25), sl25⟩) (c25 : PySem.W.codeIn K cd25 "law" = true) (k25 : PySem.W.keepIn K (.ref f25) = true)
    (z_len : PySem.W.nsIn K mainGlobals "len" = some none)
    (z_abs : PySem.W.nsIn K mainGlobals "abs" = some none)
    (z_int : PySem.W.nsIn K mainGlobals "int" = some none)
    (z_max : PySem.W.nsIn K mainGlobals "max" = some none)
    (z_min : PySem.W.nsIn K mainGlobals "min" = some none)
    (z_all : PySem.W.nsIn K mainGlobals "all" = some none)
    (z_any : PySem.W.nsIn K mainGlobals "any" = some none)
    (z_sum : PySem.W.nsIn K mainGlobals "sum" = some none)
    (z_tuple : PySem.W.nsIn K mainGlobals "tuple" = some none)
    (z_list : PySem.W.nsIn K mainGlobals "list" = some none)
    (z_dict : PySem.W.nsIn K mainGlobals "dict" = some none)
    (z_sorted : PySem.W.nsIn K mainGlobals "sorted" = some none)
    (z_isinstance : PySem.W.nsIn K mainGlobals "isinstance" = some none)
    (z_str : PySem.W.nsIn K mainGlobals "str" = some none)
    (z_bool : PySem.W.nsIn K mainGlobals "bool" = some none)
    (z_range : PySem.W.nsIn K mainGlobals "range" = some none)
    (z_enumerate : PySem.W.nsIn K mainGlobals "enumerate" = some none)
    (z_zip : PySem.W.nsIn K mainGlobals "zip" = some none)
    (z_reversed : PySem.W.nsIn K mainGlobals "reversed" = some none)
    (z_repr : PySem.W.nsIn K mainGlobals "repr" = some none)
    (z_set : PySem.W.nsIn K mainGlobals "set" = some none)
    : ∃ fd : FuncData, (∀ (s : Shared) (v : Value), BindsTo s fd ⟨[v], []⟩ [("_law_script", v)]) ∧ ∀ base : Heap, K.In base → base.Ns mainGlobals mg → FnG l.prog w K mg base CX0 14 fa fd ["_law_script"] (spD m_law) := by
  have e := hfa.symm.trans (PySem.W.mg_of X G a25)
  cases e
  have B : Bi mg := ⟨PySem.W.mg_none_of X G z_len, PySem.W.mg_none_of X G z_abs, PySem.W.mg_none_of X G z_int, PySem.W.mg_none_of X G z_max, PySem.W.mg_none_of X G z_min, PySem.W.mg_none_of X G z_all, PySem.W.mg_none_of X G z_any, PySem.W.mg_none_of X G z_sum, PySem.W.mg_none_of X G z_tuple, PySem.W.mg_none_of X G z_list, PySem.W.mg_none_of X G z_dict, PySem.W.mg_none_of X G z_sorted, PySem.W.mg_none_of X G z_isinstance, PySem.W.mg_none_of X G z_str, PySem.W.mg_none_of X G z_bool, PySem.W.mg_none_of X G z_range, PySem.W.mg_none_of X G z_enumerate, PySem.W.mg_none_of X G z_zip, PySem.W.mg_none_of X G z_reversed, PySem.W.mg_none_of X G z_repr, PySem.W.mg_none_of X G z_set⟩
  have F0 := fun_mk (st := s_places_of) l0 c0 k0
  have F1 := fun_mk (st := s_look_alike) l1 c1 k1
  have F2 := fun_mk (st := s_place_of) l2 c2 k2
  have F3 := fun_mk (st := s_falls) l3 c3 k3
  have F4 := fun_mk (st := s_choices) l4 c4 k4
  have F5 := fun_mk (st := s_risen) l5 c5 k5
  have F6 := fun_mk (st := s_ways_on) l6 c6 k6
  have F7 := fun_mk (st := s_call_by) l7 c7 k7
  have F8 := fun_mk (st := s_calls_many) l8 c8 k8
  have F9 := fun_mk (st := s_call_at) l9 c9 k9
  have F10 := fun_mk (st := s_most_stay) l10 c10 k10
  have F11 := fun_mk (st := s_fewest_goers) l11 c11 k11
  have F12 := fun_mk (st := s_call_of_fewest) l12 c12 k12
  have F13 := fun_mk (st := s__law_box) l13 c13 k13
  have F14 := fun_mk (st := s__law_take) l14 c14 k14
  have F15 := fun_mk (st := s__law_pick) l15 c15 k15
  have F16 := fun_mk (st := s__law_same) l16 c16 k16
  have F17 := fun_mk (st := s__law_folded) l17 c17 k17
  have F18 := fun_mk (st := s__law_names) l18 c18 k18
  have F19 := fun_mk (st := s__law_row) l19 c19 k19
  have F20 := fun_mk (st := s__law_all_calls) l20 c20 k20
  have F21 := fun_mk (st := s__law_called) l21 c21 k21
  have F22 := fun_mk (st := s__law_going) l22 c22 k22
  have F23 := fun_mk (st := s__law_by_all) l23 c23 k23
  have F24 := fun_mk (st := s__law_right) l24 c24 k24
  have F25 := fun_mk (st := s_law) l25 c25 k25
  refine ⟨PySem.W.fnOf "law" "law" (defArgs s_law) (defBody s_law) (defScope s_law) .none kV25 dc25 pm25 an25 cd25 ct25, fun s v => .of_eq rfl, fun base _ _ => ?_⟩
  have g__law_folded := ok__law_folded (P := l.prog) (w := w) (base := base) _ _ F17 (PySem.W.mg_of X G a17) B 
  have g__law_box := ok__law_box (P := l.prog) (w := w) (base := base) _ _ F13 (PySem.W.mg_of X G a13) B 
  have g__law_take := ok__law_take (P := l.prog) (w := w) (base := base) _ _ F14 (PySem.W.mg_of X G a14) B 
  have g__law_pick := ok__law_pick (P := l.prog) (w := w) (base := base) _ _ F15 (PySem.W.mg_of X G a15) B g__law_take
  have g__law_names := ok__law_names (P := l.prog) (w := w) (base := base) _ _ F18 (PySem.W.mg_of X G a18) B g__law_take g__law_pick
  have g__law_row := ok__law_row (P := l.prog) (w := w) (base := base) _ _ F19 (PySem.W.mg_of X G a19) B g__law_take
  have g__law_called := ok__law_called (P := l.prog) (w := w) (base := base) _ _ F21 (PySem.W.mg_of X G a21) B 
  have g__law_going := ok__law_going (P := l.prog) (w := w) (base := base) _ _ F22 (PySem.W.mg_of X G a22) B 
  have g__law_by_all := ok__law_by_all (P := l.prog) (w := w) (base := base) _ _ F23 (PySem.W.mg_of X G a23) B g__law_called g__law_going
  have g__law_all_calls := ok__law_all_calls (P := l.prog) (w := w) (base := base) _ _ F20 (PySem.W.mg_of X G a20) B 
  have g__law_same := ok__law_same (P := l.prog) (w := w) (base := base) _ _ F16 (PySem.W.mg_of X G a16) B  12
  have g_look_alike := ok_look_alike (P := l.prog) (w := w) (base := base) _ _ F1 (PySem.W.mg_of X G a1) B 
  have g_places_of := ok_places_of (P := l.prog) (w := w) (base := base) _ _ F0 (PySem.W.mg_of X G a0) B 
  have g_place_of := ok_place_of (P := l.prog) (w := w) (base := base) _ _ F2 (PySem.W.mg_of X G a2) B g_places_of
  have g_falls := ok_falls (P := l.prog) (w := w) (base := base) _ _ F3 (PySem.W.mg_of X G a3) B g_look_alike g_place_of
  have g_risen := ok_risen (P := l.prog) (w := w) (base := base) _ _ F5 (PySem.W.mg_of X G a5) B 
  have g_most_stay := ok_most_stay (P := l.prog) (w := w) (base := base) _ _ F10 (PySem.W.mg_of X G a10) B g_risen
  have g_fewest_goers := ok_fewest_goers (P := l.prog) (w := w) (base := base) _ _ F11 (PySem.W.mg_of X G a11) B g_falls g_most_stay
  have g_call_by := ok_call_by (P := l.prog) (w := w) (base := base) _ _ F7 (PySem.W.mg_of X G a7) B 
  have g_call_of_fewest := ok_call_of_fewest (P := l.prog) (w := w) (base := base) _ _ F12 (PySem.W.mg_of X G a12) B g_falls g_call_by g_most_stay g_risen
  have g_choices := ok_choices (P := l.prog) (w := w) (base := base) _ _ F4 (PySem.W.mg_of X G a4) B 
  have g_calls_many := ok_calls_many (P := l.prog) (w := w) (base := base) _ _ F8 (PySem.W.mg_of X G a8) B g_choices g_falls
  have g_ways_on := ok_ways_on (P := l.prog) (w := w) (base := base) _ _ F6 (PySem.W.mg_of X G a6) B g_choices
  have g_call_at := ok_call_at (P := l.prog) (w := w) (base := base) _ _ F9 (PySem.W.mg_of X G a9) B g_call_by g_risen g_calls_many g_ways_on
  have g__law_right := ok__law_right (P := l.prog) (w := w) (base := base) _ _ F24 (PySem.W.mg_of X G a24) B g__law_names g__law_by_all g__law_row g__law_called g_call_of_fewest g_calls_many g__law_all_calls g__law_same g_fewest_goers g__law_take g__law_pick g__law_going g_call_at
  exact ok_law (P := l.prog) (w := w) (base := base) _ _ F25 (PySem.W.mg_of X G a25) B g__law_folded g__law_box g__law_right
end LW
open PySem PySem.W PyProof.Rows
set_option maxRecDepth 100000 in
set_option maxHeartbeats 0 in
theorem PySem.Challenge.cw_standby_k57_the_fewest_who_go_holds : PySem.Challenge.rw_standby_k57_the_fewest_who_go.Holds := by
  w_on; o_law; k_head; (case hw => w_witness2)
  k_fill
  refine DL.walk_g (l := PySem.Challenge.rw_standby_k57_the_fewest_who_go) (k := 14) (x := "_law_script") (m := LW.m_law) rfl rfl ⟨rfl, by decide, by decide⟩ (fun w h Y => PySem.W.kIn_of Y) ?nl ?F LW.law_true
  case nl => intro w; first | rfl | kernel_rfl | decide +kernel
  case F =>
    intro w mg fa h KX G hmg
    refine' LW.all_mk KX G hmg ?a0 ?l0 ?c0 ?k0 ?a1 ?l1 ?c1 ?k1 ?a2 ?l2 ?c2 ?k2 ?a3 ?l3 ?c3 ?k3 ?a4 ?l4 ?c4 ?k4 ?a5 ?l5 ?c5 ?k5 ?a6 ?l6 ?c6 ?k6 ?a7 ?l7 ?c7 ?k7 ?a8 ?l8 ?c8 ?k8 ?a9 ?l9 ?c9 ?k9 ?a10 ?l10 ?c10 ?k10 ?a11 ?l11 ?c11 ?k11 ?a12 ?l12 ?c12 ?k12 ?a13 ?l13 ?c13 ?k13 ?a14 ?l14 ?c14 ?k14 ?a15 ?l15 ?c15 ?k15 ?a16 ?l16 ?c16 ?k16 ?a17 ?l17 ?c17 ?k17 ?a18 ?l18 ?c18 ?k18 ?a19 ?l19 ?c19 ?k19 ?a20 ?l20 ?c20 ?k20 ?a21 ?l21 ?c21 ?k21 ?a22 ?l22 ?c22 ?k22 ?a23 ?l23 ?c23 ?k23 ?a24 ?l24 ?c24 ?k24 ?a25 ?l25 ?c25 ?k25 ?z_len ?z_abs ?z_int ?z_max ?z_min ?z_all ?z_any ?z_sum ?z_tuple ?z_list ?z_dict ?z_sorted ?z_isinstance ?z_str ?z_bool ?z_range ?z_enumerate ?z_zip ?z_reversed ?z_repr ?z_set
    (case a0 => k_is); (case l0 => k_is); (case c0 => k_is); (case k0 => k_is)
    (case a1 => k_is); (case l1 => k_is); (case c1 => k_is); (case k1 => k_is)
    (case a2 => k_is); (case l2 => k_is); (case c2 => k_is); (case k2 => k_is)
    (case a3 => k_is); (case l3 => k_is); (case c3 => k_is); (case k3 => k_is)
    (case a4 => k_is); (case l4 => k_is); (case c4 => k_is); (case k4 => k_is)
    (case a5 => k_is); (case l5 => k_is); (case c5 => k_is); (case k5 => k_is)
    (case a6 => k_is); (case l6 => k_is); (case c6 => k_is); (case k6 => k_is)
    (case a7 => k_is); (case l7 => k_is); (case c7 => k_is); (case k7 => k_is)
    (case a8 => k_is); (case l8 => k_is); (case c8 => k_is); (case k8 => k_is)
    (case a9 => k_is); (case l9 => k_is); (case c9 => k_is); (case k9 => k_is)
    (case a10 => k_is); (case l10 => k_is); (case c10 => k_is); (case k10 => k_is)
    (case a11 => k_is); (case l11 => k_is); (case c11 => k_is); (case k11 => k_is)
    (case a12 => k_is); (case l12 => k_is); (case c12 => k_is); (case k12 => k_is)
    (case a13 => k_is); (case l13 => k_is); (case c13 => k_is); (case k13 => k_is)
    (case a14 => k_is); (case l14 => k_is); (case c14 => k_is); (case k14 => k_is)
    (case a15 => k_is); (case l15 => k_is); (case c15 => k_is); (case k15 => k_is)
    (case a16 => k_is); (case l16 => k_is); (case c16 => k_is); (case k16 => k_is)
    (case a17 => k_is); (case l17 => k_is); (case c17 => k_is); (case k17 => k_is)
    (case a18 => k_is); (case l18 => k_is); (case c18 => k_is); (case k18 => k_is)
    (case a19 => k_is); (case l19 => k_is); (case c19 => k_is); (case k19 => k_is)
    (case a20 => k_is); (case l20 => k_is); (case c20 => k_is); (case k20 => k_is)
    (case a21 => k_is); (case l21 => k_is); (case c21 => k_is); (case k21 => k_is)
    (case a22 => k_is); (case l22 => k_is); (case c22 => k_is); (case k22 => k_is)
    (case a23 => k_is); (case l23 => k_is); (case c23 => k_is); (case k23 => k_is)
    (case a24 => k_is); (case l24 => k_is); (case c24 => k_is); (case k24 => k_is)
    (case a25 => k_is); (case l25 => k_is); (case c25 => k_is); (case k25 => k_is)
    (case z_len => k_is); (case z_abs => k_is); (case z_int => k_is); (case z_max => k_is); (case z_min => k_is); (case z_all => k_is); (case z_any => k_is); (case z_sum => k_is); (case z_tuple => k_is); (case z_list => k_is); (case z_dict => k_is); (case z_sorted => k_is); (case z_isinstance => k_is); (case z_str => k_is); (case z_bool => k_is); (case z_range => k_is); (case z_enumerate => k_is); (case z_zip => k_is); (case z_reversed => k_is); (case z_repr => k_is); (case z_set => k_is)
