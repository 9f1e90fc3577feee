import PyProof.Rows.All
import Wide.All
import OpenK.AllK
import Wide.FinOn
import HandS.Lambda
import HandS.ForMost
import HandS.TupAny
import HandS.TupLe
import HandS.More
import HandS.IsInst
import HandS.Strs
import KE.SortData
import HandS.Style
import HandS.Deep
import HandS.Zip
import HandS.Rev
import HandS.NoneIn
import HandS.DictComp
import HandS.Defaults
import PyProof.ReprRoads
import KE.KRevSl
import HandS.Text
import HandS.Ends
import KE.GoesEnum
import KE.KDictZip
import KE.SortKeyHeap
import KE.KSortKey
import HandS.EndTab
import HandS.Small
import HandS.SetTxt0
import HandS.Set
import HandS.TupSets
import KE.KDictSum
import PyProof.AutoIntOps
import HandS.List
import PySem.Challenge.RW_standby_k10_two_walkers
set_option Elab.async false
set_option linter.all false
set_option maxRecDepth 100000
set_option maxRecDepth 100000
set_option maxHeartbeats 4000000
/-! The data layer: Python values as plain data over the hand layer. -/
namespace DL
open PySem PySem.Spec PyProof.Rows L2

abbrev D := PyData
/-- u: what is being made (no data leans on it); m: the places of what may change -/
structure Mm where
  u : List Addr
  m : List (Option Addr)
def Mm.Has (M : Mm) (a : Addr) : Prop := a ∈ M.u ∨ some a ∈ M.m
def kP : Key → D
  | .inl i => .int i
  | .inr s => .str s

/-- the texts of pairs of texts -/
def prTx : List D → Option (List (Str × Str))
  | [] => some []
  | .tuple [.str a, .str b] :: ds => (prTx ds).map ((a, b) :: ·)
  | _ :: _ => none
/-- the texts of texts -/
def rowS : List D → Option (List Str)
  | [] => some []
  | .str a :: ds => (rowS ds).map (a :: ·)
  | _ :: _ => none
/-- pairs of texts, the first ones unlike: what dict() may be asked of as a tuple -/
def pairD (ds : List D) : Bool := match prTx ds with
  | some ps => !ps.isEmpty && decide (ps.map (·.1)).Nodup
  | none => false
/-- unlike texts: what .index may be asked of as a tuple -/
def rowD (ds : List D) : Bool := match rowS ds with
  | some l => !l.isEmpty && decide l.Nodup
  | none => false
/-- the tuples that are known to have no dict of their own -/
def callD (ds : List D) : Bool := pairD ds || rowD ds
def TupAt (H : Hp) (a : Addr) (xs : List V) (ds : List D) : Prop := (callD ds = false ∧ H a = some (.tup xs)) ∨ (callD ds = true ∧ ∃ o : Obj, o.dict = none ∧ H a = some (.frz o (.tup xs)))
theorem TupAt.to {H H' : Hp} {a : Addr} {xs : List V} {ds : List D} (t : TupAt H a xs ds) (f : ∀ o, H a = some o → H' a = some o) : TupAt H' a xs ds := by
  rcases t with ⟨c, e⟩ | ⟨c, o, h, e⟩
  · exact .inl ⟨c, f _ e⟩
  · exact .inr ⟨c, o, h, f _ e⟩
theorem TupAt.some_ {H : Hp} {a : Addr} {xs : List V} {ds : List D} (t : TupAt H a xs ds) : ∃ o, H a = some o := by
  rcases t with ⟨c, e⟩ | ⟨c, o, h, e⟩
  · exact ⟨_, e⟩
  · exact ⟨_, e⟩
theorem TupAt.rd {H : Hp} {a : Addr} {xs : List V} {ds : List D} (t : TupAt H a xs ds) : Rd H a (.tup xs) := by
  rcases t with ⟨c, e⟩ | ⟨c, o, h, e⟩
  · exact .inl e
  · exact .inr ⟨o, e⟩
theorem TupAt.sq {K : PySem.W.Frag} {H : Hp} {a : Addr} {xs : List V} {ds : List D} (t : TupAt H a xs ds) : SqT K H a xs := .inl t.rd
theorem TupAt.plain {H : Hp} {a : Addr} {xs : List V} {ds : List D} (t : TupAt H a xs ds) (c : callD ds = false) : H a = some (.tup xs) := by
  rcases t with ⟨_, e⟩ | ⟨c', _⟩
  · exact e
  · rw [c] at c'; cases c'
theorem pairD_not {d : D} (ds : List D) (h : ∀ a b : Str, d ≠ .tuple [.str a, .str b]) : pairD (d :: ds) = false := by
  have e : prTx (d :: ds) = none := by
    unfold prTx
    split
    · rename_i q; cases q
    · rename_i a b ds' q; cases q; exact absurd rfl (h a b)
    · rfl
  unfold pairD
  rw [e]
theorem rowD_not {d : D} (ds : List D) (h : ∀ a : Str, d ≠ .str a) : rowD (d :: ds) = false := by
  have e : rowS (d :: ds) = none := by
    unfold rowS
    split
    · rename_i q; cases q
    · rename_i a ds' q; cases q; exact absurd rfl (h a)
    · rfl
  unfold rowD
  rw [e]
theorem callD_not {d : D} (ds : List D) (h : ∀ a b : Str, d ≠ .tuple [.str a, .str b]) (h' : ∀ a : Str, d ≠ .str a) : callD (d :: ds) = false := by
  unfold callD
  rw [pairD_not ds h, rowD_not ds h']
  rfl
theorem callD_int (z : Int) (ds : List D) : callD (.int z :: ds) = false := callD_not _ (fun _ _ e => by cases e) fun _ e => by cases e
theorem callD_bool (z : Bool) (ds : List D) : callD (.bool z :: ds) = false := callD_not _ (fun _ _ e => by cases e) fun _ e => by cases e
theorem callD_none (ds : List D) : callD (.none :: ds) = false := callD_not _ (fun _ _ e => by cases e) fun _ e => by cases e
theorem callD_list (z ds : List D) : callD (.list z :: ds) = false := callD_not _ (fun _ _ e => by cases e) fun _ e => by cases e
theorem callD_nil : callD [] = false := rfl
mutual
inductive RD (M : Mm) (H : Hp) : V → D → Prop
  | non : RD M H .non .none
  | bl (b : Bool) : RD M H (.bl b) (.bool b)
  | int (i : Int) : RD M H (.int i) (.int i)
  | str (x : Str) : RD M H (.str x) (.str x)
  | tup {a : Addr} {xs : List V} {ds : List D} : ¬ M.Has a → TupAt H a xs ds → RDs M H xs ds → RD M H (.ref a) (.tuple ds)
  | lst {a : Addr} {xs : List V} {ds : List D} : ¬ M.Has a → H a = some (.lst xs) → RDs M H xs ds → RD M H (.ref a) (.list ds)
  | dic {a : Addr} {kvs : List (Key × V)} {es : List (D × D)} : ¬ M.Has a → H a = some (.dK kvs) → RDk M H kvs es → RD M H (.ref a) (.dict es)
  | dit {a : Addr} {kvs : List (List Key × V)} {es : List (D × D)} : ¬ M.Has a → H a = some (.dT kvs) → RDt M H kvs es → RD M H (.ref a) (.dict ((.none, .none) :: es))
inductive RDs (M : Mm) (H : Hp) : List V → List D → Prop
  | nil : RDs M H [] []
  | cons {v : V} {vs : List V} {d : D} {ds : List D} : RD M H v d → RDs M H vs ds → RDs M H (v :: vs) (d :: ds)
inductive RDk (M : Mm) (H : Hp) : List (Key × V) → List (D × D) → Prop
  | nil : RDk M H [] []
  | cons {k : Key} {v : V} {d : D} {kvs : List (Key × V)} {es : List (D × D)} : RD M H v d → RDk M H kvs es → RDk M H ((k, v) :: kvs) ((kP k, d) :: es)
inductive RDt (M : Mm) (H : Hp) : List (List Key × V) → List (D × D) → Prop
  | nil : RDt M H [] []
  | cons {k : List Key} {v : V} {d : D} {kvs : List (List Key × V)} {es : List (D × D)} : RD M H v d → RDt M H kvs es → RDt M H ((k, v) :: kvs) ((.tuple (k.map kP), d) :: es)
end

structure Ext (M M' : Mm) (H H' : Hp) : Prop where
  us : ∀ a ∈ M'.u, a ∈ M.u ∨ H a = none
  trk : ∀ a o, H a = some o → ∃ o', H' a = some o'
  stab : ∀ a o, H a = some o → some a ∉ M.m → H' a = some o
  fresh : ∀ a, some a ∈ M'.m → some a ∈ M.m ∨ H a = none
  len : M.m.length ≤ M'.m.length
  kill : ∀ i : Nat, i < M.m.length → M'.m[i]? = M.m[i]? ∨ M'.m[i]? = some none
structure ExtE (M M' : Mm) (H H' : Hp) : Prop where
  same : M'.u = M.u
  trk : ∀ a o, H a = some o → ∃ o', H' a = some o'
  stab : ∀ a o, H a = some o → some a ∉ M.m → H' a = some o
  fresh : ∀ a, some a ∈ M'.m → some a ∈ M.m ∨ H a = none
  len : M.m.length ≤ M'.m.length
  pre : ∀ i : Nat, i < M.m.length → M'.m[i]? = M.m[i]?
theorem ExtE.ext {M M' : Mm} {H H' : Hp} (x : ExtE M M' H H') : Ext M M' H H' := ⟨fun a m => .inl (x.same ▸ m), x.trk, x.stab, x.fresh, x.len, fun i h => .inl (x.pre i h)⟩
theorem Ext.outm {M M' : Mm} {H H' : Hp} (x : Ext M M' H H') {a : Addr} {o : HO} (n : some a ∉ M.m) (e : H a = some o) : some a ∉ M'.m := fun m =>
  (x.fresh a m).elim n fun z => by rw [e] at z; cases z
theorem Ext.out {M M' : Mm} {H H' : Hp} (x : Ext M M' H H') {a : Addr} {o : HO} (n : ¬ M.Has a) (e : H a = some o) : ¬ M'.Has a := fun m => by
  rcases m with m | m
  · exact (x.us a m).elim (fun z => n (.inl z)) fun z => by rw [e] at z; cases z
  · exact x.outm (fun z => n (.inr z)) e m
theorem Ext.st {M M' : Mm} {H H' : Hp} (x : Ext M M' H H') {a : Addr} {o : HO} (n : ¬ M.Has a) (e : H a = some o) : H' a = some o := x.stab a o e fun z => n (.inr z)
theorem Ext.refl (M : Mm) (H : Hp) : Ext M M H H := ⟨fun _ m => .inl m, fun a o e => ⟨o, e⟩, fun _ _ e _ => e, fun _ m => .inl m, Nat.le_refl _, fun _ _ => .inl rfl⟩
theorem ExtE.refl (M : Mm) (H : Hp) : ExtE M M H H := ⟨rfl, fun a o e => ⟨o, e⟩, fun _ _ e _ => e, fun _ m => .inl m, Nat.le_refl _, fun _ _ => rfl⟩
theorem Ext.trans {M M1 M2 : Mm} {H H1 H2 : Hp} (x : Ext M M1 H H1) (y : Ext M1 M2 H1 H2) : Ext M M2 H H2 where
  us := fun a m => by
    rcases y.us a m with z | z
    · exact x.us a z
    · right
      cases q : H a with
      | none => rfl
      | some o => obtain ⟨o', e⟩ := x.trk a o q; rw [z] at e; cases e
  trk := fun a o e => by obtain ⟨o', e'⟩ := x.trk a o e; exact y.trk a o' e'
  stab := fun a o e n => y.stab a o (x.stab a o e n) (x.outm n e)
  fresh := fun a m => by
    rcases y.fresh a m with m1 | z
    · exact x.fresh a m1
    · by_cases hm : some a ∈ M.m
      · exact .inl hm
      · right
        cases q : H a with
        | none => rfl
        | some o => rw [x.stab a o q hm] at z; cases z
  len := Nat.le_trans x.len y.len
  kill := fun i h => by
    rcases y.kill i (Nat.lt_of_lt_of_le h x.len) with e | e
    · rw [e]; exact x.kill i h
    · exact .inr e
theorem ExtE.trans {M M1 M2 : Mm} {H H1 H2 : Hp} (x : ExtE M M1 H H1) (y : ExtE M1 M2 H1 H2) : ExtE M M2 H H2 where
  same := y.same.trans x.same
  trk := (x.ext.trans y.ext).trk
  stab := (x.ext.trans y.ext).stab
  fresh := (x.ext.trans y.ext).fresh
  len := Nat.le_trans x.len y.len
  pre := fun i h => by rw [y.pre i (Nat.lt_of_lt_of_le h x.len), x.pre i h]

mutual
theorem RD.mono {M M' : Mm} {H H' : Hp} (x : Ext M M' H H') : ∀ {v : V} {d : D}, RD M H v d → RD M' H' v d
  | _, _, .non => .non
  | _, _, .bl b => .bl b
  | _, _, .int i => .int i
  | _, _, .str s => .str s
  | _, _, .tup n e r => .tup (let ⟨_, q⟩ := e.some_; x.out n q) (e.to fun _ q => x.st n q) (RDs.mono x r)
  | _, _, .lst n e r => .lst (x.out n e) (x.st n e) (RDs.mono x r)
  | _, _, .dic n e r => .dic (x.out n e) (x.st n e) (RDk.mono x r)
  | _, _, .dit n e r => .dit (x.out n e) (x.st n e) (RDt.mono x r)
theorem RDs.mono {M M' : Mm} {H H' : Hp} (x : Ext M M' H H') : ∀ {v : List V} {d : List D}, RDs M H v d → RDs M' H' v d
  | _, _, .nil => .nil
  | _, _, .cons a r => .cons (RD.mono x a) (RDs.mono x r)
theorem RDk.mono {M M' : Mm} {H H' : Hp} (x : Ext M M' H H') : ∀ {v : List (Key × V)} {d : List (D × D)}, RDk M H v d → RDk M' H' v d
  | _, _, .nil => .nil
  | _, _, .cons a r => .cons (RD.mono x a) (RDk.mono x r)
theorem RDt.mono {M M' : Mm} {H H' : Hp} (x : Ext M M' H H') : ∀ {v : List (List Key × V)} {d : List (D × D)}, RDt M H v d → RDt M' H' v d
  | _, _, .nil => .nil
  | _, _, .cons a r => .cons (RD.mono x a) (RDt.mono x r)
end

/-! ### what may change -/
inductive MO where
  | lst (ds : List D) | dic (es : List (D × D)) | dit (es : List (D × D)) | tab (q : Str) (P : Addr)
abbrev Hh := List (Option MO)
def RO (M : Mm) (H : Hp) (a : Addr) : MO → Prop
  | .lst ds => ∃ xs, H a = some (.lst xs) ∧ RDs M H xs ds
  | .dic es => ∃ kvs, H a = some (.dK kvs) ∧ RDk M H kvs es
  | .dit es => ∃ kvs, H a = some (.dT kvs) ∧ RDt M H kvs es
  | .tab q P => a = P ∧ ∃ ps : Array Value, H a = some (.tbl ps) ∧ TriplesOk ps.toList ∧ ∀ pos cv, codeAmong pos ps.toList = some cv → ∃ c, cv = .ref c ∧ ¬ M.Has c ∧ H c = some (LamX.CodeO c q)
structure Rep (M : Mm) (H : Hp) (h : Hh) : Prop where
  us : ∀ a ∈ M.u, some a ∉ M.m ∧ ∃ o, H a = some o
  len : M.m.length = h.length
  inj : ∀ (i j : Nat) (a : Addr), M.m[i]? = some (some a) → M.m[j]? = some (some a) → i = j
  at_ : ∀ (i : Nat) (a : Addr), M.m[i]? = some (some a) → ∃ o, h[i]? = some (some o) ∧ RO M H a o
  dead : ∀ i : Nat, M.m[i]? = some none → h[i]? = some none
theorem RO.move {M M' : Mm} {H H' : Hp} (x : Ext M M' H H') {a : Addr} {o : MO} (e : H' a = H a) (r : RO M H a o) : RO M' H' a o := by
  cases o with
  | lst ds => obtain ⟨xs, h, r⟩ := r; exact ⟨xs, e.trans h, r.mono x⟩
  | dic ds => obtain ⟨xs, h, r⟩ := r; exact ⟨xs, e.trans h, r.mono x⟩
  | dit ds => obtain ⟨xs, h, r⟩ := r; exact ⟨xs, e.trans h, r.mono x⟩
  | tab q P =>
    obtain ⟨z, ps, h, t, r⟩ := r
    refine ⟨z, ps, e.trans h, t, fun pos cv hc => ?_⟩
    obtain ⟨c, e1, n, e2⟩ := r pos cv hc
    exact ⟨c, e1, x.out n e2, x.st n e2⟩
theorem RO.some_ {M : Mm} {H : Hp} {a : Addr} {o : MO} (r : RO M H a o) : ∃ u, H a = some u := by
  cases o with
  | lst ds => obtain ⟨xs, h, r⟩ := r; exact ⟨_, h⟩
  | dic ds => obtain ⟨xs, h, r⟩ := r; exact ⟨_, h⟩
  | dit ds => obtain ⟨xs, h, r⟩ := r; exact ⟨_, h⟩
  | tab q P => obtain ⟨_, ps, h, _⟩ := r; exact ⟨_, h⟩
theorem Rep.tracked {M : Mm} {H : Hp} {h : Hh} (r : Rep M H h) {a : Addr} (m : M.Has a) : ∃ u, H a = some u := by
  rcases m with m | m
  · exact (r.us a m).2
  · obtain ⟨i, hi, e⟩ := List.getElem_of_mem m
    obtain ⟨o, _, ro⟩ := r.at_ i a (by rw [List.getElem?_eq_getElem hi, e])
    exact ro.some_
theorem Rep.new {M : Mm} {H : Hp} {h : Hh} (r : Rep M H h) {p : Addr} (n : H p = none) : ¬ M.Has p := fun m => by
  obtain ⟨u, e⟩ := r.tracked m
  rw [n] at e; cases e
/-- a new object that is told by value -/
theorem trk_upd {H : Hp} {p : Addr} {o : HO} : ∀ a u, H a = some u → ∃ u', upd H p o a = some u' := fun a u e => by
  by_cases h : a = p
  · subst h; exact ⟨o, upd_same⟩
  · exact ⟨u, by rw [upd_ne h]; exact e⟩
theorem ext_new {M : Mm} {H : Hp} {p : Addr} {o : HO} (n : H p = none) : ExtE M M H (upd H p o) :=
  ⟨rfl, trk_upd, fun a u e _ => by rw [upd_ne (ne_of_none e n)]; exact e, fun _ m => .inl m, Nat.le_refl _, fun _ _ => rfl⟩
theorem Rep.upd_new {M : Mm} {H : Hp} {h : Hh} (r : Rep M H h) {p : Addr} {o : HO} (n : H p = none) : Rep M (upd H p o) h :=
  ⟨fun a m => by
    obtain ⟨h1, u, e⟩ := r.us a m
    exact ⟨h1, u, by rw [upd_ne (ne_of_none e n)]; exact e⟩, r.len, r.inj, fun i a e => by
    obtain ⟨u, hu, ro⟩ := r.at_ i a e
    obtain ⟨z, hz⟩ := ro.some_
    exact ⟨u, hu, ro.move (ext_new n).ext (upd_ne (ne_of_none hz n))⟩, r.dead⟩
/-- a new object that may change -/
def Mm.more (M : Mm) (p : Addr) : Mm := ⟨M.u, M.m ++ [some p]⟩
theorem ext_add {M : Mm} {H : Hp} {p : Addr} {o : HO} (n : H p = none) : ExtE M (M.more p) H (upd H p o) :=
  ⟨rfl, trk_upd, fun a u e _ => by rw [upd_ne (ne_of_none e n)]; exact e, fun a m => by
    rcases List.mem_append.mp m with m | m
    · exact .inl m
    · right
      have : a = p := by simpa using m
      rw [this]; exact n, by simp [Mm.more], fun i hi => List.getElem?_append_left hi⟩
theorem Rep.add {M : Mm} {H : Hp} {h : Hh} (r : Rep M H h) {p : Addr} {o : HO} {m : MO} (n : H p = none) (ro : RO (M.more p) (upd H p o) p m) : Rep (M.more p) (upd H p o) (h ++ [some m]) := by
  have nm := r.new n
  have cases_ : ∀ (i : Nat) (z : Option Addr), (M.m ++ [some p])[i]? = some z → (i < M.m.length ∧ M.m[i]? = some z) ∨ (i = M.m.length ∧ z = some p) := fun i z e => by
    by_cases hi : i < M.m.length
    · rw [List.getElem?_append_left hi] at e
      exact .inl ⟨hi, e⟩
    · rw [List.getElem?_append_right (by omega)] at e
      by_cases h0 : i - M.m.length = 0
      · rw [h0] at e
        exact .inr ⟨by omega, by simpa using e.symm⟩
      · rw [List.getElem?_eq_none (by simp; omega)] at e
        cases e
  refine ⟨fun a m => ?_, by simp [Mm.more, r.len], fun i j a e1 e2 => ?_, fun i a e => ?_, fun i e => ?_⟩
  · obtain ⟨h1, u, e⟩ := r.us a m
    refine ⟨fun z => ?_, u, by rw [upd_ne (ne_of_none e n)]; exact e⟩
    rcases List.mem_append.mp z with z | z
    · exact h1 z
    · have : a = p := by simpa using z
      rw [this, n] at e; cases e
  · rcases cases_ i _ e1 with ⟨h1, e1⟩ | ⟨h1, e1⟩ <;> rcases cases_ j _ e2 with ⟨h2, e2⟩ | ⟨h2, e2⟩
    · exact r.inj i j a e1 e2
    · cases e2; exact absurd (Or.inr (List.mem_of_getElem? e1)) nm
    · cases e1; exact absurd (Or.inr (List.mem_of_getElem? e2)) nm
    · omega
  · rcases cases_ i _ e with ⟨h1, e1⟩ | ⟨h1, e1⟩
    · obtain ⟨u, hu, q⟩ := r.at_ i a e1
      obtain ⟨z, hz⟩ := q.some_
      exact ⟨u, by rw [List.getElem?_append_left (by rw [← r.len]; exact h1)]; exact hu, q.move (ext_add n).ext (upd_ne (ne_of_none hz n))⟩
    · cases e1
      subst h1
      exact ⟨m, by rw [r.len]; simp, ro⟩
  · rcases cases_ i _ e with ⟨h1, e1⟩ | ⟨h1, e1⟩
    · rw [List.getElem?_append_left (by rw [← r.len]; exact h1)]
      exact r.dead i e1
    · cases e1
/-- an object is changed -/
theorem ext_set {M : Mm} {H : Hp} {n : Nat} {a : Addr} {o : HO} (e : M.m[n]? = some (some a)) : ExtE M M H (upd H a o) :=
  ⟨rfl, trk_upd, fun b u q nb => by rw [upd_ne (fun z => nb (by rw [z]; exact List.mem_of_getElem? e))]; exact q, fun _ m => .inl m, Nat.le_refl _, fun _ _ => rfl⟩
theorem Rep.set {M : Mm} {H : Hp} {h : Hh} (r : Rep M H h) {n : Nat} {a : Addr} {o : HO} {m : MO} (e : M.m[n]? = some (some a)) (ro : RO M (upd H a o) a m) : Rep M (upd H a o) (h.set n (some m)) := by
  have hn : n < h.length := by
    obtain ⟨u, hu, _⟩ := r.at_ n a e
    exact (List.getElem?_eq_some_iff.mp hu).1
  refine ⟨fun b mb => ?_, by simpa using r.len, r.inj, fun i b q => ?_, fun i q => ?_⟩
  · obtain ⟨h1, u, q⟩ := r.us b mb
    exact ⟨h1, u, by rw [upd_ne (fun z => h1 (by rw [z]; exact List.mem_of_getElem? e))]; exact q⟩
  · by_cases hi : i = n
    · subst hi
      rw [e] at q; cases q
      exact ⟨m, by rw [List.getElem?_set_self hn], ro⟩
    · obtain ⟨u, hu, q2⟩ := r.at_ i b q
      have hb : b ≠ a := fun z => hi (r.inj i n a (by rw [← z]; exact q) e)
      exact ⟨u, by rw [List.getElem?_set_ne (Ne.symm hi)]; exact hu, q2.move (ext_set e).ext (upd_ne hb)⟩
  · have hi : n ≠ i := fun z => by subst z; rw [e] at q; cases q
    rw [List.getElem?_set_ne hi]
    exact r.dead i q

/-! ### values -/
inductive W where
  | dat (d : D) | ref (n : Nat) | scr (ns : List Int) | pack (its : List (Sum Nat D))
/-- what a list of lists that may change holds -/
inductive RPs (M : Mm) (H : Hp) : List V → List (Sum Nat D) → Prop
  | nil : RPs M H [] []
  | ref {n : Nat} {a : Addr} {vs : List V} {ds : List (Sum Nat D)} : M.m[n]? = some (some a) → RPs M H vs ds → RPs M H (.ref a :: vs) (.inl n :: ds)
  | dat {v : V} {d : D} {vs : List V} {ds : List (Sum Nat D)} : RD M H v d → RPs M H vs ds → RPs M H (v :: vs) (.inr d :: ds)
theorem RPs.move {M M' : Mm} {H H' : Hp} (hm : ∀ (n : Nat) (a : Addr), M.m[n]? = some (some a) → M'.m[n]? = some (some a)) (hd : ∀ v d, RD M H v d → RD M' H' v d) : ∀ {vs : List V} {ds : List (Sum Nat D)}, RPs M H vs ds → RPs M' H' vs ds
  | _, _, .nil => .nil
  | _, _, .ref e r => .ref (hm _ _ e) (r.move hm hd)
  | _, _, .dat e r => .dat (hd _ _ e) (r.move hm hd)
abbrev Env := List (Option W)
def RV (M : Mm) (H : Hp) (v : V) : W → Prop
  | .dat d => RD M H v d
  | .ref n => ∃ a, M.m[n]? = some (some a) ∧ v = .ref a
  | .scr ns => ∃ a o, v = .ref a ∧ ¬ M.Has a ∧ H a = some (.frz o (.lst (ns.map V.int)))
  | .pack its => ∃ a xs, v = .ref a ∧ ¬ M.Has a ∧ H a = some (.lst xs) ∧ RPs M H xs its
theorem lt_of_get {α : Type} {l : List α} {i : Nat} {x : α} (e : l[i]? = some x) : i < l.length := (List.getElem?_eq_some_iff.mp e).1
theorem RV.mono {M M' : Mm} {H H' : Hp} (x : ExtE M M' H H') {v : V} : ∀ {w : W}, RV M H v w → RV M' H' v w
  | .dat _, r => RD.mono x.ext r
  | .ref n, ⟨a, e, r⟩ => ⟨a, by rw [x.pre n (lt_of_get e)]; exact e, r⟩
  | .scr ns, ⟨a, o, e, n, q⟩ => ⟨a, o, e, x.ext.out n q, x.ext.st n q⟩
  | .pack its, ⟨a, xs, e, n, q, r⟩ => ⟨a, xs, e, x.ext.out n q, x.ext.st n q, r.move (fun i b z => by rw [x.pre i (lt_of_get z)]; exact z) fun _ _ => RD.mono x.ext⟩
inductive RVs (M : Mm) (H : Hp) : List V → List W → Prop
  | nil : RVs M H [] []
  | cons {v : V} {vs : List V} {d : W} {ds : List W} : RV M H v d → RVs M H vs ds → RVs M H (v :: vs) (d :: ds)
theorem RVs.mono {M M' : Mm} {H H' : Hp} (x : ExtE M M' H H') : ∀ {vs : List V} {ws : List W}, RVs M H vs ws → RVs M' H' vs ws
  | _, _, .nil => .nil
  | _, _, .cons a r => .cons (a.mono x) (r.mono x)
theorem RVs.length {M : Mm} {H : Hp} : ∀ {vs : List V} {ws : List W}, RVs M H vs ws → vs.length = ws.length
  | _, _, .nil => rfl
  | _, _, .cons _ r => by rw [List.length_cons, List.length_cons, r.length]
theorem RDs.length {M : Mm} {H : Hp} : ∀ {vs : List V} {ws : List D}, RDs M H vs ws → vs.length = ws.length
  | _, _, .nil => rfl
  | _, _, .cons _ r => by rw [List.length_cons, List.length_cons, r.length]
def RS (M : Mm) (H : Hp) (ρ : Env) (σ : L2.St) : Prop := ρ.length = σ.length ∧ ∀ (i : Nat) (w : W), ρ[i]? = some (some w) → ∃ v, σ[i]? = some (some v) ∧ RV M H v w
theorem RS.mono {M M' : Mm} {H H' : Hp} (x : ExtE M M' H H') {ρ : Env} {σ : L2.St} (r : RS M H ρ σ) : RS M' H' ρ σ := ⟨r.1, fun i w e => by
  obtain ⟨v, e1, q⟩ := r.2 i w e
  exact ⟨v, e1, q.mono x⟩⟩
theorem RS.set {M : Mm} {H : Hp} {ρ : Env} {σ : L2.St} (r : RS M H ρ σ) {i : Nat} {v : V} {w : W} (q : RV M H v w) : RS M H (ρ.set i (some w)) (σ.set i (some v)) := by
  refine ⟨by simp [r.1], fun j u e => ?_⟩
  by_cases hj : i = j
  · subst hj
    by_cases hi : i < ρ.length
    · rw [List.getElem?_set_self hi] at e
      cases e
      exact ⟨v, by rw [List.getElem?_set_self (by rw [← r.1]; exact hi)], q⟩
    · rw [List.getElem?_eq_none (by simpa using hi)] at e; cases e
  · rw [List.getElem?_set_ne hj] at e ⊢
    exact r.2 j u e

/-! ### readings -/
def obnd {α β : Type} (r : Option (α × Hh)) (k : α → Hh → Option (β × Hh)) : Option (β × Hh) := match r with
  | some (a, h) => k a h
  | none => none
@[simp] theorem obnd_some {α β : Type} (a : α) (h : Hh) (k : α → Hh → Option (β × Hh)) : obnd (some (a, h)) k = k a h := rfl
@[simp] theorem obnd_none {α β : Type} (k : α → Hh → Option (β × Hh)) : obnd none k = none := rfl
/-- what follows a run r from (M, H) -/
def Cont {α β : Type} (rel : Mm → Hp → β → α → Prop) (r : Option (α × Hh)) (M : Mm) (H : Hp) (Q : β → Hp → Prop) : Prop :=
  ∃ w h', r = some (w, h') ∧ ∀ M' H' v, ExtE M M' H H' → Rep M' H' h' → rel M' H' v w → Q v H'
theorem Cont.bind {α β γ δ : Type} {rel : Mm → Hp → β → α → Prop} {r : Option (γ × Hh)} {k : γ → Hh → Option (α × Hh)} {M : Mm} {H : Hp} {Q : β → Hp → Prop} (c : Cont rel (obnd r k) M H Q) :
    ∃ a h1, r = some (a, h1) ∧ ∀ M1 H1, ExtE M M1 H H1 → Cont rel (k a h1) M1 H1 Q := by
  obtain ⟨w, h', e, q⟩ := c
  cases r with
  | none => cases e
  | some p =>
    obtain ⟨a, h1⟩ := p
    exact ⟨a, h1, rfl, fun M1 H1 x => ⟨w, h', e, fun M' H' v y => q M' H' v (x.trans y)⟩⟩
theorem Cont.fin {α β : Type} {rel : Mm → Hp → β → α → Prop} {w : α} {h : Hh} {M : Mm} {H : Hp} {Q : β → Hp → Prop} (c : Cont rel (some (w, h)) M H Q) {M' : Mm} {H' : Hp} {v : β} (x : ExtE M M' H H') (r : Rep M' H' h) (q : rel M' H' v w) : Q v H' := by
  obtain ⟨w', h', e, k⟩ := c
  cases e
  exact k M' H' v x r q
def tX {α β : Type} (rel : Mm → Hp → β → α → Prop) (f : Env → Hh → Option (α × Hh)) : L2.St → Hp → (β → Hp → Prop) → Prop := fun σ H Q => ∃ M h ρ, Rep M H h ∧ RS M H ρ σ ∧ Cont rel (f ρ h) M H Q
abbrev EM := Env → Hh → Option (W × Hh)
abbrev tE : EM → TE := tX RV
abbrev BM := Env → Hh → Option (Bool × Hh)
abbrev tT : BM → TT := tX fun _ _ (b : Bool) (c : Bool) => b = c
abbrev AM := Env → Hh → Option (List W × Hh)
abbrev tA : AM → TA := tX RVs
abbrev OM := Env → Hh → Option (Option Int × Hh)
abbrev tO : OM → TO := tX fun _ _ (b : Option Int) (c : Option Int) => b = c
abbrev DE (X : Cx) (e : Expr) (f : EM) : Prop := PE X e (tE f)
abbrev DT (X : Cx) (e : Expr) (f : BM) : Prop := PT X e (tT f)
abbrev DA (X : Cx) (es : List Expr) (f : AM) : Prop := PA X es (tA f)
abbrev DK (X : Cx) (es : List Keyword) (f : AM) : Prop := PK X es (tA f)
theorem _root_.L2.PE.weak {X : Cx} {e : Expr} {t t' : TE} (h : PE X e t) (i : ∀ σ H Q, t' σ H Q → t σ H Q) : PE X e t' := ⟨fun pins s σ H Q I q => h.run pins s σ H Q I (i σ H Q q)⟩
theorem _root_.L2.PT.weak {X : Cx} {e : Expr} {t t' : TT} (h : PT X e t) (i : ∀ σ H Q, t' σ H Q → t σ H Q) : PT X e t' := ⟨fun pins s σ H Q I q => h.run pins s σ H Q I (i σ H Q q)⟩
theorem _root_.L2.PA.weak {X : Cx} {e : List Expr} {t t' : TA} (h : PA X e t) (i : ∀ σ H Q, t' σ H Q → t σ H Q) : PA X e t' := ⟨fun pos pins s σ H Q I q => h.run pos pins s σ H Q I (i σ H Q q)⟩
theorem _root_.L2.PK.weak {X : Cx} {e : List Keyword} {t t' : TA} (h : PK X e t) (i : ∀ σ H Q, t' σ H Q → t σ H Q) : PK X e t' := ⟨fun pos pins s σ H Q I q => h.run pos pins s σ H Q I (i σ H Q q)⟩
theorem _root_.L2.PS.weak {X : Cx} {e : Stmt} {t t' : TS} (h : PS X e t) (i : ∀ D σ H, t' D σ H → t D σ H) : PS X e t' := ⟨fun pins s σ H Q I q => h.run pins s σ H Q I (i Q σ H q)⟩
theorem _root_.L2.PSs.weak {X : Cx} {e : List Stmt} {t t' : TS} (h : PSs X e t) (i : ∀ D σ H, t' D σ H → t D σ H) : PSs X e t' := ⟨fun pins s σ H Q I q => h.run pins s σ H Q I (i Q σ H q)⟩
theorem _root_.L2.PG.weak {X : Cx} {e : Expr} {t t' : TG} (h : PG X e t) (i : ∀ v σ H Q, t' v σ H Q → t v σ H Q) : PG X e t' := ⟨fun pins s σ H v u Q I r q => h.run pins s σ H v u Q I r (i v σ H Q q)⟩
theorem _root_.L2.PI.weak {X : Cx} {tg e : Expr} {t t' : TI} (h : PI X tg e t) (i : ∀ σ H Q, t' σ H Q → t σ H Q) : PI X tg e t' := ⟨fun pins s σ H R I q => h.run pins s σ H R I (i σ H R q)⟩

/-! ### names, constants -/
section
variable {X : Cx}
def fVar (i : Nat) : EM := fun ρ h => match ρ[i]? with
  | some (some w) => some (w, h)
  | _ => none
theorem dv (i : Nat) {x : Str} {pos : Pos} (h : PE X (.Name x pos) (tVar i)) : DE X (.Name x pos) (fVar i) := h.weak fun σ H Q => by
  rintro ⟨M, h, ρ, r, rs, c⟩
  unfold fVar at c
  split at c
  · rename_i w e
    obtain ⟨v, e1, rv⟩ := rs.2 i w e
    exact ⟨v, e1, c.fin (.refl _ _) r rv⟩
  · obtain ⟨_, _, e, _⟩ := c; cases e
def fC (d : D) : EM := fun _ h => some (.dat d, h)
theorem d_const {e : Expr} {v : V} {d : D} (h : PE X e (tC v)) (q : ∀ M H, RD M H v d) : DE X e (fC d) := h.weak fun σ H Q => by
  rintro ⟨M, h, ρ, r, rs, c⟩
  exact c.fin (.refl _ _) r (q M H)
theorem d_int {i j pos} : DE X (.Constant (.int i) j pos) (fC (.int i)) := d_const pe_int fun _ _ => .int i
theorem d_bl {i j pos} : DE X (.Constant (.bool i) j pos) (fC (.bool i)) := d_const pe_bl fun _ _ => .bl i
theorem d_non {j pos} : DE X (.Constant .none j pos) (fC .none) := d_const pe_non fun _ _ => .non
theorem d_str {i j pos} : DE X (.Constant (.str i) j pos) (fC (.str i)) := d_const pe_str fun _ _ => .str i

/-! ### arguments -/
def fNil : AM := fun _ h => some ([], h)
def fCons (f : EM) (g : AM) : AM := fun ρ h => obnd (f ρ h) fun w h1 => obnd (g ρ h1) fun ws h2 => some (w :: ws, h2)
theorem da_nil : DA X [] fNil := pa_nil.weak fun σ H Q => by
  rintro ⟨M, h, ρ, r, rs, c⟩
  exact c.fin (.refl _ _) r .nil
theorem cons_imp {f : EM} {g : AM} : ∀ σ H Q, tA (fCons f g) σ H Q → tCons (tE f) (tA g) σ H Q := fun σ H Q => by
  rintro ⟨M, h, ρ, r, rs, c⟩
  obtain ⟨w, h1, e1, c1⟩ := Cont.bind (δ := Unit) c
  refine ⟨M, h, ρ, r, rs, w, h1, e1, fun M1 H1 v x1 r1 v1 => ⟨M1, h1, ρ, r1, rs.mono x1, ?_⟩⟩
  obtain ⟨ws, h2, e2, c2⟩ := Cont.bind (δ := Unit) (c1 M1 H1 x1)
  exact ⟨ws, h2, e2, fun M2 H2 vs x2 r2 v2 => (c2 M2 H2 x2).fin (.refl _ _) r2 (.cons (v1.mono x2) v2)⟩
theorem da_cons {e : Expr} {es : List Expr} {f : EM} {g : AM} (he : DE X e f) (hr : DA X es g) (hs : starEach (e :: es) X.env = (false, eval e X.env) :: starEach es X.env := by rfl) : DA X (e :: es) (fCons f g) :=
  (pa_cons he hr hs).weak cons_imp
theorem dk_nil : DK X [] fNil := pk_nil.weak fun σ H Q => by
  rintro ⟨M, h, ρ, r, rs, c⟩
  exact c.fin (.refl _ _) r .nil
theorem dk_cons {nm : Option Str} {kpos : Pos} {e : Expr} {es : List Keyword} {f : EM} {g : AM} (he : DE X e f) (hr : DK X es g) : DK X (⟨nm, e, kpos⟩ :: es) (fCons f g) :=
  (pk_cons he hr).weak cons_imp

/-! ### operators -/
def Sem2 (r : R2) (sem : W → W → Hh → Option (W × Hh)) : Prop := ∀ (M : Mm) (H : Hp) (h : Hh) (x y : V) (wx wy : W) (Q : VK), Rep M H h → RV M H x wx → RV M H y wy → Cont RV (sem wx wy h) M H Q → r x y H Q
def f2 (sem : W → W → Hh → Option (W × Hh)) (f g : EM) : EM := fun ρ h => obnd (f ρ h) fun a h1 => obnd (g ρ h1) fun b h2 => sem a b h2
theorem op_imp {r : R2} {sem : W → W → Hh → Option (W × Hh)} {f g : EM} (hs : Sem2 r sem) : ∀ σ H Q, tE (f2 sem f g) σ H Q → tOp r (tE f) (tE g) σ H Q := fun σ H Q => by
  rintro ⟨M, h, ρ, r, rs, c⟩
  obtain ⟨w, h1, e1, c1⟩ := Cont.bind (δ := Unit) c
  refine ⟨M, h, ρ, r, rs, w, h1, e1, fun M1 H1 v x1 r1 v1 => ⟨M1, h1, ρ, r1, rs.mono x1, ?_⟩⟩
  obtain ⟨w2, h2, e2, c2⟩ := Cont.bind (δ := Unit) (c1 M1 H1 x1)
  exact ⟨w2, h2, e2, fun M2 H2 v2 x2 r2 q2 => hs M2 H2 h2 _ _ w w2 Q r2 (v1.mono x2) q2 (c2 M2 H2 x2)⟩
theorem d_op {a b : Expr} {op : Operator} {pos : Pos} {r : R2} {sem : W → W → Hh → Option (W × Hh)} {f g : EM} (ho : OpR X (binaryOp op) r) (hs : Sem2 r sem) (ha : DE X a f) (hb : DE X b g) : DE X (.BinOp a op b pos) (f2 sem f g) :=
  (pe_op ho ha hb).weak (op_imp hs)
theorem d_cmp {a b : Expr} {op : CmpOp} {pos : Pos} {r : R2} {sem : W → W → Hh → Option (W × Hh)} {f g : EM} (ho : OpR X (compareOp op) r) (hs : Sem2 r sem) (ha : DE X a f) (hb : DE X b g) (hm : behindInMarks op b = false) : DE X (.Compare a [op] [b] pos) (f2 sem f g) :=
  (pe_cmpR ho ha hb hm).weak (op_imp hs)
end
end DL

set_option maxRecDepth 100000
set_option maxHeartbeats 4000000
namespace DL
open PySem PySem.Spec PyProof.Rows L2

/-! ### reading -/
def deref (h : Hh) : W → Option D
  | .dat d => some d
  | .ref n => match h[n]? with
    | some (some (.lst ds)) => some (.list ds)
    | some (some (.dic es)) => some (.dict es)
    | some (some (.dit es)) => some (.dict ((.none, .none) :: es))
    | _ => none
  | .scr _ => none
  | .pack _ => none
@[simp] theorem deref_dat (h : Hh) (d : D) : deref h (.dat d) = some d := rfl
def RR (M : Mm) (H : Hp) (v : V) : D → Prop
  | .list ds => ∃ a xs, v = .ref a ∧ H a = some (.lst xs) ∧ RDs M H xs ds
  | .dict es => (∃ a kvs, v = .ref a ∧ H a = some (.dK kvs) ∧ RDk M H kvs es) ∨ ∃ a kvs es', es = (.none, .none) :: es' ∧ v = .ref a ∧ H a = some (.dT kvs) ∧ RDt M H kvs es'
  | d => RD M H v d
theorem RD.rr {M : Mm} {H : Hp} {v : V} : ∀ {d : D}, RD M H v d → RR M H v d
  | .none, r => r
  | .bool _, r => r
  | .int _, r => r
  | .str _, r => r
  | .tuple _, r => r
  | .list _, .lst _ e r => ⟨_, _, rfl, e, r⟩
  | .dict _, .dic _ e r => .inl ⟨_, _, rfl, e, r⟩
  | .dict _, .dit _ e r => .inr ⟨_, _, _, rfl, rfl, e, r⟩
theorem deref_rr {M : Mm} {H : Hp} {h : Hh} {v : V} {w : W} {d : D} (rep : Rep M H h) (r : RV M H v w) (e : deref h w = some d) : RR M H v d := by
  cases w with
  | dat d' => cases e; exact r.rr
  | scr ns => cases e
  | pack its => cases e
  | ref n =>
    obtain ⟨a, ea, rfl⟩ := r
    obtain ⟨o, ho, ro⟩ := rep.at_ n a ea
    simp only [deref, ho] at e
    cases o with
    | lst ds => cases e; obtain ⟨xs, h1, h2⟩ := ro; exact ⟨a, xs, rfl, h1, h2⟩
    | dic ds => cases e; obtain ⟨xs, h1, h2⟩ := ro; exact .inl ⟨a, xs, rfl, h1, h2⟩
    | dit ds => cases e; obtain ⟨xs, h1, h2⟩ := ro; exact .inr ⟨a, xs, _, rfl, rfl, h1, h2⟩
    | tab q P => cases e
section
variable {M : Mm} {H : Hp} {h : Hh} {v : V}
theorem rr_int {i : Int} (r : RR M H v (.int i)) : v = .int i := by cases (show RD M H v _ from r); rfl
theorem rr_str {i : Str} (r : RR M H v (.str i)) : v = .str i := by cases (show RD M H v _ from r); rfl
theorem rr_bl {i : Bool} (r : RR M H v (.bool i)) : v = .bl i := by cases (show RD M H v _ from r); rfl
theorem rr_non (r : RR M H v .none) : v = .non := by cases (show RD M H v _ from r); rfl
theorem rr_tup {ds : List D} (r : RR M H v (.tuple ds)) : ∃ a xs, v = .ref a ∧ ¬ M.Has a ∧ TupAt H a xs ds ∧ RDs M H xs ds := by
  cases (show RD M H v _ from r) with
  | tup n e q => exact ⟨_, _, rfl, n, e, q⟩
theorem RDs.get : ∀ {xs : List V} {ds : List D} {i : Nat} {d : D}, RDs M H xs ds → ds[i]? = some d → ∃ v, xs[i]? = some v ∧ RD M H v d
  | _, _, _, _, .nil, e => by simp at e
  | _, _, 0, _, .cons r _, e => by simp at e; subst e; exact ⟨_, rfl, r⟩
  | _, _, i + 1, _, .cons _ t, e => by
    obtain ⟨u, h1, h2⟩ := RDs.get (i := i) t (by simpa using e)
    exact ⟨u, by simpa using h1, h2⟩
theorem RDs.app : ∀ {xs : List V} {ds : List D} {ys : List V} {es : List D}, RDs M H xs ds → RDs M H ys es → RDs M H (xs ++ ys) (ds ++ es)
  | _, _, _, _, .nil, q => q
  | _, _, _, _, .cons r t, q => .cons r (RDs.app t q)
theorem RDs.take : ∀ {xs : List V} {ds : List D} (n : Nat), RDs M H xs ds → RDs M H (xs.take n) (ds.take n)
  | _, _, 0, _ => .nil
  | _, _, _ + 1, .nil => .nil
  | _, _, n + 1, .cons r t => .cons r (RDs.take n t)
theorem RDs.drop : ∀ {xs : List V} {ds : List D} (n : Nat), RDs M H xs ds → RDs M H (xs.drop n) (ds.drop n)
  | _, _, 0, r => r
  | _, _, _ + 1, .nil => .nil
  | _, _, n + 1, .cons _ t => RDs.drop n t
theorem RDs.rev : ∀ {xs : List V} {ds : List D}, RDs M H xs ds → RDs M H xs.reverse ds.reverse
  | _, _, .nil => .nil
  | _, _, .cons r t => by rw [List.reverse_cons, List.reverse_cons]; exact RDs.app (RDs.rev t) (.cons r .nil)
theorem RDs.set : ∀ {xs : List V} {ds : List D} (n : Nat) {v : V} {d : D}, RDs M H xs ds → RD M H v d → RDs M H (xs.set n v) (ds.set n d)
  | _, _, _, _, _, .nil, _ => .nil
  | _, _, 0, _, _, .cons r t, q => .cons q t
  | _, _, n + 1, _, _, .cons r t, q => .cons r (RDs.set n t q)
theorem RDs.erase : ∀ {xs : List V} {ds : List D} (n : Nat), RDs M H xs ds → RDs M H (xs.eraseIdx n) (ds.eraseIdx n)
  | _, _, _, .nil => .nil
  | _, _, 0, .cons r t => t
  | _, _, n + 1, .cons r t => .cons r (RDs.erase n t)
theorem RDs.rep {xs : List V} {ds : List D} (r : RDs M H xs ds) : ∀ k : Nat, RDs M H (List.replicate k xs).flatten (List.replicate k ds).flatten
  | 0 => .nil
  | k + 1 => by rw [List.replicate_succ, List.replicate_succ, List.flatten_cons, List.flatten_cons]; exact RDs.app r (RDs.rep r k)
theorem RDs.atI {xs : List V} {ds : List D} {i : Int} {d : D} (r : RDs M H xs ds) (e : L2.atI ds i = some d) : ∃ v, L2.atI xs i = some v ∧ RD M H v d := by
  unfold L2.atI at e ⊢
  rw [r.length]
  cases q : ixN ds.length i with
  | none => rw [q] at e; cases e
  | some j => rw [q] at e; exact r.get e
end

/-! ### new lists and tuples -/
def mkL (m : Bool) (ds : List D) (h : Hh) : Option (W × Hh) := if m = true then some (.ref h.length, h ++ [some (.lst ds)]) else some (.dat (.list ds), h)
@[simp] theorem mkL_false (ds : List D) (h : Hh) : mkL false ds h = some (.dat (.list ds), h) := rfl
@[simp] theorem mkL_true (ds : List D) (h : Hh) : mkL true ds h = some (.ref h.length, h ++ [some (.lst ds)]) := rfl
theorem mkL_fin {m : Bool} {ds : List D} {h : Hh} {M : Mm} {H : Hp} {Q : VK} {p : Addr} {xs : List V} (rep : Rep M H h) (n : H p = none) (r : RDs M H xs ds) (c : Cont RV (mkL m ds h) M H Q) : Q (.ref p) (upd H p (.lst xs)) := by
  cases m with
  | false => exact c.fin (ext_new n) (rep.upd_new n) (RD.lst (rep.new n) upd_same (r.mono (ext_new n).ext))
  | true => exact c.fin (ext_add n) (rep.add n ⟨xs, upd_same, r.mono (ext_add n).ext⟩) ⟨p, by simp [Mm.more, ← rep.len], rfl⟩
theorem mkT_fin {ds : List D} {h : Hh} {M : Mm} {H : Hp} {Q : VK} {p : Addr} {xs : List V} (rep : Rep M H h) (n : H p = none) (r : RDs M H xs ds) (hd : callD ds = false) (c : Cont RV (some (.dat (.tuple ds), h)) M H Q) : Q (.ref p) (upd H p (.tup xs)) :=
  c.fin (ext_new n) (rep.upd_new n) (RD.tup (rep.new n) (.inl ⟨hd, upd_same⟩) (r.mono (ext_new n).ext))
/-- a new tuple whose object is known -/
def bareO (b : Bool) (o : Obj) (xs : List V) : HO := if b = true then .frz o (.tup xs) else .tup xs
theorem mkB_fin {ds : List D} {h : Hh} {M : Mm} {H : Hp} {Q : VK} {p : Addr} {xs : List V} {o : Obj} (rep : Rep M H h) (n : H p = none) (r : RDs M H xs ds) (ho : o.dict = none) (c : Cont RV (some (.dat (.tuple ds), h)) M H Q) : Q (.ref p) (upd H p (bareO (callD ds) o xs)) := by
  cases hd : callD ds with
  | false => exact mkT_fin rep n r hd c
  | true => exact c.fin (ext_new n) (rep.upd_new n) (RD.tup (rep.new n) (.inr ⟨hd, o, ho, upd_same⟩) (r.mono (ext_new n).ext))
theorem bare_ok {P : Program} {w : World} {H : Hp} {h' : Heap} {a : Addr} {xs : List V} {o : Obj} (b : Bool) (e : h'.get? a = some o) (ok : ∀ G, ObjOk P w G h' a (.tup xs)) : ObjOk P w H h' a (bareO b o xs) := by
  cases b with
  | false => exact ok _
  | true => exact ⟨e, ok _⟩
theorem Cont.here {d : D} {h : Hh} {M : Mm} {H : Hp} {Q : VK} {v : V} (c : Cont RV (some (.dat d, h)) M H Q) (rep : Rep M H h) (r : RD M H v d) : Q v H := c.fin (.refl _ _) rep r
theorem Cont.no {α β : Type} {rel : Mm → Hp → β → α → Prop} {M : Mm} {H : Hp} {Q : β → Hp → Prop} (c : Cont rel none M H Q) : False := by obtain ⟨_, _, e, _⟩ := c; cases e

/-! ### arithmetic -/
def ok (d : D) (h : Hh) : Option (W × Hh) := some (.dat d, h)
def addW (m : Bool) (x y : W) (h : Hh) : Option (W × Hh) := match deref h x, deref h y with
  | some (.int i), some (.int j) => ok (.int (i + j)) h
  | some (.str a), some (.str b) => if a.length + b.length ≤ sizeLine then ok (.str (a ++ b)) h else none
  | some (.tuple a), some (.tuple b) => if a.length + b.length ≤ sizeLine then ok (.tuple (a ++ b)) h else none
  | some (.list a), some (.list b) => if a.length + b.length ≤ sizeLine then mkL m (a ++ b) h else none
  | _, _ => none
section
variable {X : Cx}
/-- t + u, the new tuple's object known -/
def rCatB (K : PySem.W.Frag) : R2 := fun x y H Q => ∃ a b vs ws, x = .ref a ∧ y = .ref b ∧ SqT K H a vs ∧ SqT K H b ws ∧ vs.length + ws.length ≤ sizeLine ∧
  (vs = [] → Q (.ref b) H) ∧ (vs ≠ [] → ws = [] → Q (.ref a) H) ∧ (vs ≠ [] → ws ≠ [] → ∃ bb : Bool, ∀ p o, H p = none → o.dict = none → Q (.ref p) (upd H p (bareO bb o (vs ++ ws))))
theorem op_catB : OpR X (binaryOp .Add) (rCatB X.K) := by
  rintro pins s σ H x y v u Q I rx ry ⟨a, b, vs, ws, rfl, rfl, ha, hb, hz, f0, f1, f2⟩
  by_cases e : vs = [] ∨ ws = []
  · exact op_catA pins s σ H _ _ v u Q I rx ry ⟨a, b, vs, ws, rfl, rfl, ha, hb, hz, f0, f1, fun n1 n2 => (e.elim n1 n2).elim⟩
  · have n1 : vs ≠ [] := fun z => e (.inl z)
    have n2 : ws ≠ [] := fun z => e (.inr z)
    obtain ⟨bb, f⟩ := f2 n1 n2
    cases rx
    cases ry
    obtain ⟨l1, r1, p1, _⟩ := I.tuple ha
    obtain ⟨l2, r2, p2, _⟩ := I.tuple hb
    apply HT.cat_tup p1 p2 (fun z => n1 (r1.nil_iff.mp z)) (fun z => absurd (r2.nil_iff.mp z) n2)
    · intro _
      refine ⟨.ref s.heap.objs.size, _, I.laid (t' := s.toks) (o := bareO bb _ (vs ++ ws)) (fun _ _ q => Heap.get?_push_of_some _ q) (Nat.le_refl _) (bare_ok bb (Heap.get?_push_size _ rfl) fun G => ⟨?_, _, r1.append r2, IsTup.new _ _⟩), rfl, f _ _ (I.hok.fresh (Nat.le_refl _)) rfl⟩
      rw [List.length_append]
      exact hz
    · rw [← r1.length, ← r2.length]
      exact hz
theorem s_add (m : Bool) : Sem2 (fun x y H Q => rI0 (fun i j => .int (i + j)) x y H Q ∨ (∃ i j, x = .str i ∧ y = .str j ∧ i.length + j.length ≤ sizeLine ∧ Q (.str (i ++ j)) H) ∨ rCatB X.K x y H Q ∨ rCat x y H Q) (addW m) := by
  intro M H h x y wx wy Q rep rx ry c
  unfold addW at c
  split at c
  · rename_i i j h1 h2
    obtain rfl := rr_int (deref_rr rep rx h1)
    obtain rfl := rr_int (deref_rr rep ry h2)
    exact .inl ⟨i, j, rfl, rfl, c.here rep (.int _)⟩
  · rename_i i j h1 h2
    obtain rfl := rr_str (deref_rr rep rx h1)
    obtain rfl := rr_str (deref_rr rep ry h2)
    split at c
    · rename_i hz
      exact .inr (.inl ⟨i, j, rfl, rfl, hz, c.here rep (.str _)⟩)
    · exact c.no.elim
  · rename_i i j h1 h2
    obtain ⟨a, xs, rfl, na, ha, qa⟩ := rr_tup (deref_rr rep rx h1)
    obtain ⟨b, ys, rfl, nb, hb, qb⟩ := rr_tup (deref_rr rep ry h2)
    split at c
    · rename_i hz
      refine .inr (.inr (.inl ⟨a, b, xs, ys, rfl, rfl, .inl ha.rd, .inl hb.rd, by rw [qa.length, qb.length]; exact hz, fun e => ?_, fun _ e => ?_, fun _ _ => ⟨callD (i ++ j), fun p o np ho => ?_⟩⟩))
      · subst e; cases qa
        exact c.here rep (.tup nb hb qb)
      · subst e; cases qb; rw [List.append_nil] at c
        exact c.here rep (.tup na ha qa)
      · exact mkB_fin rep np (qa.app qb) ho c
    · exact c.no.elim
  · rename_i i j h1 h2
    obtain ⟨a, xs, rfl, ha, qa⟩ := deref_rr rep rx h1
    obtain ⟨b, ys, rfl, hb, qb⟩ := deref_rr rep ry h2
    split at c
    · rename_i hz
      exact .inr (.inr (.inr ⟨a, b, xs, ys, rfl, rfl, ha, hb, by rw [qa.length, qb.length]; exact hz, fun p np => mkL_fin rep np (qa.app qb) c⟩))
    · exact c.no.elim
  · exact c.no.elim
theorem d_add (m : Bool) {a b : Expr} {pos : Pos} {f g : EM} (ha : DE X a f) (hb : DE X b g) : DE X (.BinOp a .Add b pos) (f2 (addW m) f g) :=
  d_op (op_add.or (op_add_str.or (op_catB.or op_cat))) (s_add m) ha hb
/-- two ints -/
def intW (C : Int → Int → Bool) (g : Int → Int → Int) (x y : W) (h : Hh) : Option (W × Hh) := match deref h x, deref h y with
  | some (.int i), some (.int j) => if C i j = true then ok (.int (g i j)) h else none
  | _, _ => none
theorem s_int {C : Int → Int → Prop} {Cb : Int → Int → Bool} {g : Int → Int → Int} (hc : ∀ i j, Cb i j = true → C i j) : Sem2 (rI C fun i j => .int (g i j)) (intW Cb g) := by
  intro M H h x y wx wy Q rep rx ry c
  unfold intW at c
  split at c
  · rename_i i j h1 h2
    obtain rfl := rr_int (deref_rr rep rx h1)
    obtain rfl := rr_int (deref_rr rep ry h2)
    split at c
    · rename_i hz
      exact ⟨i, j, rfl, rfl, hc i j hz, c.here rep (.int _)⟩
    · exact c.no.elim
  · exact c.no.elim
theorem op_subC : OpR X (binaryOp .Sub) (rI (fun _ _ => True) fun i j => .int (i - j)) := fun pins s σ H x y v u Q I rx ry ⟨i, j, e1, e2, _, q⟩ => op_sub pins s σ H x y v u Q I rx ry ⟨i, j, e1, e2, q⟩
def subW := intW (fun _ _ => true) fun i j => i - j
theorem d_sub {a b : Expr} {pos : Pos} {f g : EM} (ha : DE X a f) (hb : DE X b g) : DE X (.BinOp a .Sub b pos) (f2 subW f g) := d_op op_subC (s_int fun _ _ _ => trivial) ha hb
def modW := intW (fun _ j => decide (0 < j)) fun i j => i % j
theorem d_mod {a b : Expr} {pos : Pos} {f g : EM} (ha : DE X a f) (hb : DE X b g) : DE X (.BinOp a .Mod b pos) (f2 modW f g) := d_op op_mod (s_int fun _ _ h => of_decide_eq_true h) ha hb
def divW := intW (fun _ j => decide (0 < j ∧ j < 1073741824)) fun i j => i / j
theorem d_div {a b : Expr} {pos : Pos} {f g : EM} (ha : DE X a f) (hb : DE X b g) : DE X (.BinOp a .FloorDiv b pos) (f2 divW f g) := d_op op_fdiv (s_int fun _ _ h => by simpa [CDiv] using h) ha hb
def powW := intW (fun i j => decide (0 ≤ j ∧ j ≤ 1000000 ∧ i.natAbs < 18446744073709551616)) fun i j => i ^ j.toNat
theorem d_pow {a b : Expr} {pos : Pos} {f g : EM} (ha : DE X a f) (hb : DE X b g) : DE X (.BinOp a .Pow b pos) (f2 powW f g) := d_op op_pow (s_int fun _ _ h => by simpa [CPow] using h) ha hb
/-- a product: of ints (one side below 2^64), of a list and an int -/
def mulW (m : Bool) (x y : W) (h : Hh) : Option (W × Hh) := match deref h x, deref h y with
  | some (.int i), some (.int j) => if ((-18446744073709551616 < i && i < 18446744073709551616) || (-18446744073709551616 < j && j < 18446744073709551616)) = true then ok (.int (i * j)) h else none
  | some (.list a), some (.int k) => if (0 ≤ k && k < 1000000 && a.length * k.toNat ≤ sizeLine) = true then mkL m (List.replicate k.toNat a).flatten h else none
  | _, _ => none
theorem s_mul (m : Bool) : Sem2 (fun x y H Q => rI CMul (fun i j => .int (i * j)) x y H Q ∨ rRep x y H Q) (mulW m) := by
  intro M H h x y wx wy Q rep rx ry c
  unfold mulW at c
  split at c
  · rename_i i j h1 h2
    obtain rfl := rr_int (deref_rr rep rx h1)
    obtain rfl := rr_int (deref_rr rep ry h2)
    split at c
    · rename_i hz
      refine .inl ⟨i, j, rfl, rfl, ?_, c.here rep (.int _)⟩
      simpa [CMul] using hz
    · exact c.no.elim
  · rename_i i j h1 h2
    obtain ⟨a, xs, rfl, ha, qa⟩ := deref_rr rep rx h1
    obtain rfl := rr_int (deref_rr rep ry h2)
    split at c
    · rename_i hz
      simp only [Bool.and_eq_true, decide_eq_true_eq] at hz
      refine .inr ⟨a, j, xs, rfl, rfl, ha, by omega, by omega, by rw [qa.length]; exact hz.2, fun p np => mkL_fin rep np (qa.rep _) c⟩
    · exact c.no.elim
  · exact c.no.elim
theorem d_mul (m : Bool) {a b : Expr} {pos : Pos} {f g : EM} (ha : DE X a f) (hb : DE X b g) : DE X (.BinOp a .Mult b pos) (f2 (mulW m) f g) := d_op (op_mul.or op_rep) (s_mul m) ha hb
def fNeg (f : EM) : EM := fun ρ h => obnd (f ρ h) fun w h1 => match w with
  | .dat (.int i) => ok (.int (-i)) h1
  | _ => none
theorem d_neg {a : Expr} {pos : Pos} {f : EM} (ha : DE X a f) : DE X (.UnaryOp .USub a pos) (fNeg f) := (pe_un un_neg ha).weak fun σ H Q => by
  rintro ⟨M, h, ρ, r, rs, c⟩
  obtain ⟨w, h1, e1, c1⟩ := Cont.bind (δ := Unit) c
  refine ⟨M, h, ρ, r, rs, w, h1, e1, fun M1 H1 v x1 r1 v1 => ?_⟩
  have c2 := c1 M1 H1 x1
  split at c2
  · cases v1; exact ⟨_, rfl, c2.here r1 (.int _)⟩
  · exact c2.no.elim

/-! ### comparisons -/
def bok (b : Bool) (h : Hh) : Option (W × Hh) := some (.dat (.bool b), h)
/-- an order: of ints, of texts -/
def ltW (g : Int → Int → Bool) (k : List Nat → List Nat → Bool) (x y : W) (h : Hh) : Option (W × Hh) := match deref h x, deref h y with
  | some (.int i), some (.int j) => bok (g i j) h
  | some (.str i), some (.str j) => bok (k i.cps.toList j.cps.toList) h
  | _, _ => none
theorem s_lt {g : Int → Int → Bool} {k : List Nat → List Nat → Bool} : Sem2 (fun x y H Q => rI0 (fun i j => .bl (g i j)) x y H Q ∨ ∃ i j, x = .str i ∧ y = .str j ∧ Q (.bl (k i.cps.toList j.cps.toList)) H) (ltW g k) := by
  intro M H h x y wx wy Q rep rx ry c
  unfold ltW at c
  split at c
  · rename_i i j h1 h2
    obtain rfl := rr_int (deref_rr rep rx h1)
    obtain rfl := rr_int (deref_rr rep ry h2)
    exact .inl ⟨i, j, rfl, rfl, c.here rep (.bl _)⟩
  · rename_i i j h1 h2
    obtain rfl := rr_str (deref_rr rep rx h1)
    obtain rfl := rr_str (deref_rr rep ry h2)
    exact .inr ⟨i, j, rfl, rfl, c.here rep (.bl _)⟩
  · exact c.no.elim
def lt_W := ltW (fun i j => decide (i < j)) fun i j => decide (i < j)
def gt_W := ltW (fun i j => decide (j < i)) fun i j => decide (j < i)
def le_W := ltW (fun i j => decide (i ≤ j)) fun i j => !decide (j < i)
def ge_W := ltW (fun i j => decide (j ≤ i)) fun i j => !decide (i < j)
theorem d_lt {a b : Expr} {pos : Pos} {f g : EM} (ha : DE X a f) (hb : DE X b g) : DE X (.Compare a [.Lt] [b] pos) (f2 lt_W f g) := d_cmp (op_lt.or op_lt_str) s_lt ha hb (nomark _)
theorem d_le {a b : Expr} {pos : Pos} {f g : EM} (ha : DE X a f) (hb : DE X b g) : DE X (.Compare a [.LtE] [b] pos) (f2 le_W f g) := d_cmp (op_le.or op_le_str) s_lt ha hb (nomark _)
theorem d_gt {a b : Expr} {pos : Pos} {f g : EM} (ha : DE X a f) (hb : DE X b g) : DE X (.Compare a [.Gt] [b] pos) (f2 gt_W f g) := d_cmp (op_gt.or op_gt_str) s_lt ha hb (nomark _)
theorem d_ge {a b : Expr} {pos : Pos} {f g : EM} (ha : DE X a f) (hb : DE X b g) : DE X (.Compare a [.GtE] [b] pos) (f2 ge_W f g) := d_cmp (op_ge.or op_ge_str) s_lt ha hb (nomark _)
end

/-! ### equality -/
mutual
theorem RD.dp {K : PySem.W.Frag} {M : Mm} {H : Hp} : ∀ {v : V} {d : D}, RD M H v d → d.canLay0 = true → Dp K H v d
  | _, _, .non, _ => .non
  | _, _, .bl b, _ => .bl b
  | _, _, .int i, _ => .int i
  | _, _, .str x, _ => .str x
  | _, _, .tup _ e r, h => .tup e.sq (RDs.dp r (by simpa [PyData.canLay0] using h))
  | _, _, .lst _ e r, h => .lst (.of e) (RDs.dp r (by simpa [PyData.canLay0] using h))
  | _, _, .dic _ _ _, h => by simp [PyData.canLay0] at h
  | _, _, .dit _ _ _, h => by simp [PyData.canLay0] at h
theorem RDs.dp {K : PySem.W.Frag} {M : Mm} {H : Hp} : ∀ {v : List V} {d : List D}, RDs M H v d → PyData.canLayAll0 d = true → DpAll K H v d
  | _, _, .nil, _ => .nil
  | _, _, .cons a r, h => by
    simp only [PyData.canLayAll0, Bool.and_eq_true] at h
    exact .cons (RD.dp a h.1) (RDs.dp r h.2)
end
theorem rr_dp {K : PySem.W.Frag} {M : Mm} {H : Hp} {v : V} : ∀ {d : D}, RR M H v d → d.canLay0 = true → Dp K H v d
  | .none, r, h => RD.dp r h
  | .bool _, r, h => RD.dp r h
  | .int _, r, h => RD.dp r h
  | .str _, r, h => RD.dp r h
  | .tuple _, r, h => RD.dp r h
  | .list _, ⟨_, _, e, h1, h2⟩, h => by subst e; exact .lst (.of h1) (h2.dp (by simpa [PyData.canLay0] using h))
  | .dict _, _, h => by simp [PyData.canLay0] at h
/-- scalars -/
def eqS : D → D → Option Bool
  | .int i, .int j => some (decide (i = j))
  | .str i, .str j => some (decide (i = j))
  | .bool i, .bool j => some (decide (i = j))
  | .none, .none => some true
  | .none, .int _ => some false
  | .none, .str _ => some false
  | .none, .bool _ => some false
  | .int _, .none => some false
  | .str _, .none => some false
  | .bool _, .none => some false
  | .int _, .str _ => some false
  | .str _, .int _ => some false
  | .bool _, .str _ => some false
  | .str _, .bool _ => some false
  | _, _ => none
theorem eqS_ok {M : Mm} {H : Hp} {x y : V} {a b : D} {r : Bool} (ra : RR M H x a) (rb : RR M H y b) (e : eqS a b = some r) : scal x y = true ∧ r = decide (x = y) := by
  cases a <;> cases b <;> simp only [eqS, Option.some.injEq, reduceCtorEq] at e <;> subst e <;> cases (show RD M H x _ from ra) <;> cases (show RD M H y _ from rb) <;> simp [scal]
def shp (d : D) : Bool := d.canLay0 && decide (d.depth ≤ 64)
def eqW (neg : Bool) (x y : W) (h : Hh) : Option (W × Hh) := match deref h x, deref h y with
  | some a, some b => match eqS a b with
    | some r => bok (if neg = true then !r else r) h
    | none => if shp a && shp b then bok (if neg = true then !PyData.eqv a b else PyData.eqv a b) h else none
  | _, _ => none
section
variable {X : Cx}
theorem s_eq : Sem2 (fun x y H Q => rEq x y H Q ∨ rEqD X.K x y H Q) (eqW false) := by
  intro M H h x y wx wy Q rep rx ry c
  unfold eqW at c
  split at c
  · rename_i a b h1 h2
    have ra := deref_rr rep rx h1
    have rb := deref_rr rep ry h2
    split at c
    · rename_i r e
      obtain ⟨e1, e2⟩ := eqS_ok ra rb e
      subst e2
      exact .inl ⟨e1, c.here rep (.bl _)⟩
    · split at c
      · rename_i hz
        rw [Bool.and_eq_true] at hz
        exact .inr ⟨a, b, rr_dp ra (SeqAt.canLay_of_shaped hz.1), rr_dp rb (SeqAt.canLay_of_shaped hz.2), hz.1, hz.2, c.here rep (.bl _)⟩
      · exact c.no.elim
  · exact c.no.elim
theorem s_ne : Sem2 (fun x y H Q => rNe x y H Q ∨ rNeD X.K x y H Q) (eqW true) := by
  intro M H h x y wx wy Q rep rx ry c
  unfold eqW at c
  split at c
  · rename_i a b h1 h2
    have ra := deref_rr rep rx h1
    have rb := deref_rr rep ry h2
    split at c
    · rename_i r e
      obtain ⟨e1, e2⟩ := eqS_ok ra rb e
      subst e2
      exact .inl ⟨e1, c.here rep (.bl _)⟩
    · split at c
      · rename_i hz
        rw [Bool.and_eq_true] at hz
        exact .inr ⟨a, b, rr_dp ra (SeqAt.canLay_of_shaped hz.1), rr_dp rb (SeqAt.canLay_of_shaped hz.2), hz.1, hz.2, c.here rep (.bl _)⟩
      · exact c.no.elim
  · exact c.no.elim
theorem d_eq {k : Nat} (hr : Room k X.A) {a b : Expr} {pos : Pos} {f g : EM} (ha : DE X a f) (hb : DE X b g) : DE X (.Compare a [.Eq] [b] pos) (f2 (eqW false) f g) := d_cmp (op_eq.or (op_eqD hr.units)) s_eq ha hb (nomark _)
theorem d_ne {k : Nat} (hr : Room k X.A) {a b : Expr} {pos : Pos} {f g : EM} (ha : DE X a f) (hb : DE X b g) : DE X (.Compare a [.NotEq] [b] pos) (f2 (eqW true) f g) := d_cmp (op_ne.or (op_neD hr.units)) s_ne ha hb (nomark _)

/-! ### is None, is True -/
def isW (neg : Bool) (x y : W) (h : Hh) : Option (W × Hh) := match x, y with
  | .dat (.bool a), .dat (.bool b) => bok (if neg = true then !decide (a = b) else decide (a = b)) h
  | .dat .none, .dat .none => bok (!neg) h
  | _, .dat .none => bok neg h
  | _, _ => none
theorem rv_non {M : Mm} {H : Hp} {w : W} (r : RV M H .non w) : w = .dat .none := by
  cases w with
  | dat d => cases (show RD M H _ d from r); rfl
  | ref n => obtain ⟨_, _, e⟩ := r; cases e
  | scr n => obtain ⟨_, _, e, _⟩ := r; cases e
  | pack its => obtain ⟨_, _, e, _⟩ := r; cases e
theorem s_is : Sem2 (fun x y H Q => (y = .non ∧ Q (.bl (decide (x = .non))) H) ∨ ∃ a b, x = .bl a ∧ y = .bl b ∧ Q (.bl (decide (a = b))) H) (isW false) := by
  intro M H h x y wx wy Q rep rx ry c
  unfold isW at c
  split at c
  · cases (show RD M H _ _ from rx); cases (show RD M H _ _ from ry)
    exact .inr ⟨_, _, rfl, rfl, c.here rep (.bl _)⟩
  · cases (show RD M H _ _ from rx); cases (show RD M H _ _ from ry)
    exact .inl ⟨rfl, c.here rep (.bl _)⟩
  · rename_i hn
    cases (show RD M H _ _ from ry)
    refine .inl ⟨rfl, ?_⟩
    have e : decide (x = V.non) = false := decide_eq_false fun z => by subst z; exact hn (rv_non rx)
    rw [e]
    exact c.here rep (.bl _)
  · exact c.no.elim
theorem s_isnot : Sem2 (fun x y H Q => (y = .non ∧ Q (.bl (!decide (x = .non))) H) ∨ ∃ a b, x = .bl a ∧ y = .bl b ∧ Q (.bl (!decide (a = b))) H) (isW true) := by
  intro M H h x y wx wy Q rep rx ry c
  unfold isW at c
  split at c
  · cases (show RD M H _ _ from rx); cases (show RD M H _ _ from ry)
    exact .inr ⟨_, _, rfl, rfl, c.here rep (.bl _)⟩
  · cases (show RD M H _ _ from rx); cases (show RD M H _ _ from ry)
    exact .inl ⟨rfl, c.here rep (.bl _)⟩
  · rename_i hn
    cases (show RD M H _ _ from ry)
    refine .inl ⟨rfl, ?_⟩
    have e : decide (x = V.non) = false := decide_eq_false fun z => by subst z; exact hn (rv_non rx)
    rw [e]
    exact c.here rep (.bl _)
  · exact c.no.elim
theorem d_is {a b : Expr} {pos : Pos} {f g : EM} (ha : DE X a f) (hb : DE X b g) : DE X (.Compare a [.Is] [b] pos) (f2 (isW false) f g) := d_cmp (op_isN.or op_is_bl) s_is ha hb (nomark _)
theorem d_isnot {a b : Expr} {pos : Pos} {f g : EM} (ha : DE X a f) (hb : DE X b g) : DE X (.Compare a [.IsNot] [b] pos) (f2 (isW true) f g) := d_cmp (op_notN.or op_isnot_bl) s_isnot ha hb (nomark _)

/-! ### tests; and, or, not; if else -/
def fB (f : EM) : BM := fun ρ h => obnd (f ρ h) fun w h1 => match w with
  | .dat (.bool b) => some (b, h1)
  | _ => none
theorem test_imp {f : EM} : ∀ σ H Q, tT (fB f) σ H Q → tTest (tE f) σ H Q := fun σ H Q => by
  rintro ⟨M, h, ρ, r, rs, c⟩
  obtain ⟨w, h1, e1, c1⟩ := Cont.bind (δ := Unit) c
  refine ⟨M, h, ρ, r, rs, w, h1, e1, fun M1 H1 v x1 r1 v1 => ?_⟩
  have c2 := c1 M1 H1 x1
  split at c2
  · cases v1; exact ⟨_, rfl, c2.fin (.refl _ _) r1 rfl⟩
  · exact c2.no.elim
theorem dt_val {e : Expr} {f : EM} (h : DE X e f) (he : ∀ whole, isTrue e X.env whole = (do let v ← whole; standAt e.pos; holding [v] (truthy v)) := by intro _; rfl) : DT X e (fB f) := (pt_val h he).weak test_imp
theorem dt_of_cmp {a b : Expr} {op : CmpOp} {pos : Pos} {r : R2} {sem : W → W → Hh → Option (W × Hh)} {f g : EM} (ho : OpR X (compareOp op) r) (hs : Sem2 r sem) (ha : DE X a f) (hb : DE X b g) (hm : behindInMarks op b = false) : DT X (.Compare a [op] [b] pos) (fB (f2 sem f g)) :=
  (pt_cmpR ho ha hb hm).weak fun σ H Q q => by
    obtain ⟨M, h, ρ, r, rs, c⟩ := q
    obtain ⟨w, h1, e1, c1⟩ := Cont.bind (δ := Unit) c
    refine op_imp hs σ H _ ⟨M, h, ρ, r, rs, w, h1, e1, fun M1 H1 v x1 r1 v1 => ?_⟩
    have c2 := c1 M1 H1 x1
    split at c2
    · cases v1; exact ⟨_, rfl, c2.fin (.refl _ _) r1 rfl⟩
    · exact c2.no.elim
theorem t_lt {a b : Expr} {pos : Pos} {f g : EM} (ha : DE X a f) (hb : DE X b g) : DT X (.Compare a [.Lt] [b] pos) (fB (f2 lt_W f g)) := dt_of_cmp (op_lt.or op_lt_str) s_lt ha hb (nomark _)
theorem t_le {a b : Expr} {pos : Pos} {f g : EM} (ha : DE X a f) (hb : DE X b g) : DT X (.Compare a [.LtE] [b] pos) (fB (f2 le_W f g)) := dt_of_cmp (op_le.or op_le_str) s_lt ha hb (nomark _)
theorem t_gt {a b : Expr} {pos : Pos} {f g : EM} (ha : DE X a f) (hb : DE X b g) : DT X (.Compare a [.Gt] [b] pos) (fB (f2 gt_W f g)) := dt_of_cmp (op_gt.or op_gt_str) s_lt ha hb (nomark _)
theorem t_ge {a b : Expr} {pos : Pos} {f g : EM} (ha : DE X a f) (hb : DE X b g) : DT X (.Compare a [.GtE] [b] pos) (fB (f2 ge_W f g)) := dt_of_cmp (op_ge.or op_ge_str) s_lt ha hb (nomark _)
theorem t_eq {k : Nat} (hr : Room k X.A) {a b : Expr} {pos : Pos} {f g : EM} (ha : DE X a f) (hb : DE X b g) : DT X (.Compare a [.Eq] [b] pos) (fB (f2 (eqW false) f g)) := dt_of_cmp (op_eq.or (op_eqD hr.units)) s_eq ha hb (nomark _)
theorem t_ne {k : Nat} (hr : Room k X.A) {a b : Expr} {pos : Pos} {f g : EM} (ha : DE X a f) (hb : DE X b g) : DT X (.Compare a [.NotEq] [b] pos) (fB (f2 (eqW true) f g)) := dt_of_cmp (op_ne.or (op_neD hr.units)) s_ne ha hb (nomark _)
theorem t_is {a b : Expr} {pos : Pos} {f g : EM} (ha : DE X a f) (hb : DE X b g) : DT X (.Compare a [.Is] [b] pos) (fB (f2 (isW false) f g)) := dt_of_cmp (op_isN.or op_is_bl) s_is ha hb (nomark _)
theorem t_isnot {a b : Expr} {pos : Pos} {f g : EM} (ha : DE X a f) (hb : DE X b g) : DT X (.Compare a [.IsNot] [b] pos) (fB (f2 (isW true) f g)) := dt_of_cmp (op_notN.or op_isnot_bl) s_isnot ha hb (nomark _)
def bAnd (f g : BM) : BM := fun ρ h => obnd (f ρ h) fun b h1 => if b = true then g ρ h1 else some (false, h1)
def bOr (f g : BM) : BM := fun ρ h => obnd (f ρ h) fun b h1 => if b = true then some (true, h1) else g ρ h1
def bNot (f : BM) : BM := fun ρ h => obnd (f ρ h) fun b h1 => some (!b, h1)
abbrev DW (X : Cx) (e : Expr) (f : BM) : Prop := PW X e (tT f)
theorem _root_.L2.PW.weak {X : Cx} {e : Expr} {t t' : TT} (h : PW X e t) (i : ∀ σ H Q, t' σ H Q → t σ H Q) : PW X e t' := ⟨fun wh pins s σ H Q I q => h.run wh pins s σ H Q I (i σ H Q q)⟩
theorem dw_and1 {a : Expr} {pos : Pos} {f : BM} (ha : DT X a f) : DW X (.BoolOp .And [a] pos) f := pw_and1 ha
theorem dw_or1 {a : Expr} {pos : Pos} {f : BM} (ha : DT X a f) : DW X (.BoolOp .Or [a] pos) f := pw_or1 ha
theorem dw_and {a b : Expr} {rest : List Expr} {pos : Pos} {f g : BM} (ha : DT X a f) (hb : DW X (.BoolOp .And (b :: rest) pos) g) : DW X (.BoolOp .And (a :: b :: rest) pos) (bAnd f g) := (pw_and ha hb).weak fun σ H Q => by
  rintro ⟨M, h, ρ, r, rs, c⟩
  obtain ⟨w, h1, e1, c1⟩ := Cont.bind (δ := Unit) c
  refine ⟨M, h, ρ, r, rs, w, h1, e1, fun M1 H1 v x1 r1 v1 => ?_⟩
  subst v1
  have c2 := c1 M1 H1 x1
  cases v with
  | true => exact iteT ⟨M1, h1, ρ, r1, rs.mono x1, c2⟩
  | false => exact iteF (c2.fin (.refl _ _) r1 rfl)
theorem dw_or {a b : Expr} {rest : List Expr} {pos : Pos} {f g : BM} (ha : DT X a f) (hb : DW X (.BoolOp .Or (b :: rest) pos) g) : DW X (.BoolOp .Or (a :: b :: rest) pos) (bOr f g) := (pw_or ha hb).weak fun σ H Q => by
  rintro ⟨M, h, ρ, r, rs, c⟩
  obtain ⟨w, h1, e1, c1⟩ := Cont.bind (δ := Unit) c
  refine ⟨M, h, ρ, r, rs, w, h1, e1, fun M1 H1 v x1 r1 v1 => ?_⟩
  subst v1
  have c2 := c1 M1 H1 x1
  cases v with
  | true => exact iteT (c2.fin (.refl _ _) r1 rfl)
  | false => exact iteF ⟨M1, h1, ρ, r1, rs.mono x1, c2⟩
theorem dt_not {a : Expr} {pos : Pos} {f : BM} (ha : DT X a f) : DT X (.UnaryOp .Not a pos) (bNot f) := (pt_not ha).weak fun σ H Q => by
  rintro ⟨M, h, ρ, r, rs, c⟩
  obtain ⟨w, h1, e1, c1⟩ := Cont.bind (δ := Unit) c
  refine ⟨M, h, ρ, r, rs, w, h1, e1, fun M1 H1 v x1 r1 v1 => ?_⟩
  subst v1
  exact (c1 M1 H1 x1).fin (.refl _ _) r1 rfl
/-- as values -/
def fAnd (f g : EM) : EM := fun ρ h => obnd (f ρ h) fun w h1 => match w with
  | .dat (.bool true) => g ρ h1
  | .dat (.bool false) => bok false h1
  | _ => none
def fOr (f g : EM) : EM := fun ρ h => obnd (f ρ h) fun w h1 => match w with
  | .dat (.bool true) => bok true h1
  | .dat (.bool false) => g ρ h1
  | _ => none
def fNot (f : EM) : EM := fun ρ h => obnd (f ρ h) fun w h1 => match w with
  | .dat (.bool b) => bok (!b) h1
  | _ => none
theorem d_one {op} {a : Expr} {pos : Pos} {f : EM} (ha : DE X a f) : DE X (.BoolOp op [a] pos) f := pe_one ha
theorem d_and {a b : Expr} {rest : List Expr} {pos : Pos} {f g : EM} (ha : DE X a f) (hb : DE X (.BoolOp .And (b :: rest) pos) g) : DE X (.BoolOp .And (a :: b :: rest) pos) (fAnd f g) := (pe_and ha hb).weak fun σ H Q => by
  rintro ⟨M, h, ρ, r, rs, c⟩
  obtain ⟨w, h1, e1, c1⟩ := Cont.bind (δ := Unit) c
  refine ⟨M, h, ρ, r, rs, w, h1, e1, fun M1 H1 v x1 r1 v1 => ?_⟩
  have c2 := c1 M1 H1 x1
  split at c2
  · cases v1; exact ⟨true, rfl, iteT ⟨M1, h1, ρ, r1, rs.mono x1, c2⟩⟩
  · cases v1; exact ⟨false, rfl, iteF (c2.here r1 (.bl _))⟩
  · exact c2.no.elim
theorem d_or {a b : Expr} {rest : List Expr} {pos : Pos} {f g : EM} (ha : DE X a f) (hb : DE X (.BoolOp .Or (b :: rest) pos) g) : DE X (.BoolOp .Or (a :: b :: rest) pos) (fOr f g) := (pe_or ha hb).weak fun σ H Q => by
  rintro ⟨M, h, ρ, r, rs, c⟩
  obtain ⟨w, h1, e1, c1⟩ := Cont.bind (δ := Unit) c
  refine ⟨M, h, ρ, r, rs, w, h1, e1, fun M1 H1 v x1 r1 v1 => ?_⟩
  have c2 := c1 M1 H1 x1
  split at c2
  · cases v1; exact ⟨true, rfl, iteT (c2.here r1 (.bl _))⟩
  · cases v1; exact ⟨false, rfl, iteF ⟨M1, h1, ρ, r1, rs.mono x1, c2⟩⟩
  · exact c2.no.elim
theorem d_not {a : Expr} {pos : Pos} {f : EM} (ha : DE X a f) : DE X (.UnaryOp .Not a pos) (fNot f) := (pe_not ha).weak fun σ H Q => by
  rintro ⟨M, h, ρ, r, rs, c⟩
  obtain ⟨w, h1, e1, c1⟩ := Cont.bind (δ := Unit) c
  refine ⟨M, h, ρ, r, rs, w, h1, e1, fun M1 H1 v x1 r1 v1 => ?_⟩
  have c2 := c1 M1 H1 x1
  split at c2
  · cases v1; exact ⟨_, rfl, c2.here r1 (.bl _)⟩
  · exact c2.no.elim
def fIf (t : BM) (f g : EM) : EM := fun ρ h => obnd (t ρ h) fun b h1 => if b = true then f ρ h1 else g ρ h1
theorem d_if {c a b : Expr} {pos : Pos} {t : BM} {f g : EM} (hc : DT X c t) (ha : DE X a f) (hb : DE X b g) : DE X (.IfExp c a b pos) (fIf t f g) := (pe_ifExp hc ha hb).weak fun σ H Q => by
  rintro ⟨M, h, ρ, r, rs, c⟩
  obtain ⟨w, h1, e1, c1⟩ := Cont.bind (δ := Unit) c
  refine ⟨M, h, ρ, r, rs, w, h1, e1, fun M1 H1 v x1 r1 v1 => ?_⟩
  subst v1
  have c2 := c1 M1 H1 x1
  cases v with
  | true => exact iteT ⟨M1, h1, ρ, r1, rs.mono x1, c2⟩
  | false => exact iteF ⟨M1, h1, ρ, r1, rs.mono x1, c2⟩
/-- a < b < c -/
def fChain (s1 s2 : W → W → Hh → Option (W × Hh)) (f g k : EM) : EM := fun ρ h => obnd (f ρ h) fun a h1 => obnd (g ρ h1) fun b h2 => obnd (s1 a b h2) fun z h3 => match z with
  | .dat (.bool true) => obnd (k ρ h3) fun d h4 => s2 b d h4
  | .dat (.bool false) => bok false h3
  | _ => none
theorem chain_imp {r1 r2 : R2} {s1 s2 : W → W → Hh → Option (W × Hh)} {f g k : EM} (hs1 : Sem2 r1 s1) (hs2 : Sem2 r2 s2) : ∀ σ H Q, tE (fChain s1 s2 f g k) σ H Q → tChain r1 r2 (tE f) (tE g) (tE k) σ H Q := fun σ H Q => by
  rintro ⟨M, h, ρ, r, rs, c⟩
  obtain ⟨w, h1, e1, c1⟩ := Cont.bind (δ := Unit) c
  refine ⟨M, h, ρ, r, rs, w, h1, e1, fun M1 H1 v x1 r1 v1 => ⟨M1, h1, ρ, r1, rs.mono x1, ?_⟩⟩
  obtain ⟨w2, h2, e2, c2⟩ := Cont.bind (δ := Unit) (c1 M1 H1 x1)
  refine ⟨w2, h2, e2, fun M2 H2 v2 x2 r2 q2 => hs1 M2 H2 h2 _ _ w w2 _ r2 (v1.mono x2) q2 ?_⟩
  obtain ⟨w3, h3, e3, c3⟩ := Cont.bind (δ := Unit) (c2 M2 H2 x2)
  refine ⟨w3, h3, e3, fun M3 H3 v3 x3 r3 q3 => ?_⟩
  have c4 := c3 M3 H3 x3
  split at c4
  · cases q3
    refine ⟨true, rfl, iteT ⟨M3, h3, ρ, r3, ((rs.mono x1).mono x2).mono x3, ?_⟩⟩
    obtain ⟨w5, h5, e5, c5⟩ := Cont.bind (δ := Unit) c4
    exact ⟨w5, h5, e5, fun M5 H5 v5 x5 r5 q5 => hs2 M5 H5 h5 _ _ w2 w5 _ r5 ((q2.mono x3).mono x5) q5 (c5 M5 H5 x5)⟩
  · cases q3
    exact ⟨false, rfl, iteF (c4.here r3 (.bl _))⟩
  · exact c4.no.elim
theorem d_chain {a b c : Expr} {op op' : CmpOp} {pos : Pos} {r1 r2 : R2} {s1 s2 : W → W → Hh → Option (W × Hh)} {f g k : EM} (h1 : OpR X (compareOp op) r1) (hs1 : Sem2 r1 s1) (h2 : OpR X (compareOp op') r2) (hs2 : Sem2 r2 s2) (ha : DE X a f) (hb : DE X b g) (hc : DE X c k)
    (hm : lastMarks [op, op'] [b, c] = false := by with_unfolding_all rfl) : DE X (.Compare a [op, op'] [b, c] pos) (fChain s1 s2 f g k) := (pe_chain h1 h2 ha hb hc hm).weak (chain_imp hs1 hs2)
theorem t_chain {a b c : Expr} {op op' : CmpOp} {pos : Pos} {r1 r2 : R2} {s1 s2 : W → W → Hh → Option (W × Hh)} {f g k : EM} (h1 : OpR X (compareOp op) r1) (hs1 : Sem2 r1 s1) (h2 : OpR X (compareOp op') r2) (hs2 : Sem2 r2 s2) (ha : DE X a f) (hb : DE X b g) (hc : DE X c k)
    (hm : lastMarks [op, op'] [b, c] = false := by with_unfolding_all rfl) : DT X (.Compare a [op, op'] [b, c] pos) (fB (fChain s1 s2 f g k)) := (pt_chain h1 h2 ha hb hc hm).weak fun σ H Q q => by
    obtain ⟨M, h, ρ, r, rs, c⟩ := q
    obtain ⟨w, h1, e1, c1⟩ := Cont.bind (δ := Unit) c
    refine chain_imp hs1 hs2 σ H _ ⟨M, h, ρ, r, rs, w, h1, e1, fun M1 H1 v x1 r1 v1 => ?_⟩
    have c2 := c1 M1 H1 x1
    split at c2
    · cases v1; exact ⟨_, rfl, c2.fin (.refl _ _) r1 rfl⟩
    · exact c2.no.elim
end
end DL

set_option maxRecDepth 100000
set_option maxHeartbeats 4000000
namespace DL
open PySem PySem.Spec PyProof.Rows L2

/-! ### dicts -/
def dKey : D → Option Key
  | .int i => some (.inl i)
  | .str s => some (.inr s)
  | _ => none
def dKeys : List D → Option (List Key)
  | [] => some []
  | d :: ds => match dKey d, dKeys ds with
    | some k, some ks => some (k :: ks)
    | _, _ => none
def tKey : D → Option (List Key)
  | .tuple ds => dKeys ds
  | _ => none
def getK (es : List (D × D)) (k : Key) : Option D := (es.find? fun e => decide (dKey e.1 = some k)).map (·.2)
def getT (es : List (D × D)) (k : List Key) : Option D := (es.find? fun e => decide (tKey e.1 = some k)).map (·.2)
def isT : List (D × D) → Bool
  | (.none, .none) :: _ => true
  | _ => false
/-- what a dict holds at a key; none: no key of its kind -/
def bareK : D → Bool
  | .tuple ds => callD ds
  | _ => false
def getD (es : List (D × D)) (k : D) : Option (Option D) := if isT es = true then (if bareK k = true then none else (tKey k).map (getT es.tail)) else (dKey k).map (getK es)
theorem dKey_kP (k : Key) : dKey (kP k) = some k := by cases k <;> rfl
theorem dKeys_kP : ∀ ks : List Key, dKeys (ks.map kP) = some ks
  | [] => rfl
  | k :: ks => by simp only [List.map_cons, dKeys, dKey_kP, dKeys_kP ks]
theorem kP_dKey {d : D} {k : Key} (e : dKey d = some k) : d = kP k := by
  cases d <;> simp only [dKey, Option.some.injEq, reduceCtorEq] at e <;> subst e <;> rfl
theorem kP_dKeys : ∀ {ds : List D} {ks : List Key}, dKeys ds = some ks → ds = ks.map kP
  | [], ks, e => by cases e; rfl
  | d :: ds, ks, e => by
    simp only [dKeys] at e
    split at e
    · rename_i k ks' h1 h2
      cases e
      rw [List.map_cons, ← kP_dKey h1, ← kP_dKeys h2]
    · cases e
section
variable {M : Mm} {H : Hp}
theorem rd_kP {v : V} {k : Key} (r : RD M H v (kP k)) : v = kV k := by
  cases k <;> (cases r; rfl)
theorem rds_kP : ∀ {vs : List V} {ks : List Key}, RDs M H vs (ks.map kP) → vs = ks.map kV
  | _, [], r => by cases r; rfl
  | _, k :: ks, r => by
    cases r with
    | cons a t => rw [List.map_cons, ← rd_kP a, ← rds_kP t]
def RDo (M : Mm) (H : Hp) : Option V → Option D → Prop
  | some v, some d => RD M H v d
  | none, none => True
  | _, _ => False
theorem RDk.val (k : Key) : ∀ {kvs : List (Key × V)} {es : List (D × D)}, RDk M H kvs es → RDo M H (valV kvs k) (getK es k)
  | _, _, .nil => trivial
  | _, _, .cons (k := j) r t => by
    by_cases e : j = k
    · subst e
      rw [valV_pos rfl]
      unfold getK
      simp only [List.find?_cons, dKey_kP, decide_true, Option.map_some]
      exact r
    · rw [valV_neg e]
      have ih := RDk.val k t
      unfold getK at ih ⊢
      simp only [List.find?_cons, dKey_kP, Option.some.injEq, e, decide_false]
      exact ih
theorem RDt.val (k : List Key) : ∀ {kvs : List (List Key × V)} {es : List (D × D)}, RDt M H kvs es → RDo M H (valV kvs k) (getT es k)
  | _, _, .nil => trivial
  | _, _, .cons (k := j) r t => by
    by_cases e : j = k
    · subst e
      rw [valV_pos rfl]
      unfold getT
      simp only [List.find?_cons, tKey, dKeys_kP, decide_true, Option.map_some]
      exact r
    · rw [valV_neg e]
      have ih := RDt.val k t
      unfold getT at ih ⊢
      simp only [List.find?_cons, tKey, dKeys_kP, Option.some.injEq, e, decide_false]
      exact ih
theorem isT_rdk : ∀ {kvs : List (Key × V)} {es : List (D × D)}, RDk M H kvs es → isT es = false
  | _, _, .nil => rfl
  | _, _, .cons (k := k) r t => by cases k <;> rfl
theorem get_ok {x y : V} {es : List (D × D)} {k : D} {o : Option D} (rx : RR M H x (.dict es)) (ry : RD M H y k) (e : getD es k = some o) : ∃ a ov, x = .ref a ∧ DGet H a y ov ∧ RDo M H ov o := by
  rcases rx with ⟨a, kvs, rfl, ha, r⟩ | ⟨a, kvs, es', rfl, rfl, ha, r⟩
  · unfold getD at e
    rw [isT_rdk r] at e
    simp only [Bool.false_eq_true, if_false, Option.map_eq_some_iff] at e
    obtain ⟨k', e1, e2⟩ := e
    have := kP_dKey e1
    subst this
    rw [rd_kP ry]
    exact ⟨a, _, rfl, DGet.k ha, e2 ▸ r.val k'⟩
  · unfold getD at e
    simp only [isT, if_true] at e
    split at e
    · cases e
    rename_i e0
    simp only [Option.map_eq_some_iff, List.tail_cons] at e
    obtain ⟨k', e1, e2⟩ := e
    cases k with
    | tuple ds =>
      have e0 : callD ds = false := by simpa [bareK] using e0
      have := kP_dKeys (show dKeys ds = some k' from e1)
      subst this
      cases ry with
      | tup _ hb rb =>
        have hb := hb.plain e0
        rw [rds_kP rb] at hb
        exact ⟨a, _, rfl, DGet.t ha hb, e2 ▸ r.val k'⟩
    | _ => cases e1
end

/-! ### subscripts -/
def idxW (x y : W) (h : Hh) : Option (W × Hh) := match x, y with
  | .scr ns, .dat (.int i) => match atI ns i with
    | some n => ok (.int n) h
    | none => none
  | x, .dat k => match deref h x, k with
    | some (.list ds), .int i => match atI ds i with
      | some d => ok d h
      | none => none
    | some (.tuple ds), .int i => match atI ds i with
      | some d => ok d h
      | none => none
    | some (.str z), .int i => if z.length ≤ sizeLine then match atI z.cps.toList i with
        | some c => ok (.str ⟨#[c]⟩) h
        | none => none
      else none
    | some (.dict es), k => match getD es k with
      | some (some d) => ok d h
      | _ => none
    | _, _ => none
  | _, _ => none
section
variable {X : Cx}
def rIxDict : R2 := fun x y H Q => ∃ a v, x = .ref a ∧ DGet H a y (some v) ∧ Q v H
theorem ix_dict (hu : X.A.units + 1 < cLine) : IxR X rIxDict := by
  intro value slice pins s σ H x y v u Q I rx ry q hs
  obtain ⟨a, z, rfl, g, q⟩ := q
  obtain rfl : v = Value.ref a := rx
  have tis := dict_typeIs I g
  unfold subscriptTail
  refine wpAny_bind ?_
  rw [getitemInPython_of_ne tis.not_modules]
  refine wpAny_bind (wpAny_specialOf tis F.slot_dict_getitem.lookup ?_)
  have gi := d_getItem (A := X.A) (E := X.xe) hu I g ry fun w' s3 I3 rw' => (⟨z, H, I3, rw', q⟩ : EP X pins σ Q w' s3)
  have done : wpAny (model X.prog X.w) X.A (subscripted slice false (.ref a) u) (fun r s₃ => wpAny (model X.prog X.w) X.A (letTemporaryGo value (.ref a) r >>= fun _ => pure r) (EP X pins σ Q) X.xe s₃) X.xe s := by
    rw [hs]; exact wpAny_operating (wpAny_mono gi (fun r s₃ k => wpAny_bind (wpAny_letTemporaryGo (wpAny_pure k))) fun _ _ k => k)
  first | exact wpAny_pure (wpAny_bind done) | exact wpAny_bind (wpAny_pure (wpAny_bind done)) | exact wpAny_bind done
theorem scr_atI {ns : List Int} {i : Int} {n : Int} (e : atI ns i = some n) : atI (ns.map V.int) i = some (.int n) := by
  unfold atI at e ⊢
  rw [List.length_map]
  cases q : ixN ns.length i with
  | none => rw [q] at e; cases e
  | some j => rw [q] at e; simp only [Option.bind_some] at e ⊢; rw [List.getElem?_map, e]; rfl
theorem s_idx : Sem2 (fun x y H Q => rIx X.K x y H Q ∨ rIxDict x y H Q) idxW := by
  intro M H h x y wx wy Q rep rx ry c
  unfold idxW at c
  split at c
  · rename_i ns i
    obtain ⟨a, o, rfl, _, ha⟩ := rx
    cases (show RD M H _ _ from ry)
    split at c
    · rename_i n e
      exact .inl (.inl ⟨a, _, i, _, rfl, rfl, .inl (.inr ⟨o, ha⟩), scr_atI e, c.here rep (.int _)⟩)
    · exact c.no.elim
  · split at c
    · rename_i ds i e1 hn
      obtain ⟨a, xs, rfl, ha, qa⟩ := deref_rr rep rx e1
      cases (show RD M H _ _ from ry)
      split at c
      · rename_i d e
        obtain ⟨v, ev, rv⟩ := qa.atI e
        exact .inl (.inl ⟨a, _, i, v, rfl, rfl, .of ha, ev, c.here rep rv⟩)
      · exact c.no.elim
    · rename_i ds i e1 hn
      obtain ⟨a, xs, rfl, _, ha, qa⟩ := rr_tup (deref_rr rep rx e1)
      cases (show RD M H _ _ from ry)
      split at c
      · rename_i d e
        obtain ⟨v, ev, rv⟩ := qa.atI e
        exact .inl (.inr (.inl ⟨a, _, i, v, rfl, rfl, ha.sq, ev, c.here rep rv⟩))
      · exact c.no.elim
    · rename_i z i e1 hn
      obtain rfl := rr_str (deref_rr rep rx e1)
      cases (show RD M H _ _ from ry)
      split at c
      · rename_i hz
        split at c
        · rename_i d e
          exact .inl (.inr (.inr ⟨z, i, d, rfl, rfl, hz, e, c.here rep (.str _)⟩))
        · exact c.no.elim
      · exact c.no.elim
    · rename_i es e1 hn
      split at c
      · rename_i d e
        obtain ⟨a, ov, rfl, g, ro⟩ := get_ok (deref_rr rep rx e1) ry e
        cases ov with
        | none => exact ro.elim
        | some v => exact .inr ⟨a, v, rfl, g, c.here rep ro⟩
      · exact c.no.elim
    · exact c.no.elim
  · exact c.no.elim
theorem d_idx {k : Nat} (hr : Room k X.A) {a b : Expr} {pos : Pos} {f g : EM} (ha : DE X a f) (hb : DE X b g) (hs : PlainIx b) : DE X (.Subscript a b pos) (f2 idxW f g) :=
  (pe_ix (ix_seq.or (ix_dict (hu_of hr))) ha hb hs).weak (op_imp s_idx)

/-! ### slices -/
def cutG {α : Type} (xs : List α) (lo hi : Option Int) : List α := (xs.drop (HT.sIx xs.length 0 lo)).take (HT.sIx xs.length xs.length hi - HT.sIx xs.length 0 lo)
theorem RDs.cut {M : Mm} {H : Hp} {xs : List V} {ds : List D} (r : RDs M H xs ds) (lo hi : Option Int) : RDs M H (cutV xs lo hi) (cutG ds lo hi) := by
  unfold cutV cutG
  rw [r.length]
  exact (r.drop _).take _
def oNone : OM := fun _ h => some (none, h)
def oSome (f : EM) : OM := fun ρ h => obnd (f ρ h) fun w h1 => match w with
  | .dat (.int i) => some (some i, h1)
  | _ => none
abbrev DO (X : Cx) (e : Option Expr) (f : OM) : Prop := PO X e (tO f)
theorem _root_.L2.PO.weak {X : Cx} {e : Option Expr} {t t' : TO} (h : PO X e t) (i : ∀ σ H Q, t' σ H Q → t σ H Q) : PO X e t' := ⟨fun pins s σ H Q I q => h.run pins s σ H Q I (i σ H Q q)⟩
theorem do_none : DO X none oNone := po_none.weak fun σ H Q => by
  rintro ⟨M, h, ρ, r, rs, c⟩
  exact c.fin (.refl _ _) r rfl
theorem do_some {e : Expr} {f : EM} (he : DE X e f) : DO X (some e) (oSome f) := (po_some he).weak fun σ H Q => by
  rintro ⟨M, h, ρ, r, rs, c⟩
  obtain ⟨w, h1, e1, c1⟩ := Cont.bind (δ := Unit) c
  refine ⟨M, h, ρ, r, rs, w, h1, e1, fun M1 H1 v x1 r1 v1 => ?_⟩
  have c2 := c1 M1 H1 x1
  split at c2
  · cases v1; exact ⟨_, rfl, c2.fin (.refl _ _) r1 rfl⟩
  · exact c2.no.elim
def cutW (m : Bool) (x : W) (lo hi : Option Int) (h : Hh) : Option (W × Hh) := match x with
  | .scr ns => mkL m ((cutG ns lo hi).map .int) h
  | x => match deref h x with
    | some (.list ds) => mkL m (cutG ds lo hi) h
    | some (.tuple ds) => ok (.tuple (cutG ds lo hi)) h
    | some (.str z) => if z.length ≤ sizeLine then ok (.str (cutS z lo hi)) h else none
    | _ => none
def fSl (m : Bool) (f : EM) (lo hi : OM) : EM := fun ρ h => obnd (f ρ h) fun w h1 => obnd (lo ρ h1) fun a h2 => obnd (hi ρ h2) fun b h3 => cutW m w a b h3
theorem cut_ints (ns : List Int) (lo hi : Option Int) {M : Mm} {H : Hp} : RDs M H (cutV (ns.map V.int) lo hi) ((cutG ns lo hi).map .int) := by
  have e : cutV (ns.map V.int) lo hi = (cutG ns lo hi).map V.int := by
    unfold cutV cutG
    rw [List.length_map, List.map_take, List.map_drop]
  rw [e]
  generalize cutG ns lo hi = l
  induction l with
  | nil => exact .nil
  | cons a t ih => exact .cons (.int a) ih
theorem cut_whole {α : Type} {xs : List α} {lo hi : Option Int} (e : HT.sIx xs.length 0 lo = 0 ∧ HT.sIx xs.length xs.length hi = xs.length) : cutG xs lo hi = xs := by
  unfold cutG
  rw [e.1, e.2]
  simp
/-- t[lo:hi], the new tuple's object known -/
def rSlB (K : PySem.W.Frag) : V → Option Int → Option Int → Hp → VK → Prop := fun x lo hi H Q => ∃ a vs, x = .ref a ∧ SqT K H a vs ∧
  ((HT.sIx vs.length 0 lo = 0 ∧ HT.sIx vs.length vs.length hi = vs.length → Q (.ref a) H) ∧ ∃ bb : Bool, ∀ p o, H p = none → o.dict = none → Q (.ref p) (upd H p (bareO bb o (cutV vs lo hi))))
theorem sl_tupB : SlR X (rSlB X.K) := by
  rintro pins s σ H x v vl vu lo hi sl Q I rx hs pl pu ⟨a, vs, rfl, hx, f1, bb, f2⟩
  by_cases hw : HT.sIx vs.length 0 lo = 0 ∧ HT.sIx vs.length vs.length hi = vs.length
  · exact sl_tupA pins s σ H _ v vl vu lo hi sl Q I rx hs pl pu ⟨a, vs, rfl, hx, f1, fun n => absurd hw n⟩
  · cases rx
    obtain ⟨l, r, ht, hz⟩ := I.tuple hx
    have hn : l.toArray.size = vs.length := by rw [List.size_toArray, r.length]
    refine ⟨"tuple", _, PyProof.Rows.slot_tuple_getitem.lookup, ht.typeIs, HT.getItem_tuple_cut ht hs pl pu (by rwa [hn]) ?_ (by rwa [hn])⟩
    rw [hn]
    exact ⟨.ref s.heap.objs.size, _, I.laid (t' := s.toks) (o := bareO bb _ (cutV vs lo hi)) (fun _ _ q => Heap.get?_push_of_some _ q) (Nat.le_refl _)
      (bare_ok bb (Heap.get?_push_size _ rfl) fun G => ⟨Nat.le_trans (cutV_length vs lo hi) hz, _, (r.drop _).take _, IsTup.new _ _⟩), rfl, f2 _ _ (I.hok.fresh (Nat.le_refl _)) rfl⟩
theorem d_slice (m : Bool) {a : Expr} {lo hi : Option Expr} {p2 pos : Pos} {f : EM} {fl fh : OM} (ha : DE X a f) (hl : DO X lo fl) (hh : DO X hi fh) : DE X (.Subscript a (.Slice lo hi none p2) pos) (fSl m f fl fh) :=
  (pe_slice (sl_list.or (sl_tupB.or sl_str)) ha hl hh).weak fun σ H Q => by
    rintro ⟨M, h, ρ, r, rs, c⟩
    obtain ⟨w, h1, e1, c1⟩ := Cont.bind (δ := Unit) c
    refine ⟨M, h, ρ, r, rs, w, h1, e1, fun M1 H1 v x1 r1 v1 => ⟨M1, h1, ρ, r1, rs.mono x1, ?_⟩⟩
    obtain ⟨w2, h2, e2, c2⟩ := Cont.bind (δ := Unit) (c1 M1 H1 x1)
    refine ⟨w2, h2, e2, fun M2 H2 v2 x2 r2 q2 => ⟨M2, h2, ρ, r2, (rs.mono x1).mono x2, ?_⟩⟩
    subst q2
    obtain ⟨w3, h3, e3, c3⟩ := Cont.bind (δ := Unit) (c2 M2 H2 x2)
    refine ⟨w3, h3, e3, fun M3 H3 v3 x3 r3 q3 => ?_⟩
    subst q3
    have c4 := c3 M3 H3 x3
    have v3' := (v1.mono x2).mono x3
    unfold cutW at c4
    split at c4
    · obtain ⟨b, o, rfl, _, hb⟩ := v3'
      exact .inl ⟨b, _, rfl, .inl (.inr ⟨o, hb⟩), fun p np => mkL_fin r3 np (cut_ints _ _ _) c4⟩
    · split at c4
      · rename_i ds e4
        obtain ⟨b, xs, rfl, hb, qb⟩ := deref_rr r3 v3' e4
        exact .inl ⟨b, xs, rfl, .of hb, fun p np => mkL_fin r3 np (qb.cut _ _) c4⟩
      · rename_i ds e4
        obtain ⟨b, xs, rfl, nb, hb, qb⟩ := rr_tup (deref_rr r3 v3' e4)
        refine .inr (.inl ⟨b, xs, rfl, hb.sq, fun e => ?_, _, fun p o np ho => mkB_fin r3 np (qb.cut _ _) ho c4⟩)
        rw [qb.length] at e
        rw [cut_whole e] at c4
        exact c4.here r3 (.tup nb hb qb)
      · rename_i z e4
        obtain rfl := rr_str (deref_rr r3 v3' e4)
        split at c4
        · rename_i hz
          exact .inr (.inr ⟨z, rfl, hz, c4.here r3 (.str _)⟩)
        · exact c4.no.elim
      · exact c4.no.elim

/-! ### displays -/
def dats : List W → Option (List D)
  | [] => some []
  | .dat d :: ws => (dats ws).map (d :: ·)
  | _ :: _ => none
@[simp] theorem dats_nil : dats [] = some [] := rfl
@[simp] theorem dats_cons (d : D) (ws : List W) : dats (.dat d :: ws) = (dats ws).map (d :: ·) := rfl
theorem rvs_dats {M : Mm} {H : Hp} : ∀ {vs : List V} {ws : List W} {ds : List D}, RVs M H vs ws → dats ws = some ds → RDs M H vs ds
  | _, _, _, .nil, e => by cases e; exact .nil
  | _, .dat d :: ws, _, .cons a t, e => by
    simp only [dats_cons, Option.map_eq_some_iff] at e
    obtain ⟨ds', e1, rfl⟩ := e
    exact .cons a (rvs_dats t e1)
  | _, .ref n :: ws, _, .cons a t, e => by cases e
  | _, .scr n :: ws, _, .cons a t, e => by cases e
  | _, .pack n :: ws, _, .cons a t, e => by cases e
def lstW (m : Bool) (ws : List W) (h : Hh) : Option (W × Hh) := match dats ws with
  | some ds => if ds.length ≤ sizeLine then mkL m ds h else none
  | none => none
def tupW (ws : List W) (h : Hh) : Option (W × Hh) := match dats ws with
  | some ds => if ds.length ≤ sizeLine then ok (.tuple ds) h else none
  | none => none
def fA (sem : List W → Hh → Option (W × Hh)) (g : AM) : EM := fun ρ h => obnd (g ρ h) sem
theorem d_lst (m : Bool) {es : List Expr} {pos : Pos} {g : AM} (hg : DA X es g) : DE X (.List es pos) (fA (lstW m) g) := (pe_lst hg).weak fun σ H Q => by
  rintro ⟨M, h, ρ, r, rs, c⟩
  obtain ⟨w, h1, e1, c1⟩ := Cont.bind (δ := Unit) c
  refine ⟨M, h, ρ, r, rs, w, h1, e1, fun M1 H1 v x1 r1 v1 => ?_⟩
  have c2 := c1 M1 H1 x1
  unfold lstW at c2
  split at c2
  · rename_i ds e
    have q := rvs_dats v1 e
    split at c2
    · rename_i hz
      exact ⟨by rw [q.length]; exact hz, fun p np => mkL_fin r1 np q c2⟩
    · exact c2.no.elim
  · exact c2.no.elim
def tTupB (t : TA) : TE := fun σ H Q => t σ H fun xs H1 => xs.length ≤ sizeLine ∧ ∃ b : Bool, ∀ p o, H1 p = none → o.dict = none → Q (.ref p) (upd H1 p (bareO b o xs))
theorem pe_tupB {x1} {es : List Expr} {t : TA} {pos : Pos} (h : PA X es t) : PE X (.Tuple es x1 pos) (tTupB t) := by
  constructor
  intro pins s σ H Q I hq
  apply wpAny_Tuple_spliced
  refine thn (h.run pos pins s σ H _ I hq) fun us s1 ⟨xs, H1, I1, r, z, b, q⟩ => ⟨r.length ▸ z, ?_⟩
  have hn := I1.hok.fresh (Nat.le_refl s1.heap.objs.size)
  exact ⟨.ref s1.heap.objs.size, _, I1.laid (t' := s1.toks) (o := bareO b _ xs) (fun _ _ e => Heap.get?_push_of_some _ e) (Nat.le_refl _) (bare_ok b (Heap.get?_push_size _ rfl) fun G => ⟨z, us, r, IsTup.new _ _⟩), rfl, q _ _ hn rfl⟩
theorem d_tup {x1} {es : List Expr} {pos : Pos} {g : AM} (hg : DA X es g) : DE X (.Tuple es x1 pos) (fA tupW g) := (pe_tupB hg).weak fun σ H Q => by
  rintro ⟨M, h, ρ, r, rs, c⟩
  obtain ⟨w, h1, e1, c1⟩ := Cont.bind (δ := Unit) c
  refine ⟨M, h, ρ, r, rs, w, h1, e1, fun M1 H1 v x1 r1 v1 => ?_⟩
  have c2 := c1 M1 H1 x1
  unfold tupW at c2
  split at c2
  · rename_i ds e
    have q := rvs_dats v1 e
    split at c2
    · rename_i hz
      exact ⟨by rw [q.length]; exact hz, callD ds, fun p o np ho => mkB_fin r1 np q ho c2⟩
    · exact c2.no.elim
  · exact c2.no.elim
end
end DL

set_option maxRecDepth 100000
set_option maxHeartbeats 4000000
namespace DL
open PySem PySem.Spec PyProof.Rows L2

/-! ### calls of built-ins -/
def SemA (r : List V → Hp → VK → Prop) (sem : List W → Hh → Option (W × Hh)) : Prop := ∀ (M : Mm) (H : Hp) (h : Hh) (vs : List V) (ws : List W) (Q : VK), Rep M H h → RVs M H vs ws → Cont RV (sem ws h) M H Q → r vs H Q
theorem call_imp {r : List V → Hp → VK → Prop} {sem : List W → Hh → Option (W × Hh)} {g : AM} (hs : SemA r sem) : ∀ σ H Q, tE (fA sem g) σ H Q → tCB r (tA g) σ H Q := fun σ H Q => by
  rintro ⟨M, h, ρ, r, rs, c⟩
  obtain ⟨w, h1, e1, c1⟩ := Cont.bind (δ := Unit) c
  exact ⟨M, h, ρ, r, rs, w, h1, e1, fun M1 H1 v x1 r1 v1 => hs M1 H1 h1 v w Q r1 v1 (c1 M1 H1 x1)⟩
section
variable {X : Cx}
theorem d_callB {x : Str} {p pos : Pos} {e : Expr} {es : List Expr} {id : String} {r : List V → Hp → VK → Prop} {sem : List W → Hh → Option (W × Hh)} {g : AM} (hc : CallR X (.builtin id) r) (hs : SemA r sem) (hm : X.mg x = none) (hv : bootBuiltins x = some (.builtin id)) (ha : DA X (e :: es) g)
    (hg : Gl X x := by rfl) (hn : x ≠ "__name__" := by decide) (hdb : (x == ("__debug__" : Str)) = false := by decide) (he : starEach (e :: es) X.env = (false, eval e X.env) :: starEach es X.env := by rfl) (hpl : (backTo pos (starEach es X.env)).any (·.1) = false := by rfl) :
    DE X (.Call (.Name x p) (e :: es) [] pos) (fA sem g) := (pe_callB hc hg hm hv ha hn hdb he hpl).weak (call_imp hs)
theorem d_callT {x : Str} {p pos : Pos} {e : Expr} {es : List Expr} {T : String} {r : List V → Hp → VK → Prop} {sem : List W → Hh → Option (W × Hh)} {g : AM} (hc : CallR X (.type T) r) (hs : SemA r sem) (hm : X.mg x = none) (hv : bootBuiltins x = some (.type T)) (ha : DA X (e :: es) g)
    (hg : Gl X x := by rfl) (hn : x ≠ "__name__" := by decide) (hdb : (x == ("__debug__" : Str)) = false := by decide) (he : starEach (e :: es) X.env = (false, eval e X.env) :: starEach es X.env := by rfl) (hpl : (backTo pos (starEach es X.env)).any (·.1) = false := by rfl) :
    DE X (.Call (.Name x p) (e :: es) [] pos) (fA sem g) := (pe_callTy hc hg hm hv ha hn hdb he hpl).weak (call_imp hs)
theorem rvs1 {M : Mm} {H : Hp} {vs : List V} {w : W} (r : RVs M H vs [w]) : ∃ v, vs = [v] ∧ RV M H v w := by
  cases r with
  | cons a t => cases t; exact ⟨_, rfl, a⟩
theorem rvs2 {M : Mm} {H : Hp} {vs : List V} {w u : W} (r : RVs M H vs [w, u]) : ∃ v v', vs = [v, v'] ∧ RV M H v w ∧ RV M H v' u := by
  cases r with
  | cons a t => cases t with
    | cons b t => cases t; exact ⟨_, _, rfl, a, b⟩

/-! len -/
def lenW (ws : List W) (h : Hh) : Option (W × Hh) := match ws with
  | [.scr ns] => ok (.int ns.length) h
  | [w] => match deref h w with
    | some (.list ds) => ok (.int ds.length) h
    | some (.tuple ds) => ok (.int ds.length) h
    | some (.str z) => if z.length ≤ sizeLine then ok (.int z.length) h else none
    | some (.dict es) => if isT es = true then none else ok (.int es.length) h
    | _ => none
  | _ => none
theorem RDk.length {M : Mm} {H : Hp} : ∀ {kvs : List (Key × V)} {es : List (D × D)}, RDk M H kvs es → kvs.length = es.length
  | _, _, .nil => rfl
  | _, _, .cons _ r => by rw [List.length_cons, List.length_cons, r.length]
theorem s_len : SemA (fun xs H Q => (∃ x n, xs = [x] ∧ LenV X.K x H n ∧ Q (.int n) H) ∨ ∃ d kvs, xs = [.ref d] ∧ H d = some (.dK kvs) ∧ Q (.int (kvs.length : Nat)) H) lenW := by
  intro M H h vs ws Q rep rv c
  unfold lenW at c
  split at c
  · rename_i ns
    obtain ⟨v, rfl, r⟩ := rvs1 rv
    obtain ⟨a, o, rfl, _, ha⟩ := r
    exact .inl ⟨_, ns.length, rfl, .inl ⟨_, .inl (.inr ⟨o, ha⟩), by simp⟩, c.here rep (.int _)⟩
  · obtain ⟨v, rfl, r⟩ := rvs1 rv
    split at c
    · rename_i ds e
      obtain ⟨a, xs, rfl, ha, q⟩ := deref_rr rep r e
      exact .inl ⟨_, ds.length, rfl, .inl ⟨_, .of ha, q.length.symm⟩, c.here rep (.int _)⟩
    · rename_i ds e
      obtain ⟨a, xs, rfl, _, ha, q⟩ := rr_tup (deref_rr rep r e)
      exact .inl ⟨_, ds.length, rfl, .inr ⟨_, ha.sq, q.length.symm⟩, c.here rep (.int _)⟩
    · rename_i z e
      obtain rfl := rr_str (deref_rr rep r e)
      split at c
      · rename_i hz
        exact .inl ⟨_, z.length, rfl, ⟨hz, rfl⟩, c.here rep (.int _)⟩
      · exact c.no.elim
    · rename_i es e
      split at c
      · exact c.no.elim
      · rename_i ht
        rcases deref_rr rep r e with ⟨a, kvs, rfl, ha, q⟩ | ⟨a, kvs, es', rfl, rfl, ha, q⟩
        · rw [← q.length] at c
          exact .inr ⟨a, kvs, rfl, ha, c.here rep (.int _)⟩
        · exact absurd rfl ht
    · exact c.no.elim
  · exact c.no.elim
theorem d_len (hm : X.mg "len" = none) {p pos : Pos} {e : Expr} {g : AM} (ha : DA X [e] g) (hg : Gl X "len" := by rfl) (he : starEach [e] X.env = (false, eval e X.env) :: starEach [] X.env := by rfl) (hpl : (backTo pos (starEach [] X.env)).any (·.1) = false := by rfl) : DE X (.Call (.Name "len" p) [e] [] pos) (fA lenW g) :=
  d_callB (call_len.or call_lenD) s_len hm boot_len ha hg (by decide) (by decide) he hpl

/-! abs, int, max, min -/
def absW (ws : List W) (h : Hh) : Option (W × Hh) := match ws with
  | [.dat (.int i)] => ok (.int (if i < 0 then -i else i)) h
  | _ => none
theorem s_abs : SemA (fun xs H Q => ∃ i, xs = [.int i] ∧ Q (.int (if i < 0 then -i else i)) H) absW := by
  intro M H h vs ws Q rep rv c
  unfold absW at c
  split at c
  · obtain ⟨v, rfl, r⟩ := rvs1 rv
    cases (show RD M H _ _ from r)
    exact ⟨_, rfl, c.here rep (.int _)⟩
  · exact c.no.elim
def intC (ws : List W) (h : Hh) : Option (W × Hh) := match ws with
  | [.dat (.int i)] => ok (.int i) h
  | [.dat (.bool b)] => ok (.int (if b = true then 1 else 0)) h
  | _ => none
theorem s_intC : SemA (fun xs H Q => (∃ i, xs = [.int i] ∧ Q (.int i) H) ∨ ∃ k, xs = [.bl k] ∧ Q (.int (if k then 1 else 0)) H) intC := by
  intro M H h vs ws Q rep rv c
  unfold intC at c
  split at c
  · obtain ⟨v, rfl, r⟩ := rvs1 rv
    cases (show RD M H _ _ from r)
    exact .inl ⟨_, rfl, c.here rep (.int _)⟩
  · obtain ⟨v, rfl, r⟩ := rvs1 rv
    cases (show RD M H _ _ from r)
    exact .inr ⟨_, rfl, c.here rep (.int _)⟩
  · exact c.no.elim
def maxW (ws : List W) (h : Hh) : Option (W × Hh) := match ws with
  | [.dat (.int i), .dat (.int j)] => ok (.int (if j > i then j else i)) h
  | _ => none
def minW (ws : List W) (h : Hh) : Option (W × Hh) := match ws with
  | [.dat (.int i), .dat (.int j)] => ok (.int (if j < i then j else i)) h
  | _ => none
theorem s_max : SemA (fun xs H Q => ∃ i j, xs = [.int i, .int j] ∧ Q (.int (if j > i then j else i)) H) maxW := by
  intro M H h vs ws Q rep rv c
  unfold maxW at c
  split at c
  · obtain ⟨v, v', rfl, r, r'⟩ := rvs2 rv
    cases (show RD M H _ _ from r)
    cases (show RD M H _ _ from r')
    exact ⟨_, _, rfl, c.here rep (.int _)⟩
  · exact c.no.elim
theorem s_min : SemA (fun xs H Q => ∃ i j, xs = [.int i, .int j] ∧ Q (.int (if j < i then j else i)) H) minW := by
  intro M H h vs ws Q rep rv c
  unfold minW at c
  split at c
  · obtain ⟨v, v', rfl, r, r'⟩ := rvs2 rv
    cases (show RD M H _ _ from r)
    cases (show RD M H _ _ from r')
    exact ⟨_, _, rfl, c.here rep (.int _)⟩
  · exact c.no.elim

/-! all, any, sum -/
def bools : List D → Option (List Bool)
  | [] => some []
  | .bool b :: ds => (bools ds).map (b :: ·)
  | _ :: _ => none
def intsD : List D → Option (List Int)
  | [] => some []
  | .int b :: ds => (intsD ds).map (b :: ·)
  | _ :: _ => none
theorem rds_bools {M : Mm} {H : Hp} : ∀ {vs : List V} {ds : List D} {bs : List Bool}, RDs M H vs ds → bools ds = some bs → vs = bs.map V.bl
  | _, _, _, .nil, e => by cases e; rfl
  | _, .bool b :: ds, _, .cons a t, e => by
    simp only [bools, Option.map_eq_some_iff] at e
    obtain ⟨bs', e1, rfl⟩ := e
    cases a
    rw [List.map_cons, ← rds_bools t e1]
  | _, .none :: ds, _, .cons a t, e => by cases e
  | _, .int _ :: ds, _, .cons a t, e => by cases e
  | _, .str _ :: ds, _, .cons a t, e => by cases e
  | _, .list _ :: ds, _, .cons a t, e => by cases e
  | _, .tuple _ :: ds, _, .cons a t, e => by cases e
  | _, .dict _ :: ds, _, .cons a t, e => by cases e
theorem rds_ints {M : Mm} {H : Hp} : ∀ {vs : List V} {ds : List D} {bs : List Int}, RDs M H vs ds → intsD ds = some bs → vs = bs.map V.int
  | _, _, _, .nil, e => by cases e; rfl
  | _, .int b :: ds, _, .cons a t, e => by
    simp only [intsD, Option.map_eq_some_iff] at e
    obtain ⟨bs', e1, rfl⟩ := e
    cases a
    rw [List.map_cons, ← rds_ints t e1]
  | _, .none :: ds, _, .cons a t, e => by cases e
  | _, .bool _ :: ds, _, .cons a t, e => by cases e
  | _, .str _ :: ds, _, .cons a t, e => by cases e
  | _, .list _ :: ds, _, .cons a t, e => by cases e
  | _, .tuple _ :: ds, _, .cons a t, e => by cases e
  | _, .dict _ :: ds, _, .cons a t, e => by cases e
def lW {α : Type} (cv : List D → Option (List α)) (k : List α → D) (ws : List W) (h : Hh) : Option (W × Hh) := match ws with
  | [w] => match deref h w with
    | some (.list ds) => match cv ds with
      | some bs => ok (k bs) h
      | none => none
    | _ => none
  | _ => none
def allW := lW bools fun bs => .bool (bs.all id)
def anyW := lW bools fun bs => .bool (bs.any id)
def sumW := lW intsD fun bs => .int bs.sum
theorem s_lW {α : Type} {cv : List D → Option (List α)} {k : List α → D} {kv : List α → V} {em : α → V} (h1 : ∀ {M : Mm} {H : Hp} {vs : List V} {ds : List D} {bs : List α}, RDs M H vs ds → cv ds = some bs → vs = bs.map em) (h2 : ∀ M H bs, RD M H (kv bs) (k bs)) :
    SemA (fun vs H Q => ∃ (a : Addr) (bs : List α), vs = [V.ref a] ∧ SqL X.K H a (bs.map em) ∧ Q (kv bs) H) (lW cv k) := by
  intro M H h vs ws Q rep rv c
  unfold lW at c
  split at c
  · obtain ⟨v, rfl, r⟩ := rvs1 rv
    split at c
    · rename_i ds e
      obtain ⟨a, xs, rfl, ha, q⟩ := deref_rr rep r e
      split at c
      · rename_i bs e2
        have e3 := h1 q e2
        subst e3
        exact ⟨a, bs, rfl, .of ha, c.here rep (h2 _ _ _)⟩
      · exact c.no.elim
    · exact c.no.elim
  · exact c.no.elim
theorem s_all : SemA (rAll X.K) allW := s_lW rds_bools fun _ _ _ => .bl _
theorem s_any : SemA (rAny X.K) anyW := s_lW rds_bools fun _ _ _ => .bl _
theorem s_sum : SemA (rSum X.K) sumW := s_lW rds_ints fun _ _ _ => .int _

/-! tuple(x), list(x) -/
def tupleW (ws : List W) (h : Hh) : Option (W × Hh) := match ws with
  | [w] => match deref h w with
    | some (.list ds) => ok (.tuple ds) h
    | some (.tuple ds) => ok (.tuple ds) h
    | _ => none
  | _ => none
def rTupB (K : PySem.W.Frag) : List V → Hp → VK → Prop := fun xs H Q => ∃ p ys, xs = [.ref p] ∧ ((SqL K H p ys ∧ ∃ b : Bool, ∀ l o, H l = none → o.dict = none → Q (.ref l) (upd H l (bareO b o ys))) ∨ (SqT K H p ys ∧ Q (.ref p) H))
theorem call_tupB : CallR X (.type "tuple") (rTupB X.K) := by
  intro pins s σ H xs us Q I r h
  obtain ⟨p, ys, rfl, h⟩ := h
  obtain ⟨u, rfl, rx⟩ := vals1 r
  cases rx
  rcases h with ⟨hq, b, q⟩ | ⟨hq, q⟩
  · obtain ⟨its, r', pl, hz⟩ := I.list hq
    have hlen := r'.length
    apply call_tuple_list pl.isList _ (by simp only [List.size_toArray] <;> omega)
    intro h' kp
    have I1 : Inv X pins σ H { s with heap := h' } := I.kept (t' := s.toks) kp
    exact ⟨.ref h'.objs.size, _, I1.laid (t' := s.toks) (o := bareO b _ ys) (fun _ _ e => Heap.get?_push_of_some _ e) (Nat.le_refl _) (bare_ok b (Heap.get?_push_size _ rfl) fun G => ⟨hz, its, r', IsTup.new _ _⟩), rfl, q _ _ (I1.hok.fresh (Nat.le_refl _)) rfl⟩
  · obtain ⟨its, r', pl, hz⟩ := I.tuple hq
    exact call_tuple_same pl ⟨.ref p, H, I, rfl, q⟩
theorem s_tuple : SemA (rTupB X.K) tupleW := by
  intro M H h vs ws Q rep rv c
  unfold tupleW at c
  split at c
  · obtain ⟨v, rfl, r⟩ := rvs1 rv
    split at c
    · rename_i ds e
      obtain ⟨a, xs, rfl, ha, q⟩ := deref_rr rep r e
      exact ⟨a, xs, rfl, .inl ⟨.of ha, callD ds, fun l o nl ho => mkB_fin rep nl q ho c⟩⟩
    · rename_i ds e
      obtain ⟨a, xs, rfl, na, ha, q⟩ := rr_tup (deref_rr rep r e)
      exact ⟨a, xs, rfl, .inr ⟨ha.sq, c.here rep (.tup na ha q)⟩⟩
    · exact c.no.elim
  · exact c.no.elim
def listW (m : Bool) (ws : List W) (h : Hh) : Option (W × Hh) := match ws with
  | [w] => match deref h w with
    | some (.list ds) => mkL m ds h
    | some (.tuple ds) => mkL m ds h
    | _ => none
  | _ => none
theorem s_list (m : Bool) : SemA (fun xs H Q => ∃ p ys, xs = [.ref p] ∧ (SqL X.K H p ys ∨ SqT X.K H p ys) ∧ ∀ l, H l = none → Q (.ref l) (upd H l (.lst ys))) (listW m) := by
  intro M H h vs ws Q rep rv c
  unfold listW at c
  split at c
  · obtain ⟨v, rfl, r⟩ := rvs1 rv
    split at c
    · rename_i ds e
      obtain ⟨a, xs, rfl, ha, q⟩ := deref_rr rep r e
      exact ⟨a, xs, rfl, .inl (.of ha), fun l nl => mkL_fin rep nl q c⟩
    · rename_i ds e
      obtain ⟨a, xs, rfl, na, ha, q⟩ := rr_tup (deref_rr rep r e)
      exact ⟨a, xs, rfl, .inr ha.sq, fun l nl => mkL_fin rep nl q c⟩
    · exact c.no.elim
  · exact c.no.elim

/-! dict(list of pairs) -/
def putK' (es : List (D × D)) (k : Key) (v : D) : List (D × D) := if (getK es k).isSome = true then es.map (fun e => if dKey e.1 = some k then (e.1, v) else e) else es ++ [(kP k, v)]
def pairsK : List D → Option (List (Key × D))
  | [] => some []
  | .tuple [k, v] :: ds => match dKey k, pairsK ds with
    | some k, some r => some ((k, v) :: r)
    | _, _ => none
  | _ :: _ => none
def mergeD (es : List (D × D)) (ps : List (Key × D)) : List (D × D) := ps.foldl (fun acc p => putK' acc p.1 p.2) es
section
variable {M : Mm} {H : Hp}
theorem RDo.some_iff {o : Option V} {p : Option D} (r : RDo M H o p) : o.isSome = p.isSome := by
  cases o <;> cases p <;> first | rfl | exact r.elim
theorem RDk.snoc {k : Key} {v : V} {d : D} (q : RD M H v d) : ∀ {kvs : List (Key × V)} {es : List (D × D)}, RDk M H kvs es → RDk M H (kvs ++ [(k, v)]) (es ++ [(kP k, d)])
  | _, _, .nil => .cons q .nil
  | _, _, .cons a t => .cons a (RDk.snoc q t)
theorem RDk.repl {k : Key} {v : V} {d : D} (q : RD M H v d) : ∀ {kvs : List (Key × V)} {es : List (D × D)}, RDk M H kvs es → RDk M H (kvs.map fun kv => if kv.1 = k then (kv.1, v) else kv) (es.map fun e => if dKey e.1 = some k then (e.1, d) else e)
  | _, _, .nil => .nil
  | _, _, .cons (k := j) a t => by
    simp only [List.map_cons, dKey_kP, Option.some.injEq]
    by_cases e : j = k
    · rw [if_pos e, if_pos e]; exact .cons q (RDk.repl q t)
    · rw [if_neg e, if_neg e]; exact .cons a (RDk.repl q t)
theorem RDk.put {kvs : List (Key × V)} {es : List (D × D)} (r : RDk M H kvs es) (k : Key) {v : V} {d : D} (q : RD M H v d) : RDk M H (putK kvs k v) (putK' es k d) := by
  unfold putK putK'
  rw [valV_any, (r.val k).some_iff]
  split
  · exact r.repl q
  · exact r.snoc q
theorem RDk.merge : ∀ {ps : List (Key × V)} {qs : List (Key × D)} {kvs : List (Key × V)} {es : List (D × D)}, Paired (fun p q => p.1 = q.1 ∧ RD M H p.2 q.2) ps qs → RDk M H kvs es → RDk M H (mergeK kvs ps) (mergeD es qs)
  | _, _, _, _, .nil, r => r
  | (k, v) :: ps, (k', d) :: qs, kvs, es, .cons ⟨e, q⟩ t, r => by
    have e' : k = k' := e
    subst e'
    show RDk M H (mergeK (putK kvs k v) ps) (mergeD (putK' es k d) qs)
    exact RDk.merge t (r.put k q)
theorem pairs_ok : ∀ {xs : List V} {ds : List D} {qs : List (Key × D)}, RDs M H xs ds → pairsK ds = some qs → ∃ (ps : List Addr) (kvs : List (Key × V)), xs = ps.map V.ref ∧ Paired (fun p kv => Rd H p (.tup [kV kv.1, kv.2])) ps kvs ∧ Paired (fun (p : Key × V) (q : Key × D) => p.1 = q.1 ∧ RD M H p.2 q.2) kvs qs
  | _, [], _, r, e => by
    cases e; cases r
    exact ⟨[], [], rfl, .nil, .nil⟩
  | _, d :: ds, qs, r, e => by
    unfold pairsK at e
    split at e
    · cases e
      rename_i h1
      cases h1
    · rename_i k v ds' h0
      cases h0
      split at e
      · rename_i k' r' e1 e2
        cases e
        cases r with
        | cons a t =>
          obtain ⟨ps, kvs, hx, h1, h2⟩ := pairs_ok t e2
          have := kP_dKey e1
          subst this
          cases a with
          | tup n ha ra =>
            cases ra with
            | cons rk rr =>
              cases rr with
              | cons rv rr =>
                cases rr
                have ha := ha.rd
                rw [rd_kP rk] at ha
                exact ⟨_ :: ps, (k', _) :: kvs, by rw [hx]; rfl, .cons ha h1, .cons ⟨rfl, rv⟩ h2⟩
      · cases e
    · cases e
end
def mkK (m : Bool) (es : List (D × D)) (h : Hh) : Option (W × Hh) := if m = true then some (.ref h.length, h ++ [some (.dic es)]) else some (.dat (.dict es), h)
theorem mkK_fin {m : Bool} {es : List (D × D)} {h : Hh} {M : Mm} {H : Hp} {Q : VK} {p : Addr} {kvs : List (Key × V)} (rep : Rep M H h) (n : H p = none) (r : RDk M H kvs es) (c : Cont RV (mkK m es h) M H Q) : Q (.ref p) (upd H p (.dK kvs)) := by
  cases m with
  | false => exact c.fin (ext_new n) (rep.upd_new n) (RD.dic (rep.new n) upd_same (r.mono (ext_new n).ext))
  | true => exact c.fin (ext_add n) (rep.add n ⟨kvs, upd_same, r.mono (ext_add n).ext⟩) ⟨p, by simp [Mm.more, ← rep.len], rfl⟩
def dictW (m : Bool) (ws : List W) (h : Hh) : Option (W × Hh) := match ws with
  | [w] => match deref h w with
    | some (.list ds) => match pairsK ds with
      | some qs => mkK m (mergeD [] qs) h
      | none => none
    | some (.dict es) => if isT es = true then none else mkK m es h
    | _ => none
  | _ => none
section
variable {X : Cx}
theorem s_dict (m : Bool) : SemA (fun xs H Q => (∃ (a : Addr) (ps : List Addr) (kvs : List (Key × V)), xs = [.ref a] ∧ SqL X.K H a (ps.map V.ref) ∧ Paired (fun p kv => SqT X.K H p [kV kv.1, kv.2]) ps kvs ∧
    ∀ p, H p = none → Q (.ref p) (upd H p (.dK (mergeK [] kvs)))) ∨ ∃ (a : Addr) (kvs : List (Key × V)), xs = [.ref a] ∧ Rd H a (.dK kvs) ∧ ∀ p, H p = none → Q (.ref p) (upd H p (.dK kvs))) (dictW m) := by
  intro M H h vs ws Q rep rv c
  unfold dictW at c
  split at c
  · obtain ⟨v, rfl, r⟩ := rvs1 rv
    split at c
    · rename_i ds e
      obtain ⟨a, xs, rfl, ha, q⟩ := deref_rr rep r e
      split at c
      · rename_i qs e2
        obtain ⟨ps, kvs, rfl, h1, h2⟩ := pairs_ok q e2
        exact .inl ⟨a, ps, kvs, rfl, .of ha, Paired.mapP h1 fun _ _ z => .inl z, fun p np => mkK_fin rep np (RDk.merge h2 .nil) c⟩
      · exact c.no.elim
    · rename_i es e
      split at c
      · exact c.no.elim
      · rename_i ht
        rcases deref_rr rep r e with ⟨a, kvs, rfl, ha, q⟩ | ⟨a, kvs, es', rfl, rfl, ha, q⟩
        · exact .inr ⟨a, kvs, rfl, .of ha, fun p np => mkK_fin rep np q c⟩
        · exact absurd rfl ht
    · exact c.no.elim
  · exact c.no.elim

/-! isinstance -/
def tyN : D → String
  | .none => "NoneType"
  | .bool _ => "bool"
  | .int _ => "int"
  | .str _ => "str"
  | .list _ => "list"
  | .tuple _ => "tuple"
  | .dict _ => "dict"
def isN (n t : String) : Bool := decide (n = t) || (decide (n = "bool") && decide (t = "int"))
def isT1 (t : String) (d : D) : Bool := isN (tyN d) t
theorem kitN : ∀ n ∈ ["NoneType", "bool", "int", "str", "list", "tuple", "dict"], ∀ t ∈ ["bool", "int", "str", "list", "tuple", "dict"], kitB n t = some (isN n t) := by decide +kernel
theorem rr_ty {K : PySem.W.Frag} {M : Mm} {H : Hp} {v : V} : ∀ {d : D}, RR M H v d → TyX K H v (.type (tyN d))
  | .none, r => by rw [rr_non r]; exact .base .non
  | .bool b, r => by rw [rr_bl r]; exact .base (.bl b)
  | .int b, r => by rw [rr_int r]; exact .base (.int b)
  | .str b, r => by rw [rr_str r]; exact .base (.str b)
  | .list b, ⟨a, xs, e, h, _⟩ => by rw [e]; exact .base (.lst h)
  | .tuple b, r => by
    obtain ⟨a, xs, e, _, h, _⟩ := rr_tup r
    rw [e]
    rcases h with ⟨_, h⟩ | ⟨_, o, _, h⟩
    · exact .base (.tup h)
    · exact .fTuple h
  | .dict b, .inl ⟨a, xs, e, h, _⟩ => by rw [e]; exact .base (.dK h)
  | .dict b, .inr ⟨a, xs, es, _, e, h, _⟩ => by rw [e]; exact .base (.dT h)
theorem kit1 (t : String) (ht : t = "int" ∨ t = "bool" ∨ t = "str" ∨ t = "list" ∨ t = "tuple" ∨ t = "dict") (d : D) : kitB (tyN d) t = some (isT1 t d) := by
  refine kitN (tyN d) ?_ t ?_
  · cases d <;> simp [tyN]
  · rcases ht with rfl | rfl | rfl | rfl | rfl | rfl <;> simp
def isiW (ts : List String) (w : W) (h : Hh) : Option (W × Hh) := match deref h w with
  | some d => bok (ts.any fun t => isT1 t d) h
  | none => none
def f1 (sem : W → Hh → Option (W × Hh)) (f : EM) : EM := fun ρ h => obnd (f ρ h) sem
theorem d_isi (hm : X.mg "isinstance" = none) {t : Str} {T : String} (hmt : X.mg t = none) (hv : bootBuiltins t = some (.type T)) (ht : T = "int" ∨ T = "bool" ∨ T = "str" ∨ T = "list" ∨ T = "tuple" ∨ T = "dict") {p pt pos : Pos} {e : Expr} {f : EM} (he : DE X e f)
    (hg : Gl X "isinstance" := by rfl) (hgt : Gl X t := by rfl) (hnt : t ≠ "__name__" := by decide) (hdt : (t == ("__debug__" : Str)) = false := by decide)
    (h1 : starEach [e, .Name t pt] X.env = (false, eval e X.env) :: starEach [.Name t pt] X.env := by rfl) (h2 : starEach [.Name t pt] X.env = (false, eval (.Name t pt) X.env) :: starEach [] X.env := by rfl)
    (hpl : (backTo pos (starEach [.Name t pt] X.env)).any (·.1) = false := by rfl) : DE X (.Call (.Name "isinstance" p) [e, .Name t pt] [] pos) (f1 (isiW [T]) f) :=
  (pe_callB call_isi hg hm boot_isinstance (pa_cons he (pa_cons (pe_bltn (v := .ty T) hgt hmt hv rfl hnt hdt) pa_nil h2) h1) (by decide) (by decide) h1 hpl).weak fun σ H Q => by
    rintro ⟨M, h, ρ, r, rs, c⟩
    obtain ⟨w, h1, e1, c1⟩ := Cont.bind (δ := Unit) c
    refine ⟨M, h, ρ, r, rs, w, h1, e1, fun M1 H1 v x1 r1 v1 => ?_⟩
    have c2 := c1 M1 H1 x1
    unfold isiW at c2
    split at c2
    · rename_i d e
      have q := c2.here r1 (.bl _)
      refine ⟨v, .ty T, _, _, _, rfl, .ty T, (rr_ty (deref_rr r1 v1 e)), kit_ty (kit1 T ht d), ?_⟩
      simpa using q
    · exact c2.no.elim
theorem d_isi2 (hm : X.mg "isinstance" = none) {t t' : Str} {T T' : String} (hmt : X.mg t = none) (hv : bootBuiltins t = some (.type T)) (ht : T = "int" ∨ T = "bool" ∨ T = "str" ∨ T = "list" ∨ T = "tuple" ∨ T = "dict") (hmt' : X.mg t' = none) (hv' : bootBuiltins t' = some (.type T')) (ht' : T' = "int" ∨ T' = "bool" ∨ T' = "str" ∨ T' = "list" ∨ T' = "tuple" ∨ T' = "dict") {p pt pt' ptt pos : Pos} {kt} {e : Expr} {f : EM} (he : DE X e f)
    (hg : Gl X "isinstance" := by rfl) (hgt : Gl X t := by rfl) (hnt : t ≠ "__name__" := by decide) (hdt : (t == ("__debug__" : Str)) = false := by decide) (hgt' : Gl X t' := by rfl) (hnt' : t' ≠ "__name__" := by decide) (hdt' : (t' == ("__debug__" : Str)) = false := by decide)
    (h1 : starEach [e, .Tuple [.Name t pt, .Name t' pt'] kt ptt] X.env = (false, eval e X.env) :: starEach [.Tuple [.Name t pt, .Name t' pt'] kt ptt] X.env := by rfl)
    (h2 : starEach [.Tuple [.Name t pt, .Name t' pt'] kt ptt] X.env = (false, eval (.Tuple [.Name t pt, .Name t' pt'] kt ptt) X.env) :: starEach [] X.env := by rfl)
    (h3 : starEach [.Name t pt, .Name t' pt'] X.env = (false, eval (.Name t pt) X.env) :: starEach [.Name t' pt'] X.env := by rfl) (h4 : starEach [.Name t' pt'] X.env = (false, eval (.Name t' pt') X.env) :: starEach [] X.env := by rfl)
    (hpl : (backTo pos (starEach [.Tuple [.Name t pt, .Name t' pt'] kt ptt] X.env)).any (·.1) = false := by rfl) : DE X (.Call (.Name "isinstance" p) [e, .Tuple [.Name t pt, .Name t' pt'] kt ptt] [] pos) (f1 (isiW [T, T']) f) :=
  (pe_callB call_isiT hg hm boot_isinstance (pa_cons he (pa_cons (pe_tup (pa_cons (pe_bltn (v := .ty T) hgt hmt hv rfl hnt hdt) (pa_cons (pe_bltn (v := .ty T') hgt' hmt' hv' rfl hnt' hdt') pa_nil h4) h3)) pa_nil h2) h1) (by decide) (by decide) h1 hpl).weak fun σ H Q => by
    rintro ⟨M, h, ρ, r, rs, c⟩
    obtain ⟨w, h1, e1, c1⟩ := Cont.bind (δ := Unit) c
    refine ⟨M, h, ρ, r, rs, w, h1, e1, fun M1 H1 v x1 r1 v1 => ⟨by show 2 ≤ sizeLine; decide, fun tp ntp => ?_⟩⟩
    have c2 := c1 M1 H1 x1
    unfold isiW at c2
    split at c2
    · rename_i d e
      have r2 := r1.upd_new (o := .tup [.ty T, .ty T']) ntp
      have q := c2.fin (v := .bl _) (ext_new ntp) r2 (.bl _)
      refine ⟨v, tp, [.ty T, .ty T'], _, [.type T, .type T'], _, rfl, upd_same, .cons (.ty T) (.cons (.ty T') .nil), (rr_ty (deref_rr r2 (v1.mono (ext_new ntp)) e)), ?_, q⟩
      refine kitAny_cons (kit_ty (kit1 T ht d)) (fun hb => kitAny_cons (r := isT1 T' d) (kit_ty (kit1 T' ht' d)) (fun hb' => by rw [hb']; rfl) (fun hb' => hb') |>.trans ?_) (fun hb => ?_)
      · simp [hb]
      · simp [hb]
    · exact c2.no.elim
end
end
end DL

set_option maxRecDepth 100000
set_option maxHeartbeats 4000000
namespace DL
open PySem PySem.Spec PyProof.Rows L2

/-! ### in, not in -/
def flatD : D → Bool
  | .none => true
  | .bool _ => true
  | .int _ => true
  | .str _ => true
  | _ => false
theorem rd_flat {M : Mm} {H : Hp} {v : V} {d : D} (r : RD M H v d) (f : flatD d = true) : flatV v = true := by
  cases d <;> first | (cases r; rfl) | cases f
theorem rds_flat {M : Mm} {H : Hp} : ∀ {vs : List V} {ds : List D}, RDs M H vs ds → ds.all flatD = true → vs.all flatV = true
  | _, _, .nil, _ => rfl
  | _, _, .cons a t, f => by
    rw [List.all_cons, Bool.and_eq_true] at f
    rw [List.all_cons, rd_flat a f.1, rds_flat t f.2]; rfl
theorem eqV_eqv {M : Mm} {H : Hp} {x y : V} {a b : D} (ra : RD M H x a) (rb : RD M H y b) (fa : flatD a = true) (fb : flatD b = true) : eqV x y = PyData.eqv a b := by
  cases a <;> cases b <;> first | (exfalso; simp [flatD] at fa; done) | (exfalso; simp [flatD] at fb; done) | (cases ra; cases rb; simp [eqV, PyData.eqv])
theorem inV_eq {M : Mm} {H : Hp} {x : V} {d : D} (r : RD M H x d) (f : flatD d = true) : ∀ {vs : List V} {ds : List D}, RDs M H vs ds → ds.all flatD = true → inV x vs = ds.any fun y => PyData.eqv y d
  | _, _, .nil, _ => rfl
  | _, _, .cons a t, q => by
    rw [List.all_cons, Bool.and_eq_true] at q
    have ih := inV_eq r f t q.2
    unfold inV at ih ⊢
    rw [List.any_cons, List.any_cons, ih, eqV_eqv a r q.1 f]
def inW (neg : Bool) (x y : W) (h : Hh) : Option (W × Hh) := match x with
  | .dat d => match deref h y with
    | some (.dict es) => match getD es d with
      | some o => bok (if neg = true then !o.isSome else o.isSome) h
      | none => none
    | some (.list ds) => if (flatD d && ds.all flatD) = true then bok (if neg = true then !ds.any (fun z => PyData.eqv z d) else ds.any fun z => PyData.eqv z d) h
      else if (shp d && shp (.list ds)) = true then bok (if neg = true then !ds.any (fun z => PyData.eqv z d) else ds.any fun z => PyData.eqv z d) h else none
    | some (.tuple ds) => if (flatD d && ds.all flatD) = true then bok (if neg = true then !ds.any (fun z => PyData.eqv z d) else ds.any fun z => PyData.eqv z d) h else none
    | some (.str z) => match d with
      | .str ⟨⟨[c]⟩⟩ => bok (if neg = true then !decide (c ∈ z.cps.toList) else decide (c ∈ z.cps.toList)) h
      | _ => none
    | _ => none
  | _ => none
section
variable {X : Cx}
def rInDict (neg : Bool) : R2 := fun y x H Q => ∃ a o, x = .ref a ∧ DGet H a y o ∧ Q (.bl (if neg = true then !o.isSome else o.isSome)) H
theorem op_inDict (hu : X.A.units + 1 < cLine) : OpR X (compareOp .In) (rInDict false) := by
  intro pins s σ H x y v u Q I rx ry q
  obtain ⟨a, o, rfl, g, q⟩ := q
  obtain rfl : u = Value.ref a := ry
  exact d_in hu I g rx fun s' I' => ⟨.bl _, H, I', rfl, q⟩
theorem op_notInDict (hu : X.A.units + 1 < cLine) : OpR X (compareOp .NotIn) (rInDict true) := by
  intro pins s σ H x y v u Q I rx ry q
  obtain ⟨a, o, rfl, g, q⟩ := q
  obtain rfl : u = Value.ref a := ry
  exact d_notIn hu I g rx fun s' I' => ⟨.bl _, H, I', rfl, q⟩
def rInA (K : PySem.W.Frag) (neg : Bool) : R2 := fun x y H Q => rIn K neg x y H Q ∨ rInDict neg x y H Q ∨
  (∃ d ds, Dp K H x d ∧ Dp K H y (.list ds) ∧ SeqAt.shaped d = true ∧ SeqAt.shaped (.list ds) = true ∧ Q (.bl (if neg = true then !ds.any (fun z => PyData.eqv z d) else ds.any fun z => PyData.eqv z d)) H) ∨
  ∃ c z, x = .str ⟨#[c]⟩ ∧ y = .str z ∧ Q (.bl (if neg = true then !decide (c ∈ z.cps.toList) else decide (c ∈ z.cps.toList))) H
theorem o_in {k : Nat} (hr : Room k X.A) : OpR X (compareOp .In) (rInA X.K false) :=
  op_in_seq.or ((op_inDict (hu_of hr)).or ((op_inD (Nat.lt_of_le_of_lt (Nat.add_le_add_left (by decide) _) (show X.A.units + 200 < cLine by have := hr.un; omega))).or op_in_sign))
theorem o_notin {k : Nat} (hr : Room k X.A) : OpR X (compareOp .NotIn) (rInA X.K true) :=
  op_notIn_seq.or ((op_notInDict (hu_of hr)).or ((op_notInD (Nat.lt_of_le_of_lt (Nat.add_le_add_left (by decide) _) (show X.A.units + 200 < cLine by have := hr.un; omega))).or op_notIn_sign))
theorem s_in (neg : Bool) : Sem2 (rInA X.K neg) (inW neg) := by
  intro M H h x y wx wy Q rep rx ry c
  unfold inW at c
  split at c
  · rename_i d
    split at c
    · rename_i es e
      split at c
      · rename_i o eo
        obtain ⟨a, ov, rfl, g, ro⟩ := get_ok (deref_rr rep ry e) rx eo
        refine .inr (.inl ⟨a, ov, rfl, g, ?_⟩)
        rw [ro.some_iff]
        exact c.here rep (.bl _)
      · exact c.no.elim
    · rename_i ds e
      obtain ⟨a, xs, rfl, ha, q⟩ := deref_rr rep ry e
      split at c
      · rename_i hz
        rw [Bool.and_eq_true] at hz
        refine .inl ⟨a, xs, rfl, .inl (.of ha), rd_flat rx hz.1, rds_flat q hz.2, ?_⟩
        rw [inV_eq rx hz.1 q hz.2]
        cases neg <;> exact c.here rep (.bl _)
      · split at c
        · rename_i hz
          rw [Bool.and_eq_true] at hz
          exact .inr (.inr (.inl ⟨d, ds, RD.dp rx (SeqAt.canLay_of_shaped hz.1), rr_dp (deref_rr rep ry e) (SeqAt.canLay_of_shaped hz.2), hz.1, hz.2, c.here rep (.bl _)⟩))
        · exact c.no.elim
    · rename_i ds e
      obtain ⟨a, xs, rfl, _, ha, q⟩ := rr_tup (deref_rr rep ry e)
      split at c
      · rename_i hz
        rw [Bool.and_eq_true] at hz
        refine .inl ⟨a, xs, rfl, .inr ha.sq, rd_flat rx hz.1, rds_flat q hz.2, ?_⟩
        rw [inV_eq rx hz.1 q hz.2]
        cases neg <;> exact c.here rep (.bl _)
      · exact c.no.elim
    · rename_i z e
      obtain rfl := rr_str (deref_rr rep ry e)
      split at c
      · rename_i ch
        cases (show RD M H _ _ from rx)
        exact .inr (.inr (.inr ⟨ch, z, rfl, rfl, c.here rep (.bl _)⟩))
      · exact c.no.elim
    · exact c.no.elim
  · exact c.no.elim
theorem d_in' {k : Nat} (hr : Room k X.A) {a b : Expr} {pos : Pos} {f g : EM} (ha : DE X a f) (hb : DE X b g) (hm : behindInMarks .In b = false := by rfl) : DE X (.Compare a [.In] [b] pos) (f2 (inW false) f g) := d_cmp (o_in hr) (s_in false) ha hb hm
theorem d_notin' {k : Nat} (hr : Room k X.A) {a b : Expr} {pos : Pos} {f g : EM} (ha : DE X a f) (hb : DE X b g) (hm : behindInMarks .NotIn b = false := by rfl) : DE X (.Compare a [.NotIn] [b] pos) (f2 (inW true) f g) := d_cmp (o_notin hr) (s_in true) ha hb hm
theorem t_in {k : Nat} (hr : Room k X.A) {a b : Expr} {pos : Pos} {f g : EM} (ha : DE X a f) (hb : DE X b g) (hm : behindInMarks .In b = false := by rfl) : DT X (.Compare a [.In] [b] pos) (fB (f2 (inW false) f g)) := dt_of_cmp (o_in hr) (s_in false) ha hb hm
theorem t_notin {k : Nat} (hr : Room k X.A) {a b : Expr} {pos : Pos} {f g : EM} (ha : DE X a f) (hb : DE X b g) (hm : behindInMarks .NotIn b = false := by rfl) : DT X (.Compare a [.NotIn] [b] pos) (fB (f2 (inW true) f g)) := dt_of_cmp (o_notin hr) (s_in true) ha hb hm

/-! ### sorted -/
/-- the items of a list or a tuple, and how the heap grows -/
theorem collect_grown {prog : Program} {w : World} {A : Around} {E : Value → Shared → Prop} {s : Shared} {Q : List Value → Shared → Prop} (it : Addr) {T : String} {o : Obj} {its : Array Value} {n : Nat} (hT : T = "list" ∨ T = "tuple") (ho : s.heap.get? it = some o) (hc : o.cls = .type T) (hd : o.data = .seq its n) (hsz : its.size ≤ sizeLine)
    (hQ : ∀ h', s.heap.objs.size ≤ h'.objs.size → (∀ b o', s.heap.get? b = some o' → h'.get? b = some o') → Q its.toList { s with heap := h' }) : wpAny (model prog w) A (collect (.ref it)) Q E s := by
  let g0 : Heap := s.heap.push { cls := .type "list", data := .seq ([] : List Value).toArray }
  let g1 : Heap := g0.update s.heap.objs.size (Obj.mapSeq (· ++ its))
  have a0 : g0.get? s.heap.objs.size = some { cls := .type "list", data := .seq #[] 0 } := Heap.get?_push_size _ rfl
  have a1 : g1.get? s.heap.objs.size = _ := Heap.get?_update_self (Obj.mapSeq (· ++ its)) a0 rfl
  have last : wpAny (model prog w) A (match Value.ref s.heap.objs.size with
      | Value.ref a => do
        match (← load a).data with
          | Data.seq xs _ => pure xs.toList
          | _ => unsupported "internal:collect"
      | _ => unsupported "internal:collect") Q E { s with heap := g1 } := by
    show wpAny _ A (load s.heap.objs.size >>= _) _ _ _
    refine wpAny_bind (wpAny_load a1 (wpAny_pure ?_))
    have e : ((#[] : Array Value) ++ its).toList = its.toList := by simp
    show Q ((#[] : Array Value) ++ its).toList _
    rw [e]
    refine hQ g1 ?_ fun b o' hb => (Heap.get?_update_other _ _ (Nat.ne_of_gt (Heap.lt_size hb))).trans (Heap.get?_push_of_some _ hb)
    show _ ≤ (g0.update s.heap.objs.size (Obj.mapSeq (· ++ its))).objs.size
    rw [Heap.size_update, size_push']
    exact Nat.le_succ _
  unfold collect
  refine wpAny_bind (wpAny_runValue (codeAny_builtin F.entry_proto_collect ?_))
  rw [Around.under_plainId F.plain_proto_collect _]
  show wpAny _ A.in1 (newList [] >>= fun l => again (.builtin "list.__iadd__" ⟨[l, .ref it], []⟩)) _ _ s
  refine wpAny_bind (wpAny_newObj_type (wpAny_pure ⟨plainId_quiet F.plain_list_iadd _, codeAny_builtin F.entry_list_iadd ?_⟩))
  rw [Around.under_plainId F.plain_list_iadd _]
  show wpAny _ A.in1 (Builtin.List.listExtendWith (.ref s.heap.objs.size) (.ref it) (.ref s.heap.objs.size)) _ _ _
  refine wpAny_mono (wpAny_extend_seq (hsz := hsz) (A := A) (R := fun r s' => r = .ok (.ret (.ref s.heap.objs.size)) ∧ s' = { s with heap := g1 }) (s := { s with heap := g0 }) _ it _ 0 hT a0 (Heap.get?_push_of_some _ ho) hc hd ⟨rfl, rfl⟩) (fun fin s' q => ?_) fun e s' q => absurd q.1 (by simp)
  cases fin with
  | done f => obtain ⟨e, rfl⟩ := q; cases e; exact last
  | again c' => exact ⟨q.1, codeAny_mono q.2 fun r s2 hr => by obtain ⟨rfl, rfl⟩ := hr; exact last⟩
/-- sorted(x), where x's items are vs -/
theorem sorted_any {prog : Program} {w : World} {A : Around} {E : Value → Shared → Prop} {s : Shared} {x : Value} {β : Type} {R : Value → β → Prop} {vs : List Value} {bs : List β} {enc : β → PyData} {Q : Value → Shared → Prop}
    (hcol : ∀ (Q' : List Value → Shared → Prop), (∀ h', s.heap.objs.size ≤ h'.objs.size → (∀ b o, s.heap.get? b = some o → h'.get? b = some o) → Q' vs { s with heap := h' }) → wpAny (model prog w) A.in1 (collect x) Q' E s)
    (e : PySem.W.EachIs R vs bs) (er : PySem.W.EachIs (fun v b => ∃ as, Reads s.heap v (enc b) as) vs bs) (hal : PySem.W.AllAlike (bs.map enc)) (hk : PySem.W.Sortable (bs.map enc)) (hL : bs.length ≤ sizeLine) (hu : ∀ b, b ∈ bs → A.units + 2 + (enc b).depth < cLine)
    (h : ∀ out p c h', (∀ b o, s.heap.get? b = some o → h'.get? b = some o) → s.heap.objs.size ≤ p → h'.get? p = some (seqObj "list" (List.toArray out) c) → PySem.W.EachIs R out (bs.mergeSort (PySem.W.dataLe false enc)) → Q (.ref p) { s with heap := h' }) :
    wpAny (model prog w) A (call (.builtin "sorted") [x]) Q E s := by
  refine call_function_entry_kw kind_sorted plain_sorted entry_sorted (args_sorted1 _) ?_
  have hv : vs.length ≤ sizeLine := by rw [e.length]; exact hL
  unfold Builtin.«sorted»
  refine wpAny_bind (m := checkCount "sorted" 1 1 _) (wpAny_pure (wpAny_bind (hcol _ fun g hg kg => wpAny_bind (wpAny_newList ?_ hv))))
  have at_ : (g.push (seqObj "list" vs.toArray 0)).get? g.objs.size = some (seqObj "list" vs.toArray 0) := Heap.get?_push_size _ rfl
  have up : ∀ b o, s.heap.get? b = some o → b ≠ g.objs.size ∧ (g.push (seqObj "list" vs.toArray 0)).get? b = some o := fun b o q => ⟨Nat.ne_of_lt (Heap.lt_size (kg b o q)), Heap.get?_push_of_some _ (kg b o q)⟩
  have er' : PySem.W.EachIs (fun v b => ∃ as, Reads (PySem.W.sortingHeap (g.push (seqObj "list" vs.toArray 0)) g.objs.size vs) v (enc b) as) vs bs := er.mono fun _ _ ⟨as, r⟩ => ⟨as, PyProof.Rows.Reads.keeps (fun b o q => PySem.W.sortingHeap_old (up b o q).1 (up b o q).2) r⟩
  refine wpAny_bind (wpAny_holding (wpAny_call_entry_kw slot_list_sort ⟨_, at_, rfl⟩ entry_list_sort ?_ (args_list_sort _)))
  refine PySem.W.list_sort_vals (s := { s with heap := g.push (seqObj "list" vs.toArray 0) }) at_ (PySem.W.SortsAt.data (s := { s with heap := PySem.W.sortingHeap (g.push (seqObj "list" vs.toArray 0)) g.objs.size vs }) (PySem.W.each_map (R := fun v d => ∃ as, Reads (PySem.W.sortingHeap (g.push (seqObj "list" vs.toArray 0)) g.objs.size vs) v d as) enc er') hal hk (PySem.W.bound_map (A := A.in1.in1) hu)) hv ?_
  refine ⟨_, rfl, wpAny_pure ⟨_, rfl, ?_⟩⟩
  obtain ⟨c, hc⟩ := sortedHeap_at (vs := vs) (out := (PySem.W.sortVals (PySem.W.dataKind (PySem.W.sortingHeap (g.push (seqObj "list" vs.toArray 0)) g.objs.size vs) (bs.map enc)) false vs vs).toArray) at_
  exact h _ _ c _ (fun b o q => by rw [sortedHeap_old (up b o q).1 (Heap.lt_size (up b o q).2)]; exact (up b o q).2) hg hc (PySem.W.sortVals_data false e er' hal)
def rSortedA (K : PySem.W.Frag) : List V → Hp → VK → Prop := fun vs H Q => ∃ (a : Addr) (bs : List (V × D)), vs = [.ref a] ∧ (SqL K H a (bs.map (·.1)) ∨ SqT K H a (bs.map (·.1))) ∧ (∀ b ∈ bs, Dp K H b.1 b.2) ∧ PySem.W.AllAlike (bs.map (·.2)) ∧ PySem.W.Sortable (bs.map (·.2)) ∧
  (∀ b ∈ bs, b.2.depth ≤ 64) ∧ ∀ p, H p = none → Q (.ref p) (upd H p (.lst ((bs.mergeSort (PySem.W.dataLe false (·.2))).map (·.1))))
theorem each_zip {I : Prop} {s : Shared} {K : PySem.W.Frag} {H : Hp} (rd : ∀ (d : D) (v : V) (u : Value), Dp K H v d → RelV v u → ∃ as, Reads s.heap u d as) : ∀ {bs : List (V × D)} {its : List Value}, Vals (bs.map (·.1)) its → (∀ b ∈ bs, Dp K H b.1 b.2) →
    PySem.W.EachIs (fun (u : Value) (b : V × D) => RelV b.1 u) its bs ∧ PySem.W.EachIs (fun (u : Value) (b : V × D) => ∃ as, Reads s.heap u b.2 as) its bs
  | [], _, r, _ => by cases r; exact ⟨.nil, .nil⟩
  | b :: bs, _, r, q => by
    cases r with
    | cons r1 r2 =>
      obtain ⟨h1, h2⟩ := each_zip (I := I) rd r2 fun b hb => q b (List.mem_cons_of_mem _ hb)
      exact ⟨.cons r1 h1, .cons (rd _ _ _ (q b List.mem_cons_self) r1) h2⟩
theorem each_vals : ∀ {out : List Value} {bs : List (V × D)}, PySem.W.EachIs (fun (u : Value) (b : V × D) => RelV b.1 u) out bs → Vals (bs.map (·.1)) out
  | _, _, .nil => .nil
  | _, _, .cons a t => .cons a (each_vals t)
theorem cr_sortedA {k : Nat} (hr : Room k X.A) : CallR X (.builtin "sorted") (rSortedA X.K) := by
  intro pins s σ H vs us Q I rv q
  obtain ⟨a, bs, rfl, hs, hd, hal, hk, hdep, q⟩ := q
  obtain rfl := Vals.ref1 rv
  obtain ⟨its, T, o, n, vl, ho, hc, hdat, hT, hz⟩ : ∃ (its : List Value) (T : String) (o : Obj) (n : Nat), Vals (bs.map (·.1)) its ∧ s.heap.get? a = some o ∧ o.cls = .type T ∧ o.data = .seq its.toArray n ∧ (T = "list" ∨ T = "tuple") ∧ (bs.map (·.1)).length ≤ sizeLine := by
    rcases hs with hs | hs
    · obtain ⟨its, vl, ⟨o, n, h1, h2, _, h3⟩, hz⟩ := I.list hs
      exact ⟨its, "list", o, n, vl, h1, h2, h3, .inl rfl, hz⟩
    · obtain ⟨its, vl, ⟨o, h1, h2, n, h3⟩, hz⟩ := I.tuple hs
      exact ⟨its, "tuple", o, n, vl, h1, h2, h3, .inr rfl, hz⟩
  have hl : bs.length ≤ sizeLine := by rw [List.length_map] at hz; exact hz
  obtain ⟨e1, e2⟩ := each_zip (I := True) (fun d v u => Dp.reads I d v u) vl hd
  refine sorted_any (x := .ref a) (vs := its) (bs := bs) (enc := (·.2)) (fun Q' k => collect_grown a hT ho hc hdat (by have := vl.length; simp only [List.size_toArray]; omega) fun h' hz kh => k h' hz kh) e1 e2 hal hk hl (fun b hb => by have := hr.un; have := hdep b hb; show X.A.units + 2 + b.2.depth < cLine; omega) fun out p c h' kp hp hD eo => ?_
  have vo := each_vals eo
  have hlen : ((bs.mergeSort (PySem.W.dataLe false (·.2))).map (·.1)).length ≤ sizeLine := by rw [List.length_map, List.length_mergeSort]; exact hl
  exact ⟨.ref p, upd H p (.lst ((bs.mergeSort (PySem.W.dataLe false (·.2))).map (·.1))), I.laid (t' := s.toks) kp hp ⟨hlen, out, c, vo, hD⟩, rfl, q p (I.hok.fresh hp)⟩
/-- the sorted list of data -/
noncomputable def sortD (ds : List D) : List D := ds.mergeSort (PySem.W.dataLe false fun d => d)
def sortable (ds : List D) : Bool := (ds.all fun d => ds.all fun e => PySem.W.alike d e) && ((ds.all fun d => match d with | .tuple (_ :: _) => true | _ => false) || (ds.all fun d => match d with | .none => false | .tuple _ => false | _ => true)) && ds.all shp
noncomputable def sortW (m : Bool) (ws : List W) (h : Hh) : Option (W × Hh) := match ws with
  | [w] => match deref h w with
    | some (.list ds) => if sortable ds = true then mkL m (sortD ds) h else none
    | some (.tuple ds) => if sortable ds = true then mkL m (sortD ds) h else none
    | _ => none
  | _ => none
theorem rds_zip {M : Mm} {H : Hp} : ∀ {xs : List V} {ds : List D}, RDs M H xs ds → ∃ bs : List (V × D), xs = bs.map (·.1) ∧ ds = bs.map (·.2) ∧ ∀ b ∈ bs, RD M H b.1 b.2
  | _, _, .nil => ⟨[], rfl, rfl, fun b hb => by cases hb⟩
  | x :: xs, d :: ds, .cons a t => by
    obtain ⟨bs, e1, e2, q⟩ := rds_zip t
    refine ⟨(x, d) :: bs, by rw [e1]; rfl, by rw [e2]; rfl, fun b hb => ?_⟩
    rcases List.mem_cons.mp hb with rfl | hb
    · exact a
    · exact q b hb
theorem zip_rds {M : Mm} {H : Hp} : ∀ {bs : List (V × D)}, (∀ b ∈ bs, RD M H b.1 b.2) → RDs M H (bs.map (·.1)) (bs.map (·.2))
  | [], _ => .nil
  | b :: bs, q => .cons (q b List.mem_cons_self) (zip_rds fun c hc => q c (List.mem_cons_of_mem _ hc))
theorem sortable_ok {ds : List D} (h : sortable ds = true) : PySem.W.AllAlike ds ∧ PySem.W.Sortable ds ∧ ∀ d ∈ ds, shp d = true := by
  unfold sortable at h
  simp only [Bool.and_eq_true, Bool.or_eq_true, List.all_eq_true] at h
  obtain ⟨⟨h1, h2⟩, h3⟩ := h
  refine ⟨fun d hd d' hd' => h1 d hd d' hd', ?_, h3⟩
  rcases h2 with h2 | h2
  · refine .inl fun d hd => ?_
    have q := h2 d hd
    split at q
    · exact ⟨_, _, rfl⟩
    · cases q
  · refine .inr fun d hd => ⟨fun e => ?_, fun xs e => ?_⟩
    · subst e; exact absurd (h2 _ hd) (by simp)
    · subst e; exact absurd (h2 _ hd) (by simp)
theorem sort_imp {M : Mm} {H : Hp} {xs : List V} {ds : List D} {a : Addr} {m : Bool} {h : Hh} {Q : VK} (rep : Rep M H h) (q : RDs M H xs ds) (hs : SqL X.K H a xs ∨ SqT X.K H a xs) (hz : sortable ds = true) (c : Cont RV (mkL m (sortD ds) h) M H Q) : rSortedA X.K [.ref a] H Q := by
  obtain ⟨bs, rfl, rfl, qb⟩ := rds_zip q
  obtain ⟨h1, h2, h3⟩ := sortable_ok hz
  have h3' : ∀ b ∈ bs, shp b.2 = true := fun b hb => h3 _ (List.mem_map.mpr ⟨b, hb, rfl⟩)
  refine ⟨a, bs, rfl, hs, fun b hb => RD.dp (qb b hb) (SeqAt.canLay_of_shaped (h3' b hb)), h1, h2, fun b hb => SeqAt.depth_of_shaped (h3' b hb), fun p np => ?_⟩
  have e : sortD (bs.map (·.2)) = (bs.mergeSort (PySem.W.dataLe false (·.2))).map (·.2) := (PySem.W.sort_maps (r := PySem.W.dataLe false fun b : V × D => b.2) (s := PySem.W.dataLe false fun d : D => d) (fun b : V × D => b.2) (l := bs) fun _ _ _ _ => rfl).symm
  rw [e] at c
  exact mkL_fin rep np (zip_rds fun b hb => qb b ((List.mergeSort_perm bs _).mem_iff.mp hb)) c
theorem s_sorted (m : Bool) : SemA (rSortedA X.K) (sortW m) := by
  intro M H h vs ws Q rep rv c
  unfold sortW at c
  split at c
  · obtain ⟨v, rfl, r⟩ := rvs1 rv
    split at c
    · rename_i ds e
      obtain ⟨a, xs, rfl, ha, q⟩ := deref_rr rep r e
      split at c
      · rename_i hz
        exact sort_imp rep q (.inl (.of ha)) hz c
      · exact c.no.elim
    · rename_i ds e
      obtain ⟨a, xs, rfl, _, ha, q⟩ := rr_tup (deref_rr rep r e)
      split at c
      · rename_i hz
        exact sort_imp rep q (.inr ha.sq) hz c
      · exact c.no.elim
    · exact c.no.elim
  · exact c.no.elim

/-! ### methods of lists that may change -/
def isL (w : W) (h : Hh) : Bool := match deref h w with
  | some (.list _) => true
  | _ => false
def fM (chk : W → Hh → Bool) (sem : W → List W → Hh → Option (W × Hh)) (f : EM) (g : AM) : EM := fun ρ h => obnd (f ρ h) fun w h1 => if chk w h1 = true then obnd (g ρ h1) fun ws h2 => sem w ws h2 else none
def SemM (r : V → List V → Hp → VK → Prop) (sem : W → List W → Hh → Option (W × Hh)) : Prop := ∀ (M : Mm) (H : Hp) (h : Hh) (x : V) (w : W) (vs : List V) (ws : List W) (Q : VK), Rep M H h → RV M H x w → RVs M H vs ws → Cont RV (sem w ws h) M H Q → r x vs H Q
theorem isL_ty {K : PySem.W.Frag} {M : Mm} {H : Hp} {h : Hh} {v : V} {w : W} (rep : Rep M H h) (r : RV M H v w) (e : isL w h = true) : tyV K "list" v H := by
  unfold isL at e
  split at e
  · rename_i ds q
    obtain ⟨a, xs, rfl, ha, _⟩ := deref_rr rep r q
    exact .inl ⟨rfl, _, .of ha⟩
  · cases e
theorem meth_imp {K : PySem.W.Frag} {r : V → List V → Hp → VK → Prop} {sem : W → List W → Hh → Option (W × Hh)} {f : EM} {g : AM} (hs : SemM r sem) : ∀ σ H Q, tE (fM isL sem f g) σ H Q → tBM K "list" r (tE f) (tA g) σ H Q := fun σ H Q => by
  rintro ⟨M, h, ρ, r, rs, c⟩
  obtain ⟨w, h1, e1, c1⟩ := Cont.bind (δ := Unit) c
  refine ⟨M, h, ρ, r, rs, w, h1, e1, fun M1 H1 v x1 r1 v1 => ?_⟩
  have c2 := c1 M1 H1 x1
  split at c2
  · rename_i hl
    refine ⟨isL_ty r1 v1 hl, M1, h1, ρ, r1, rs.mono x1, ?_⟩
    obtain ⟨w2, h2, e2, c3⟩ := Cont.bind (δ := Unit) c2
    exact ⟨w2, h2, e2, fun M2 H2 v2 x2 r2 q2 => hs M2 H2 h2 _ w _ w2 Q r2 (v1.mono x2) q2 (c3 M2 H2 x2)⟩
  · exact c2.no.elim
theorem meth0_imp {K : PySem.W.Frag} {r : V → List V → Hp → VK → Prop} {sem : W → List W → Hh → Option (W × Hh)} {f : EM} (hs : SemM r sem) : ∀ σ H Q, tE (fM isL sem f fNil) σ H Q → tBM0 K "list" r (tE f) σ H Q := fun σ H Q => by
  rintro ⟨M, h, ρ, r, rs, c⟩
  obtain ⟨w, h1, e1, c1⟩ := Cont.bind (δ := Unit) c
  refine ⟨M, h, ρ, r, rs, w, h1, e1, fun M1 H1 v x1 r1 v1 => ?_⟩
  have c2 := c1 M1 H1 x1
  split at c2
  · rename_i hl
    exact ⟨isL_ty r1 v1 hl, hs M1 H1 h1 _ w _ [] Q r1 v1 .nil c2⟩
  · exact c2.no.elim
/-- what stands at a place that may change -/
def lstAt (h : Hh) (n : Nat) : Option (List D) := match h[n]? with
  | some (some (.lst ds)) => some ds
  | _ => none
theorem lstAt_ok {M : Mm} {H : Hp} {h : Hh} {n : Nat} {ds : List D} {a : Addr} (rep : Rep M H h) (e : lstAt h n = some ds) (ea : M.m[n]? = some (some a)) : ∃ xs, H a = some (.lst xs) ∧ RDs M H xs ds := by
  obtain ⟨o, ho, ro⟩ := rep.at_ n a ea
  unfold lstAt at e
  rw [ho] at e
  cases o with
  | lst ds' => cases e; exact ro
  | dic _ => cases e
  | dit _ => cases e
  | tab _ _ => cases e
def setL (h : Hh) (n : Nat) (ds : List D) (r : D) : Option (W × Hh) := some (.dat r, h.set n (some (.lst ds)))
theorem setL_fin {M : Mm} {H : Hp} {h : Hh} {n : Nat} {a : Addr} {ds : List D} {d : D} {ys : List V} {v : V} {Q : VK} (rep : Rep M H h) (ea : M.m[n]? = some (some a)) (q : RDs M H ys ds) (rv : RD M H v d) (c : Cont RV (setL h n ds d) M H Q) : Q v (upd H a (.lst ys)) :=
  c.fin (ext_set ea) (rep.set ea ⟨ys, upd_same, q.mono (ext_set ea).ext⟩) (rv.mono (ext_set ea).ext)
def appendW (w : W) (ws : List W) (h : Hh) : Option (W × Hh) := match w, ws with
  | .ref n, [.dat d] => match lstAt h n with
    | some ds => if ds.length < sizeLine then setL h n (ds ++ [d]) .none else none
    | none => none
  | _, _ => none
theorem s_append : SemM rAppend appendW := by
  intro M H h x w vs ws Q rep rx rv c
  unfold appendW at c
  split at c
  · rename_i n d
    obtain ⟨a, ea, rfl⟩ := rx
    obtain ⟨v, rfl, r⟩ := rvs1 rv
    split at c
    · rename_i ds e
      obtain ⟨xs, ha, q⟩ := lstAt_ok rep e ea
      split at c
      · rename_i hz
        exact ⟨a, xs, v, rfl, rfl, ha, by rw [q.length]; exact hz, setL_fin rep ea (q.app (.cons r .nil)) .non c⟩
      · exact c.no.elim
    · exact c.no.elim
  · exact c.no.elim
def insertW (w : W) (ws : List W) (h : Hh) : Option (W × Hh) := match w, ws with
  | .ref n, [.dat (.int i), .dat d] => match lstAt h n with
    | some ds => if ds.length < sizeLine ∧ 0 ≤ i ∧ i < 1000000 then setL h n (ds.take i.toNat ++ [d] ++ ds.drop i.toNat) .none else none
    | none => none
  | _, _ => none
theorem s_insert : SemM (fun x vs H Q => ∃ (l : Addr) (xs : List V) (i : Int) (y : V), x = .ref l ∧ vs = [.int i, y] ∧ H l = some (.lst xs) ∧ xs.length < sizeLine ∧ 0 ≤ i ∧ i < 2 ^ 63 ∧ Q .non (upd H l (.lst (xs.take i.toNat ++ [y] ++ xs.drop i.toNat)))) insertW := by
  intro M H h x w vs ws Q rep rx rv c
  unfold insertW at c
  split at c
  · rename_i n i d
    obtain ⟨a, ea, rfl⟩ := rx
    obtain ⟨v, v', rfl, r, r'⟩ := rvs2 rv
    cases (show RD M H _ _ from r)
    split at c
    · rename_i ds e
      obtain ⟨xs, ha, q⟩ := lstAt_ok rep e ea
      split at c
      · rename_i hz
        exact ⟨a, xs, i, v', rfl, rfl, ha, by rw [q.length]; exact hz.1, hz.2.1, by omega, setL_fin rep ea (((q.take _).app (.cons r' .nil)).app (q.drop _)) .non c⟩
      · exact c.no.elim
    · exact c.no.elim
  · exact c.no.elim
def popAtW (w : W) (ws : List W) (h : Hh) : Option (W × Hh) := match w, ws with
  | .ref n, [.dat (.int i)] => match lstAt h n with
    | some ds => if 0 ≤ i ∧ i < 1000000 then match ds[i.toNat]? with
        | some d => setL h n (ds.eraseIdx i.toNat) d
        | none => none
      else none
    | none => none
  | _, _ => none
theorem s_popAt : SemM rPopAt popAtW := by
  intro M H h x w vs ws Q rep rx rv c
  unfold popAtW at c
  split at c
  · rename_i n i
    obtain ⟨a, ea, rfl⟩ := rx
    obtain ⟨v, rfl, r⟩ := rvs1 rv
    cases (show RD M H _ _ from r)
    split at c
    · rename_i ds e
      obtain ⟨xs, ha, q⟩ := lstAt_ok rep e ea
      split at c
      · rename_i hz
        split at c
        · rename_i d ed
          obtain ⟨y, ey, ry⟩ := q.get ed
          have hlt : i < xs.length := by have := lt_of_get ey; omega
          exact ⟨a, xs, i, i.toNat, y, rfl, rfl, ha, by omega, by omega, seqIndex_of hz.1 hlt, ey, setL_fin rep ea (q.erase _) ry c⟩
        · exact c.no.elim
      · exact c.no.elim
    · exact c.no.elim
  · exact c.no.elim
def popW (w : W) (ws : List W) (h : Hh) : Option (W × Hh) := match w, ws with
  | .ref n, [] => match lstAt h n with
    | some ds => match ds[ds.length - 1]? with
        | some d => setL h n ds.dropLast d
        | none => none
    | none => none
  | _, _ => none
theorem RDs.dropLast {M : Mm} {H : Hp} {xs : List V} {ds : List D} (q : RDs M H xs ds) : RDs M H xs.dropLast ds.dropLast := by
  rw [List.dropLast_eq_take, List.dropLast_eq_take, q.length]; exact q.take _
theorem s_pop : SemM rPop popW := by
  intro M H h x w vs ws Q rep rx rv c
  unfold popW at c
  split at c
  · rename_i n
    obtain ⟨a, ea, rfl⟩ := rx
    cases rv
    split at c
    · rename_i ds e
      obtain ⟨xs, ha, q⟩ := lstAt_ok rep e ea
      split at c
      · rename_i d ed
        obtain ⟨y, ey, ry⟩ := q.get ed
        exact ⟨a, xs, y, rfl, rfl, ha, by rw [q.length]; exact ey, setL_fin rep ea q.dropLast ry c⟩
      · exact c.no.elim
    · exact c.no.elim
  · exact c.no.elim
def reverseW (w : W) (ws : List W) (h : Hh) : Option (W × Hh) := match w, ws with
  | .ref n, [] => match lstAt h n with
    | some ds => setL h n ds.reverse .none
    | none => none
  | _, _ => none
theorem s_reverse : SemM rReverse reverseW := by
  intro M H h x w vs ws Q rep rx rv c
  unfold reverseW at c
  split at c
  · rename_i n
    obtain ⟨a, ea, rfl⟩ := rx
    cases rv
    split at c
    · rename_i ds e
      obtain ⟨xs, ha, q⟩ := lstAt_ok rep e ea
      exact ⟨a, xs, rfl, rfl, ha, setL_fin rep ea q.rev .non c⟩
    · exact c.no.elim
  · exact c.no.elim
end
end DL

set_option maxRecDepth 100000
set_option maxHeartbeats 4000000
namespace DL
open PySem PySem.Spec PyProof.Rows L2

/-! ### targets -/
abbrev TM := W → Env → Hh → Option Env
abbrev TMs := List D → Env → Hh → Option Env
/-- ts: the places that are stored to -/
def tGd (ts : List Nat) (g : TM) : TG := fun v σ H Q => ∃ M h ρ w ρ', Rep M H h ∧ RS M H ρ σ ∧ RV M H v w ∧ g w ρ h = some ρ' ∧ ∀ σ' : L2.St, RS M H ρ' σ' → σ'.length = σ.length → (∀ j, j ∉ ts → σ'[j]? = σ[j]?) → Q σ' H
def tGds (ts : List Nat) (g : TMs) : TGs := fun vs σ H Q => ∃ M h ρ ds ρ', Rep M H h ∧ RS M H ρ σ ∧ RDs M H vs ds ∧ g ds ρ h = some ρ' ∧ ∀ σ' : L2.St, RS M H ρ' σ' → σ'.length = σ.length → (∀ j, j ∉ ts → σ'[j]? = σ[j]?) → Q σ' H
abbrev DG (X : Cx) (tg : Expr) (ts : List Nat) (g : TM) : Prop := PG X tg (tGd ts g)
abbrev DGs (X : Cx) (tgs : List Expr) (ts : List Nat) (g : TMs) : Prop := PGs X tgs (tGds ts g)
theorem _root_.L2.PGs.weak {X : Cx} {e : List Expr} {t t' : TGs} (h : PGs X e t) (i : ∀ v σ H Q, t' v σ H Q → t v σ H Q) : PGs X e t' := ⟨fun pins s σ H v u Q I r q => h.run pins s σ H v u Q I r (i v σ H Q q)⟩
def gN (i : Nat) : TM := fun w ρ _ => some (ρ.set i (some w))
def gE : TMs := fun ds ρ _ => match ds with
  | [] => some ρ
  | _ => none
def gC (g : TM) (k : TMs) : TMs := fun ds ρ h => match ds with
  | d :: ds => match g (.dat d) ρ h with
    | some ρ' => k ds ρ' h
    | none => none
  | [] => none
def gT (n : Nat) (k : TMs) : TM := fun w ρ h => match deref h w with
  | some (.tuple ds) => if ds.length = n then k ds ρ h else none
  | some (.list ds) => if ds.length = n then k ds ρ h else none
  | _ => none
section
variable {X : Cx}
theorem dg_name (i : Nat) {x : Str} {pos : Pos} (h : PG X (.Name x pos) (gName i)) : DG X (.Name x pos) [i] (gN i) := h.weak fun v σ H Q => by
  rintro ⟨M, h, ρ, w, ρ', r, rs, rv, e, q⟩
  cases e
  exact q _ (rs.set rv) (by simp) fun j hj => List.getElem?_set_ne (fun z => hj (by simp [z]))
theorem dgs_nil : DGs X [] [] gE := pgs_nil.weak fun v σ H Q => by
  rintro ⟨M, h, ρ, ds, ρ', r, rs, rv, e, q⟩
  unfold gE at e
  split at e
  · cases e; cases rv; exact ⟨rfl, q σ rs rfl fun _ _ => rfl⟩
  · cases e
theorem dgs_cons {tg : Expr} {tgs : List Expr} {ts ts' : List Nat} {g : TM} {k : TMs} (h1 : DG X tg ts g) (h2 : DGs X tgs ts' k) (hs : (assignEach (tg :: tgs) X.env).map (·.2) = assign tg X.env :: (assignEach tgs X.env).map (·.2) := by rfl) : DGs X (tg :: tgs) (ts ++ ts') (gC g k) :=
  (pgs_cons h1 h2 hs).weak fun v σ H Q => by
    rintro ⟨M, h, ρ, ds, ρ', r, rs, rv, e, q⟩
    unfold gC at e
    split at e
    · rename_i d ds'
      split at e
      · rename_i ρ1 e1
        cases rv with
        | cons a t =>
          refine ⟨_, _, rfl, M, h, ρ, .dat d, ρ1, r, rs, a, e1, fun σ1 rs1 l1 o1 => ⟨M, h, ρ1, ds', ρ', r, rs1, t, e, fun σ2 rs2 l2 o2 => q σ2 rs2 (l2.trans l1) fun j hj => ?_⟩⟩
          rw [o2 j (fun z => hj (List.mem_append_right _ z)), o1 j (fun z => hj (List.mem_append_left _ z))]
      · cases e
    · cases e
theorem _root_.L2.PG.or {tg : Expr} {t t' : TG} (h : PG X tg t) (h' : PG X tg t') : PG X tg (fun v σ H Q => t v σ H Q ∨ t' v σ H Q) := ⟨fun pins s σ H v u Q I r q => q.elim (h.run pins s σ H v u Q I r) (h'.run pins s σ H v u Q I r)⟩
theorem dg_tup {tgs : List Expr} {k : Nat} {pos : Pos} {ts : List Nat} {g : TMs} {n : Nat} (hc : X.calm = true) (h : DGs X tgs ts g) (hn : (assignEach tgs X.env).length = n := by rfl) (hst : (assignEach tgs X.env).findIdx? (·.1) = none := by rfl) : DG X (.Tuple tgs k pos) ts (gT n g) :=
  ((pg_tup hc h hn hst).or (pg_unl hc h hn hst)).weak fun v σ H Q => by
    rintro ⟨M, h, ρ, w, ρ', r, rs, rv, e, q⟩
    unfold gT at e
    split at e
    · rename_i ds ed
      obtain ⟨a, xs, rfl, _, ha, qa⟩ := rr_tup (deref_rr r rv ed)
      split at e
      · rename_i hz
        exact .inl ⟨a, xs, rfl, ha.sq, by rw [qa.length]; exact hz, M, h, ρ, ds, ρ', r, rs, qa, e, q⟩
      · cases e
    · rename_i ds ed
      obtain ⟨a, xs, rfl, ha, qa⟩ := deref_rr r rv ed
      split at e
      · rename_i hz
        exact .inr ⟨a, xs, rfl, .of ha, by rw [qa.length]; exact hz, M, h, ρ, ds, ρ', r, rs, qa, e, q⟩
      · cases e
    · cases e
end

/-! ### what is walked -/
theorem Rep.grow {M : Mm} {H H' : Hp} {h : Hh} (r : Rep M H h) (s : Same H H') : Rep M H' h ∧ ExtE M M H H' := by
  have x : ExtE M M H H' := ⟨rfl, fun a o e => ⟨o, s a o e⟩, fun a o e _ => s a o e, fun _ m => .inl m, Nat.le_refl _, fun _ _ => rfl⟩
  refine ⟨⟨fun a m => ?_, r.len, r.inj, fun i a e => ?_, r.dead⟩, x⟩
  · obtain ⟨h1, o, e⟩ := r.us a m
    exact ⟨h1, o, s a o e⟩
  · obtain ⟨u, hu, ro⟩ := r.at_ i a e
    obtain ⟨z, hz⟩ := ro.some_
    exact ⟨u, hu, ro.move x.ext (by rw [hz]; exact s a z hz)⟩
theorem new_out {M : Mm} {H : Hp} (tr : ∀ a, M.Has a → ∃ o, H a = some o) {T : Addr} (n : H T = none) : ¬ M.Has T := fun z => by
  obtain ⟨o, e⟩ := tr T z
  rw [n] at e; cases e
theorem grow_ext {M : Mm} {H H' : Hp} (s : Same H H') : Ext M M H H' := ⟨fun _ m => .inl m, fun a o e => ⟨o, s a o e⟩, fun a o e _ => s a o e, fun _ m => .inl m, Nat.le_refl _, fun _ _ => .inl rfl⟩
/-- J yields the data ds, whatever happens behind (M, H) -/
def ItD (M : Mm) (H : Hp) (J : It) (ds : List D) : Prop := ∀ M1 H1, Ext M M1 H H1 → (∀ a, M1.Has a → ∃ o, H1 a = some o) → (∀ (i : Nat) (d : D), ds[i]? = some d → J.go i H1 ∧ ∀ x H2, J.yld i H1 x H2 → Same H1 H2 ∧ RD M1 H2 x d) ∧ J.stop ds.length H1
abbrev IM := Env → Hh → Option (List D × Hh)
def tI (g : IM) : TI := fun σ H R => ∃ M h ρ ds h', Rep M H h ∧ RS M H ρ σ ∧ g ρ h = some (ds, h') ∧ ∀ M' H' J, ExtE M M' H H' → Rep M' H' h' → ItD M' H' J ds → R J H'
abbrev DI (X : Cx) (tg it : Expr) (g : IM) : Prop := PI X tg it (tI g)
theorem _root_.L2.PI.or {X : Cx} {tg e : Expr} {t t' : TI} (h : PI X tg e t) (h' : PI X tg e t') : PI X tg e (fun σ H R => t σ H R ∨ t' σ H R) := ⟨fun pins s σ H R I q => q.elim (h.run pins s σ H R I) (h'.run pins s σ H R I)⟩
theorem same_refl' {H : Hp} : Same H H := fun _ _ e => e
theorem same_new {H : Hp} {p : Addr} {o : HO} (n : H p = none) : Same H (upd H p o) := fun b x e => by rw [upd_ne (ne_of_none e n)]; exact e
theorem itd_list {K : PySem.W.Frag} {M : Mm} {H : Hp} {a : Addr} {xs : List V} {ds : List D} (n : ¬ M.Has a) (ha : H a = some (.lst xs)) (q : RDs M H xs ds) : ItD M H (Itl K a) ds := fun M1 H1 x tr => by
  have ha1 := x.st n ha
  have q1 := q.mono x
  refine ⟨fun i d e => ?_, ⟨xs, .of ha1, by rw [q.length]; exact Nat.le_refl _⟩⟩
  obtain ⟨v, ev, rv⟩ := q1.get e
  refine ⟨⟨xs, v, .of ha1, ev⟩, fun y H2 hy => ?_⟩
  obtain ⟨e2, hy⟩ := hy
  subst e2
  have := hy xs (.of ha1)
  rw [ev] at this; cases this
  exact ⟨same_refl', rv⟩
theorem itd_tup {K : PySem.W.Frag} {M : Mm} {H : Hp} {a : Addr} {xs : List V} {ds : List D} (n : ¬ M.Has a) (ha : TupAt H a xs ds) (q : RDs M H xs ds) : ItD M H (Itt K a) ds := fun M1 H1 x tr => by
  have ha1 := (ha.to fun _ z => x.st n z).sq (K := K)
  have q1 := q.mono x
  refine ⟨fun i d e => ?_, ⟨xs, ha1, by rw [q.length]; exact Nat.le_refl _⟩⟩
  obtain ⟨v, ev, rv⟩ := q1.get e
  refine ⟨⟨xs, v, ha1, ev⟩, fun y H2 hy => ?_⟩
  obtain ⟨e2, hy⟩ := hy
  subst e2
  have := hy xs ha1
  rw [ev] at this; cases this
  exact ⟨same_refl', rv⟩
/-- the items of a list or tuple that stays -/
def seqI (f : EM) : IM := fun ρ h => obnd (f ρ h) fun w h1 => match w with
  | .dat (.list ds) => some (ds, h1)
  | .dat (.tuple ds) => some (ds, h1)
  | _ => none
section
variable {X : Cx} {tg : Expr}
theorem di_seq {e : Expr} {f : EM} (he : DE X e f) : DI X tg e (seqI f) := ((pi_list he).or (pi_tup he)).weak fun σ H R => by
  rintro ⟨M, h, ρ, ds, h', r, rs, e, q⟩
  unfold seqI at e
  cases ef : f ρ h with
  | none => rw [ef] at e; cases e
  | some p =>
    obtain ⟨w, h1⟩ := p
    rw [ef] at e
    simp only [obnd_some] at e
    split at e
    · cases e
      refine .inl ⟨M, h, ρ, r, rs, _, _, ef, fun M1 H1 v x1 r1 v1 => ?_⟩
      cases (show RD M1 H1 v _ from v1) with
      | lst n ha qa => exact ⟨_, rfl, ⟨_, .of ha⟩, q M1 H1 _ x1 r1 (itd_list n ha qa)⟩
    · cases e
      refine .inr ⟨M, h, ρ, r, rs, _, _, ef, fun M1 H1 v x1 r1 v1 => ?_⟩
      cases (show RD M1 H1 v _ from v1) with
      | tup n ha qa => exact ⟨_, rfl, ⟨_, ha.sq⟩, q M1 H1 _ x1 r1 (itd_tup n ha qa)⟩
    · cases e
/-- range -/
def rngD (lo : Int) (n : Nat) : List D := (List.range n).map fun (i : Nat) => .int (lo + (i : Int))
theorem rngD_get {lo : Int} {n i : Nat} {d : D} (e : (rngD lo n)[i]? = some d) : i < n ∧ d = .int (lo + i) := by
  unfold rngD at e
  rw [List.getElem?_map] at e
  cases q : (List.range n)[i]? with
  | none => rw [q] at e; cases e
  | some j =>
    rw [q] at e
    obtain ⟨h1, h2⟩ := List.getElem?_eq_some_iff.mp q
    rw [List.length_range] at h1
    rw [List.getElem_range] at h2
    subst h2
    exact ⟨h1, by simpa using e.symm⟩
theorem itd_rng {M : Mm} {H : Hp} {lo : Int} {n : Nat} : ItD M H (Itr lo n) (rngD lo n) := fun M1 H1 x tr => by
  refine ⟨fun i d e => ?_, ?_⟩
  · obtain ⟨h1, rfl⟩ := rngD_get e
    exact ⟨h1, fun y H2 hy => by obtain ⟨e1, e2⟩ := hy; subst e1 e2; exact ⟨same_refl', .int _⟩⟩
  · show n ≤ _
    simp [rngD]
def rng1I (g : AM) : IM := fun ρ h => obnd (g ρ h) fun ws h1 => match ws with
  | [.dat (.int j)] => if -1000000000 ≤ j ∧ j ≤ 1000000000 then some (rngD 0 j.toNat, h1) else none
  | _ => none
def rng2I (g : AM) : IM := fun ρ h => obnd (g ρ h) fun ws h1 => match ws with
  | [.dat (.int i), .dat (.int j)] => if -1000000000 ≤ i ∧ i ≤ 1000000000 ∧ -1000000000 ≤ j ∧ j ≤ 1000000000 then some (rngD i (j - i).toNat, h1) else none
  | _ => none
theorem di_rng1 (hm : X.mg "range" = none) {a : Expr} {p pos : Pos} {g : AM} (ha : DA X [a] g) (hg : Gl X "range" := by rfl) (hs : starEach [a] X.env = [(false, eval a X.env)] := by rfl) : DI X tg (.Call (.Name "range" p) [a] [] pos) (rng1I g) := (pi_range1 hg hm ha hs).weak fun σ H R => by
  rintro ⟨M, h, ρ, ds, h', r, rs, e, q⟩
  unfold rng1I at e
  cases ef : g ρ h with
  | none => rw [ef] at e; cases e
  | some p =>
    obtain ⟨ws, h1⟩ := p
    rw [ef] at e
    simp only [obnd_some] at e
    split at e
    · split at e
      · rename_i hz
        cases e
        refine ⟨M, h, ρ, r, rs, _, _, ef, fun M1 H1 v x1 r1 v1 => ?_⟩
        obtain ⟨v, rfl, rv⟩ := rvs1 v1
        cases (show RD M1 H1 v _ from rv)
        exact ⟨_, rfl, by omega, by omega, q M1 H1 _ x1 r1 itd_rng⟩
      · cases e
    · cases e
theorem di_rng2 (hm : X.mg "range" = none) {a b : Expr} {p pos : Pos} {g : AM} (ha : DA X [a, b] g) (hg : Gl X "range" := by rfl) (hs : starEach [a, b] X.env = [(false, eval a X.env), (false, eval b X.env)] := by rfl) (hs2 : starEach [b] X.env = [(false, eval b X.env)] := by rfl) : DI X tg (.Call (.Name "range" p) [a, b] [] pos) (rng2I g) := (pi_range2 hg hm ha hs hs2).weak fun σ H R => by
  rintro ⟨M, h, ρ, ds, h', r, rs, e, q⟩
  unfold rng2I at e
  cases ef : g ρ h with
  | none => rw [ef] at e; cases e
  | some p =>
    obtain ⟨ws, h1⟩ := p
    rw [ef] at e
    simp only [obnd_some] at e
    split at e
    · split at e
      · rename_i hz
        cases e
        refine ⟨M, h, ρ, r, rs, _, _, ef, fun M1 H1 v x1 r1 v1 => ?_⟩
        obtain ⟨v, v', rfl, rv, rv'⟩ := rvs2 v1
        cases (show RD M1 H1 v _ from rv)
        cases (show RD M1 H1 v' _ from rv')
        exact ⟨_, _, rfl, ⟨by omega, by omega, by omega, by omega⟩, q M1 H1 _ x1 r1 itd_rng⟩
      · cases e
    · cases e
/-- enumerate of a list -/
def enumD : Nat → List D → List D
  | _, [] => []
  | i, d :: ds => .tuple [.int (i : Int), d] :: enumD (i + 1) ds
theorem enumD_get : ∀ {ds : List D} {k i : Nat} {d : D}, (enumD k ds)[i]? = some d → ∃ e, ds[i]? = some e ∧ d = .tuple [.int ((k + i : Nat) : Int), e]
  | [], _, _, _, e => by simp [enumD] at e
  | e :: ds, k, 0, d, h => by simp [enumD] at h; exact ⟨e, rfl, by rw [← h]; rfl⟩
  | e :: ds, k, i + 1, d, h => by
    obtain ⟨e', h1, h2⟩ := enumD_get (ds := ds) (k := k + 1) (i := i) (d := d) (by simpa [enumD] using h)
    exact ⟨e', by simpa using h1, by rw [h2, show k + 1 + i = k + (i + 1) by omega]⟩
theorem enumD_len : ∀ (k : Nat) (ds : List D), (enumD k ds).length = ds.length
  | _, [] => rfl
  | k, d :: ds => by simp [enumD, enumD_len (k + 1) ds]
theorem itd_enum {K : PySem.W.Frag} {M : Mm} {H : Hp} {a : Addr} {xs : List V} {ds : List D} (n : ¬ M.Has a) (ha : H a = some (.lst xs)) (q : RDs M H xs ds) : ItD M H (Ite K a) (enumD 0 ds) := fun M1 H1 x tr => by
  have ha1 := x.st n ha
  have q1 := q.mono x
  refine ⟨fun i d e => ?_, ⟨xs, .of ha1, by rw [q.length, enumD_len]; exact Nat.le_refl _⟩⟩
  obtain ⟨d', e', rfl⟩ := enumD_get e
  obtain ⟨v, ev, rv⟩ := q1.get e'
  refine ⟨⟨xs, v, .of ha1, ev⟩, fun y H2 hy => ?_⟩
  obtain ⟨T, z, rfl, nT, rfl, hz⟩ := hy
  have := hz xs (.of ha1)
  rw [ev] at this; cases this
  refine ⟨same_new nT, .tup (fun z => new_out tr nT z) (.inl ⟨rfl, upd_same⟩) (.cons ?_ (.cons (rv.mono (grow_ext (same_new nT))) .nil))⟩
  rw [Nat.zero_add]; exact .int _
def enumI (g : AM) : IM := fun ρ h => obnd (g ρ h) fun ws h1 => match ws with
  | [.dat (.list ds)] => some (enumD 0 ds, h1)
  | _ => none
theorem di_enum (hm : X.mg "enumerate" = none) {e : Expr} {elts : List Expr} {kk : Nat} {p pos tpos : Pos} {g : AM} (ha : DA X [e] g) (hg : Gl X "enumerate" := by rfl) (hs : starEach [e] X.env = [(false, eval e X.env)] := by rfl) : DI X (.Tuple elts kk tpos) (.Call (.Name "enumerate" p) [e] [] pos) (enumI g) := (pi_enum hg hm ha hs).weak fun σ H R => by
  rintro ⟨M, h, ρ, ds, h', r, rs, e, q⟩
  unfold enumI at e
  cases ef : g ρ h with
  | none => rw [ef] at e; cases e
  | some p =>
    obtain ⟨ws, h1⟩ := p
    rw [ef] at e
    simp only [obnd_some] at e
    split at e
    · cases e
      refine ⟨M, h, ρ, r, rs, _, _, ef, fun M1 H1 v x1 r1 v1 => ?_⟩
      obtain ⟨v, rfl, rv⟩ := rvs1 v1
      cases (show RD M1 H1 v _ from rv) with
      | lst n ha qa => exact ⟨_, _, rfl, .of ha, q M1 H1 _ x1 r1 (itd_enum n ha qa)⟩
    · cases e
/-- zip of two lists, of two tuples -/
def zipD : List D → List D → List D
  | x :: xs, y :: ys => .tuple [x, y] :: zipD xs ys
  | _, _ => []
theorem zipD_get : ∀ {xs ys : List D} {i : Nat} {d : D}, (zipD xs ys)[i]? = some d → ∃ x y, xs[i]? = some x ∧ ys[i]? = some y ∧ d = .tuple [x, y]
  | [], _, _, _, e => by simp [zipD] at e
  | _ :: _, [], _, _, e => by simp [zipD] at e
  | x :: xs, y :: ys, 0, d, e => by simp [zipD] at e; exact ⟨x, y, rfl, rfl, e.symm⟩
  | x :: xs, y :: ys, i + 1, d, e => by
    obtain ⟨a, b, h1, h2, h3⟩ := zipD_get (xs := xs) (ys := ys) (i := i) (d := d) (by simpa [zipD] using e)
    exact ⟨a, b, by simpa using h1, by simpa using h2, h3⟩
/-- no item of the zip is a lot of pairs of texts -/
def notCall : D → Bool
  | .tuple l => !callD l
  | _ => true
def zipOk (xs ys : List D) : Bool := (zipD xs ys).all notCall
theorem zipOk_get {xs ys : List D} {i : Nat} {l : List D} (ok : zipOk xs ys = true) (e : (zipD xs ys)[i]? = some (.tuple l)) : callD l = false := by
  have := List.all_eq_true.mp ok _ (List.mem_of_getElem? e)
  simpa [notCall] using this
theorem zipD_len : ∀ (xs ys : List D), (zipD xs ys).length = min xs.length ys.length
  | [], _ => by simp [zipD]
  | _ :: _, [] => by simp [zipD]
  | x :: xs, y :: ys => by simp only [zipD, List.length_cons, zipD_len xs ys]; omega
theorem itd_zip {K : PySem.W.Frag} {M : Mm} {H : Hp} {a b : Addr} {xs ys : List V} {ds es : List D} (n : ¬ M.Has a) (ha : H a = some (.lst xs)) (q : RDs M H xs ds) (n' : ¬ M.Has b) (hb : H b = some (.lst ys)) (q' : RDs M H ys es) (ok : zipOk ds es = true) : ItD M H (Itz K a b) (zipD ds es) := fun M1 H1 x tr => by
  have ha1 := x.st n ha
  have hb1 := x.st n' hb
  refine ⟨fun i d e => ?_, ⟨xs, ys, .of ha1, .of hb1, by rw [q.length, q'.length, zipD_len]; omega⟩⟩
  obtain ⟨d1, d2, e1, e2, rfl⟩ := zipD_get e
  obtain ⟨v, ev, rv⟩ := (q.mono x).get e1
  obtain ⟨v', ev', rv'⟩ := (q'.mono x).get e2
  refine ⟨⟨xs, ys, v, v', .of ha1, .of hb1, ev, ev'⟩, fun y H2 hy => ?_⟩
  obtain ⟨T, z, z', rfl, nT, rfl, hz, hz'⟩ := hy
  have t1 := hz xs (.of ha1)
  rw [ev] at t1; cases t1
  have t2 := hz' ys (.of hb1)
  rw [ev'] at t2; cases t2
  exact ⟨same_new nT, .tup (fun z => new_out tr nT z) (.inl ⟨zipOk_get ok e, upd_same⟩) (.cons (rv.mono (grow_ext (same_new nT))) (.cons (rv'.mono (grow_ext (same_new nT))) .nil))⟩
theorem itd_zipT {K : PySem.W.Frag} {M : Mm} {H : Hp} {a b : Addr} {xs ys : List V} {ds es : List D} (n : ¬ M.Has a) (ha : TupAt H a xs ds) (q : RDs M H xs ds) (n' : ¬ M.Has b) (hb : TupAt H b ys es) (q' : RDs M H ys es) (ok : zipOk ds es = true) : ItD M H (RZ.ItzT K a b) (zipD ds es) := fun M1 H1 x tr => by
  have ha1 := (ha.to fun _ z => x.st n z).sq (K := K)
  have hb1 := (hb.to fun _ z => x.st n' z).sq (K := K)
  refine ⟨fun i d e => ?_, ⟨xs, ys, ha1, hb1, by rw [q.length, q'.length, zipD_len]; omega⟩⟩
  obtain ⟨d1, d2, e1, e2, rfl⟩ := zipD_get e
  obtain ⟨v, ev, rv⟩ := (q.mono x).get e1
  obtain ⟨v', ev', rv'⟩ := (q'.mono x).get e2
  refine ⟨⟨xs, ys, v, v', ha1, hb1, ev, ev'⟩, fun y H2 hy => ?_⟩
  obtain ⟨T, z, z', rfl, nT, rfl, hz, hz'⟩ := hy
  have t1 := hz xs ha1
  rw [ev] at t1; cases t1
  have t2 := hz' ys hb1
  rw [ev'] at t2; cases t2
  exact ⟨same_new nT, .tup (fun z => new_out tr nT z) (.inl ⟨zipOk_get ok e, upd_same⟩) (.cons (rv.mono (grow_ext (same_new nT))) (.cons (rv'.mono (grow_ext (same_new nT))) .nil))⟩
def zipI (g : AM) : IM := fun ρ h => obnd (g ρ h) fun ws h1 => match ws with
  | [.dat (.list ds), .dat (.list es)] => if zipOk ds es = true then some (zipD ds es, h1) else none
  | [.dat (.tuple ds), .dat (.tuple es)] => if zipOk ds es = true then some (zipD ds es, h1) else none
  | _ => none
theorem di_zip (hm : X.mg "zip" = none) {e e2 : Expr} {elts : List Expr} {kk : Nat} {p pos tpos : Pos} {g : AM} (ha : DA X [e, e2] g) (hg : Gl X "zip" := by rfl) (hs : starEach [e, e2] X.env = (false, eval e X.env) :: starEach [e2] X.env := by rfl) (hpl : (backTo pos (starEach [e2] X.env)).any (·.1) = false := by rfl) :
    DI X (.Tuple elts kk tpos) (.Call (.Name "zip" p) [e, e2] [] pos) (zipI g) := (RZ.pi_zipA hg hm ha hs hpl).weak fun σ H R => by
  rintro ⟨M, h, ρ, ds, h', r, rs, e, q⟩
  unfold zipI at e
  cases ef : g ρ h with
  | none => rw [ef] at e; cases e
  | some p =>
    obtain ⟨ws, h1⟩ := p
    rw [ef] at e
    simp only [obnd_some] at e
    split at e
    · split at e
      rotate_left
      · cases e
      rename_i ok
      cases e
      refine ⟨M, h, ρ, r, rs, _, _, ef, fun M1 H1 v x1 r1 v1 => ?_⟩
      obtain ⟨v, v', rfl, rv, rv'⟩ := rvs2 v1
      cases (show RD M1 H1 v _ from rv) with
      | lst n ha qa =>
        cases (show RD M1 H1 v' _ from rv') with
        | lst n' hb qb => exact ⟨_, _, _, _, rfl, .inl ⟨.of ha, .of hb, q M1 H1 _ x1 r1 (itd_zip n ha qa n' hb qb ok)⟩⟩
    · split at e
      rotate_left
      · cases e
      rename_i ok
      cases e
      refine ⟨M, h, ρ, r, rs, _, _, ef, fun M1 H1 v x1 r1 v1 => ?_⟩
      obtain ⟨v, v', rfl, rv, rv'⟩ := rvs2 v1
      cases (show RD M1 H1 v _ from rv) with
      | tup n ha qa =>
        cases (show RD M1 H1 v' _ from rv') with
        | tup n' hb qb => exact ⟨_, _, _, _, rfl, .inr ⟨ha.sq, hb.sq, q M1 H1 _ x1 r1 (itd_zipT n ha qa n' hb qb ok)⟩⟩
    · cases e
/-- reversed of a list or a tuple -/
theorem itd_rev {K : PySem.W.Frag} {M : Mm} {H : Hp} {a : Addr} {xs : List V} {ds : List D} (n : ¬ M.Has a) (ha : H a = some (.lst xs)) (q : RDs M H xs ds) : ItD M H (Itv K a xs.length) ds.reverse := fun M1 H1 x tr => by
  have ha1 := x.st n ha
  refine ⟨fun i d e => ?_, by show xs.length ≤ _; rw [q.length, List.length_reverse]; exact Nat.le_refl _⟩
  have hi := lt_of_get e
  rw [List.length_reverse] at hi
  rw [List.getElem?_reverse hi] at e
  obtain ⟨v, ev, rv⟩ := (q.mono x).get e
  rw [← q.length] at ev
  refine ⟨⟨by rw [q.length]; exact hi, xs, v, .of ha1, ev⟩, fun y H2 hy => ?_⟩
  obtain ⟨e2, hy⟩ := hy
  subst e2
  have := hy xs (.of ha1)
  rw [ev] at this; cases this
  exact ⟨same_refl', rv⟩
theorem itd_revT {K : PySem.W.Frag} {M : Mm} {H : Hp} {a : Addr} {xs : List V} {ds : List D} (n : ¬ M.Has a) (ha : TupAt H a xs ds) (q : RDs M H xs ds) : ItD M H (RT.ItvT K a xs.length) ds.reverse := fun M1 H1 x tr => by
  have ha1 := (ha.to fun _ z => x.st n z).sq (K := K)
  refine ⟨fun i d e => ?_, by show xs.length ≤ _; rw [q.length, List.length_reverse]; exact Nat.le_refl _⟩
  have hi := lt_of_get e
  rw [List.length_reverse] at hi
  rw [List.getElem?_reverse hi] at e
  obtain ⟨v, ev, rv⟩ := (q.mono x).get e
  rw [← q.length] at ev
  refine ⟨⟨by rw [q.length]; exact hi, xs, v, ha1, ev⟩, fun y H2 hy => ?_⟩
  obtain ⟨e2, hy⟩ := hy
  subst e2
  have := hy xs ha1
  rw [ev] at this; cases this
  exact ⟨same_refl', rv⟩
def revI (f : EM) : IM := fun ρ h => obnd (f ρ h) fun w h1 => match w with
  | .dat (.list ds) => some (ds.reverse, h1)
  | .dat (.tuple ds) => some (ds.reverse, h1)
  | _ => none
theorem di_rev (hm : X.mg "reversed" = none) {e : Expr} {p pos : Pos} {f : EM} (he : DE X e f) (hg : Gl X "reversed" := by rfl) (hs : starEach [e] X.env = (false, eval e X.env) :: starEach [] X.env := by rfl) : DI X tg (.Call (.Name "reversed" p) [e] [] pos) (revI f) := (RT.pi_revA hg hm he hs).weak fun σ H R => by
  rintro ⟨M, h, ρ, ds, h', r, rs, e, q⟩
  unfold revI at e
  cases ef : f ρ h with
  | none => rw [ef] at e; cases e
  | some p =>
    obtain ⟨w, h1⟩ := p
    rw [ef] at e
    simp only [obnd_some] at e
    split at e
    · cases e
      refine ⟨M, h, ρ, r, rs, _, _, ef, fun M1 H1 v x1 r1 v1 => ?_⟩
      cases (show RD M1 H1 v _ from v1) with
      | lst n ha qa => exact ⟨_, _, rfl, .inl ⟨.of ha, q M1 H1 _ x1 r1 (itd_rev n ha qa)⟩⟩
    · cases e
      refine ⟨M, h, ρ, r, rs, _, _, ef, fun M1 H1 v x1 r1 v1 => ?_⟩
      cases (show RD M1 H1 v _ from v1) with
      | tup n ha qa => exact ⟨_, _, rfl, .inr ⟨ha.sq, q M1 H1 _ x1 r1 (itd_revT n ha qa)⟩⟩
    · cases e
/-- a text, sign by sign -/
def signs (z : Str) : List D := z.cps.toList.map fun c => .str ⟨#[c]⟩
def strI (f : EM) : IM := fun ρ h => obnd (f ρ h) fun w h1 => match w with
  | .dat (.str z) => some (signs z, h1)
  | _ => none
theorem itd_str {M : Mm} {H : Hp} {z : Str} : ItD M H (Its z) (signs z) := fun M1 H1 x tr => by
  refine ⟨fun i d e => ?_, by show z.cps.size ≤ _; simp [signs]⟩
  unfold signs at e
  rw [List.getElem?_map] at e
  cases q : z.cps.toList[i]? with
  | none => rw [q] at e; cases e
  | some c =>
    rw [q] at e
    have q' : z.cps[i]? = some c := by simpa using q
    have hi : i < z.cps.size := by simpa using lt_of_get q
    refine ⟨hi, fun y H2 hy => ?_⟩
    obtain ⟨e2, c', ec, rfl⟩ := hy
    subst e2
    rw [q'] at ec; cases ec
    have e' : PyData.str ⟨#[c]⟩ = d := by simpa using e
    subst e'
    exact ⟨same_refl', .str _⟩
theorem di_str {e : Expr} {f : EM} (he : DE X e f) : DI X tg e (strI f) := (pi_str he).weak fun σ H R => by
  rintro ⟨M, h, ρ, ds, h', r, rs, e, q⟩
  unfold strI at e
  cases ef : f ρ h with
  | none => rw [ef] at e; cases e
  | some p =>
    obtain ⟨w, h1⟩ := p
    rw [ef] at e
    simp only [obnd_some] at e
    split at e
    · cases e
      refine ⟨M, h, ρ, r, rs, _, _, ef, fun M1 H1 v x1 r1 v1 => ?_⟩
      cases (show RD M1 H1 v _ from v1)
      exact ⟨_, rfl, q M1 H1 _ x1 r1 itd_str⟩
    · cases e
end
end DL

set_option maxRecDepth 100000
set_option maxHeartbeats 4000000
namespace DL
open PySem PySem.Spec PyProof.Rows L2

/-! ### comprehensions -/
def wipeE (ρ : Env) : List Nat → Env
  | [] => ρ
  | v :: vs => (wipeE ρ vs).set v none
theorem wipeE_len (ρ : Env) : ∀ vs : List Nat, (wipeE ρ vs).length = ρ.length
  | [] => rfl
  | v :: vs => by unfold wipeE; rw [List.length_set, wipeE_len ρ vs]
theorem RS.none_at {M : Mm} {H : Hp} {ρ : Env} {σ : L2.St} (r : RS M H ρ σ) (i : Nat) : RS M H (ρ.set i none) (σ.set i none) := by
  refine ⟨by simp [r.1], fun j u e => ?_⟩
  by_cases hj : i = j
  · subst hj
    by_cases hi : i < ρ.length
    · rw [List.getElem?_set_self hi] at e; cases e
    · rw [List.getElem?_eq_none (by simpa using hi)] at e; cases e
  · rw [List.getElem?_set_ne hj] at e ⊢
    exact r.2 j u e
theorem RS.wipe {M : Mm} {H : Hp} {ρ : Env} {σ : L2.St} (r : RS M H ρ σ) : ∀ vs : List Nat, RS M H (wipeE ρ vs) (L2.wipe σ vs)
  | [] => r
  | v :: vs => (RS.wipe r vs).none_at v
theorem wipe_get (σ : L2.St) : ∀ (vs : List Nat) (j : Nat), (L2.wipe σ vs)[j]? = if j ∈ vs ∧ j < σ.length then some none else σ[j]?
  | [], j => by simp [L2.wipe]
  | v :: vs, j => by
    unfold L2.wipe
    by_cases hj : v = j
    · subst hj
      by_cases hl : v < σ.length
      · rw [List.getElem?_set_self (by rw [L2.wipe_length]; exact hl), if_pos ⟨List.mem_cons_self, hl⟩]
      · rw [List.getElem?_eq_none (by rw [List.length_set, L2.wipe_length]; omega), if_neg (fun z => hl z.2), List.getElem?_eq_none (by omega)]
    · rw [List.getElem?_set_ne hj, wipe_get σ vs j]
      have : j ∈ v :: vs ↔ j ∈ vs := by simp [Ne.symm hj]
      simp only [this]
theorem wipe_of {σ σ2 : L2.St} {ts vs : List Nat} (hl : σ2.length = σ.length) (ho : ∀ j, j ∉ ts → σ2[j]? = (L2.wipe σ vs)[j]?) (hs : ∀ j ∈ ts, j ∈ vs) : L2.wipe σ2 vs = L2.wipe σ vs := by
  refine List.ext_getElem? fun j => ?_
  rw [wipe_get, wipe_get, hl]
  by_cases h : j ∈ vs ∧ j < σ.length
  · rw [if_pos h, if_pos h]
  · rw [if_neg h, if_neg h]
    by_cases hj : j ∈ vs
    · have : σ.length ≤ j := Nat.le_of_not_lt fun z => h ⟨hj, z⟩
      rw [List.getElem?_eq_none (by omega), List.getElem?_eq_none this]
    · rw [ho j fun z => hj (hs j z), wipe_get, if_neg h]
def lcL (k : TM) (t : BM) (f : EM) (ρ : Env) : List D → Hh → Option (List D × Hh)
  | [], h => some ([], h)
  | d :: ds, h => match k (.dat d) ρ h with
    | some ρ1 => obnd (t ρ1 h) fun b h2 => if b = true then obnd (f ρ1 h2) fun w h3 => match w with
        | .dat d' => obnd (lcL k t f ρ ds h3) fun r h4 => some (d' :: r, h4)
        | _ => none
      else lcL k t f ρ ds h2
    | none => none
def fLc (m : Bool) (gi : IM) (k : TM) (t : BM) (f : EM) (vs : List Nat) : EM := fun ρ h => obnd (gi ρ h) fun ds h1 => obnd (lcL k t f (wipeE ρ vs) ds h1) fun r h2 => if r.length ≤ sizeLine then mkL m r h2 else none
def bYes : BM := fun _ h => some (true, h)
abbrev DTs (X : Cx) (ifs : List Expr) (t : BM) : Prop := PTs X ifs (tT t)
section
variable {X : Cx}
theorem _root_.L2.PTs.weak {X : Cx} {e : List Expr} {t t' : TT} (h : PTs X e t) (i : ∀ σ H Q, t' σ H Q → t σ H Q) : PTs X e t' := ⟨fun pins s σ H Q I q => h.run pins s σ H Q I (i σ H Q q)⟩
theorem dts_nil : DTs X [] bYes := pts_nil.weak fun σ H Q => by
  rintro ⟨M, h, ρ, r, rs, c⟩
  exact c.fin (.refl _ _) r rfl
theorem dts_one {c : Expr} {t : BM} (h : DT X c t) : DTs X [c] t := pts_one h
end
/-- the state with a thing in the making -/
def Mm.made (M : Mm) (p : Addr) : Mm := ⟨p :: M.u, M.m⟩
theorem ext_made {M : Mm} {H : Hp} {p : Addr} {o : HO} (n : H p = none) : Ext M (M.made p) H (upd H p o) :=
  ⟨fun a m => by
    rcases List.mem_cons.mp m with rfl | m
    · exact .inr n
    · exact .inl m, trk_upd, fun a u e _ => by rw [upd_ne (ne_of_none e n)]; exact e, fun _ m => .inl m, Nat.le_refl _, fun _ _ => .inl rfl⟩
theorem Rep.make {M : Mm} {H : Hp} {h : Hh} (r : Rep M H h) {p : Addr} {o : HO} (n : H p = none) : Rep (M.made p) (upd H p o) h := by
  refine ⟨fun a m => ?_, r.len, r.inj, fun i a e => ?_, r.dead⟩
  · rcases List.mem_cons.mp m with rfl | m
    · exact ⟨fun z => r.new n (.inr z), o, upd_same⟩
    · obtain ⟨h1, u, e⟩ := r.us a m
      exact ⟨h1, u, by rw [upd_ne (ne_of_none e n)]; exact e⟩
  · obtain ⟨u, hu, ro⟩ := r.at_ i a e
    obtain ⟨z, hz⟩ := ro.some_
    exact ⟨u, hu, ro.move (ext_made n) (upd_ne (ne_of_none hz n))⟩
/-- the thing in the making changes -/
theorem ext_mset {M : Mm} {H : Hp} {p : Addr} {o u : HO} (hp : p ∈ M.u) (e : H p = some u) : ∀ a w, H a = some w → a ≠ p → upd H p o a = some w := fun a w q n => by rw [upd_ne n]; exact q
mutual
theorem RD.off {M : Mm} {H : Hp} {p : Addr} {o : HO} (hp : p ∈ M.u) : ∀ {v : V} {d : D}, RD M H v d → RD M (upd H p o) v d
  | _, _, .non => .non
  | _, _, .bl b => .bl b
  | _, _, .int i => .int i
  | _, _, .str s => .str s
  | _, _, .tup n e r => .tup n (e.to fun _ q => by rw [upd_ne (fun z => n (.inl (by rw [z]; exact hp)))]; exact q) (RDs.off hp r)
  | _, _, .lst n e r => .lst n (by rw [upd_ne (fun z => n (.inl (by rw [z]; exact hp)))]; exact e) (RDs.off hp r)
  | _, _, .dic n e r => .dic n (by rw [upd_ne (fun z => n (.inl (by rw [z]; exact hp)))]; exact e) (RDk.off hp r)
  | _, _, .dit n e r => .dit n (by rw [upd_ne (fun z => n (.inl (by rw [z]; exact hp)))]; exact e) (RDt.off hp r)
theorem RDs.off {M : Mm} {H : Hp} {p : Addr} {o : HO} (hp : p ∈ M.u) : ∀ {v : List V} {d : List D}, RDs M H v d → RDs M (upd H p o) v d
  | _, _, .nil => .nil
  | _, _, .cons a r => .cons (RD.off hp a) (RDs.off hp r)
theorem RDk.off {M : Mm} {H : Hp} {p : Addr} {o : HO} (hp : p ∈ M.u) : ∀ {v : List (Key × V)} {d : List (D × D)}, RDk M H v d → RDk M (upd H p o) v d
  | _, _, .nil => .nil
  | _, _, .cons a r => .cons (RD.off hp a) (RDk.off hp r)
theorem RDt.off {M : Mm} {H : Hp} {p : Addr} {o : HO} (hp : p ∈ M.u) : ∀ {v : List (List Key × V)} {d : List (D × D)}, RDt M H v d → RDt M (upd H p o) v d
  | _, _, .nil => .nil
  | _, _, .cons a r => .cons (RD.off hp a) (RDt.off hp r)
end
theorem RO.off {M : Mm} {H : Hp} {p a : Addr} {o : HO} {m : MO} (hp : p ∈ M.u) (hn : a ≠ p) (r : RO M H a m) : RO M (upd H p o) a m := by
  cases m with
  | lst ds => obtain ⟨xs, h, r⟩ := r; exact ⟨xs, by rw [upd_ne hn]; exact h, r.off hp⟩
  | dic ds => obtain ⟨xs, h, r⟩ := r; exact ⟨xs, by rw [upd_ne hn]; exact h, r.off hp⟩
  | dit ds => obtain ⟨xs, h, r⟩ := r; exact ⟨xs, by rw [upd_ne hn]; exact h, r.off hp⟩
  | tab q P =>
    obtain ⟨z, ps, h, t, r⟩ := r
    refine ⟨z, ps, by rw [upd_ne hn]; exact h, t, fun pos cv hc => ?_⟩
    obtain ⟨c, e1, n, e2⟩ := r pos cv hc
    exact ⟨c, e1, n, by rw [upd_ne (fun z => n (.inl (by rw [z]; exact hp)))]; exact e2⟩
theorem Rep.off {M : Mm} {H : Hp} {h : Hh} (r : Rep M H h) {p : Addr} {o : HO} (hp : p ∈ M.u) : Rep M (upd H p o) h := by
  refine ⟨fun a m => ?_, r.len, r.inj, fun i a e => ?_, r.dead⟩
  · obtain ⟨h1, u, e⟩ := r.us a m
    exact ⟨h1, trk_upd a u e⟩
  · obtain ⟨u, hu, ro⟩ := r.at_ i a e
    exact ⟨u, hu, ro.off hp fun z => (r.us p hp).1 (by rw [← z]; exact List.mem_of_getElem? e)⟩
theorem RV.off {M : Mm} {H : Hp} {p : Addr} {o : HO} {v : V} (hp : p ∈ M.u) : ∀ {w : W}, RV M H v w → RV M (upd H p o) v w
  | .dat _, r => RD.off hp r
  | .ref _, r => r
  | .scr _, ⟨a, u, e, n, q⟩ => ⟨a, u, e, n, by rw [upd_ne (fun z => n (.inl (by rw [z]; exact hp)))]; exact q⟩
  | .pack _, ⟨a, u, e, n, q, r⟩ => ⟨a, u, e, n, by rw [upd_ne (fun z => n (.inl (by rw [z]; exact hp)))]; exact q, r.move (fun _ _ z => z) fun _ _ => RD.off hp⟩
theorem RS.off {M : Mm} {H : Hp} {ρ : Env} {σ : L2.St} {p : Addr} {o : HO} (hp : p ∈ M.u) (r : RS M H ρ σ) : RS M (upd H p o) ρ σ := ⟨r.1, fun i w e => by
  obtain ⟨v, e1, q⟩ := r.2 i w e
  exact ⟨v, e1, q.off hp⟩⟩
/-- slots under more that is in the making -/
theorem RV.moveu {M M' : Mm} {H H' : Hp} (x : Ext M M' H H') (hm : M'.m = M.m) {v : V} : ∀ {w : W}, RV M H v w → RV M' H' v w
  | .dat _, r => RD.mono x r
  | .ref n, ⟨a, e, r⟩ => ⟨a, by rw [hm]; exact e, r⟩
  | .scr ns, ⟨a, o, e, n, q⟩ => ⟨a, o, e, x.out n q, x.st n q⟩
  | .pack its, ⟨a, xs, e, n, q, r⟩ => ⟨a, xs, e, x.out n q, x.st n q, r.move (fun i b z => by rw [hm]; exact z) fun _ _ => RD.mono x⟩
theorem RS.moveu {M M' : Mm} {H H' : Hp} (x : Ext M M' H H') (hm : M'.m = M.m) {ρ : Env} {σ : L2.St} (r : RS M H ρ σ) : RS M' H' ρ σ := ⟨r.1, fun i w e => by
  obtain ⟨v, e1, q⟩ := r.2 i w e
  exact ⟨v, e1, q.moveu x hm⟩⟩
mutual
theorem RD.sub {M M' : Mm} {H : Hp} (x : ∀ a, M'.Has a → M.Has a) : ∀ {v : V} {d : D}, RD M H v d → RD M' H v d
  | _, _, .non => .non
  | _, _, .bl b => .bl b
  | _, _, .int i => .int i
  | _, _, .str s => .str s
  | _, _, .tup n e r => .tup (fun z => n (x _ z)) e (RDs.sub x r)
  | _, _, .lst n e r => .lst (fun z => n (x _ z)) e (RDs.sub x r)
  | _, _, .dic n e r => .dic (fun z => n (x _ z)) e (RDk.sub x r)
  | _, _, .dit n e r => .dit (fun z => n (x _ z)) e (RDt.sub x r)
theorem RDs.sub {M M' : Mm} {H : Hp} (x : ∀ a, M'.Has a → M.Has a) : ∀ {v : List V} {d : List D}, RDs M H v d → RDs M' H v d
  | _, _, .nil => .nil
  | _, _, .cons a r => .cons (RD.sub x a) (RDs.sub x r)
theorem RDk.sub {M M' : Mm} {H : Hp} (x : ∀ a, M'.Has a → M.Has a) : ∀ {v : List (Key × V)} {d : List (D × D)}, RDk M H v d → RDk M' H v d
  | _, _, .nil => .nil
  | _, _, .cons a r => .cons (RD.sub x a) (RDk.sub x r)
theorem RDt.sub {M M' : Mm} {H : Hp} (x : ∀ a, M'.Has a → M.Has a) : ∀ {v : List (List Key × V)} {d : List (D × D)}, RDt M H v d → RDt M' H v d
  | _, _, .nil => .nil
  | _, _, .cons a r => .cons (RD.sub x a) (RDt.sub x r)
end
theorem RO.sub {M M' : Mm} {H : Hp} {a : Addr} {m : MO} (x : ∀ a, M'.Has a → M.Has a) (r : RO M H a m) : RO M' H a m := by
  cases m with
  | lst ds => obtain ⟨xs, h, r⟩ := r; exact ⟨xs, h, r.sub x⟩
  | dic ds => obtain ⟨xs, h, r⟩ := r; exact ⟨xs, h, r.sub x⟩
  | dit ds => obtain ⟨xs, h, r⟩ := r; exact ⟨xs, h, r.sub x⟩
  | tab q P =>
    obtain ⟨z, ps, h, t, r⟩ := r
    refine ⟨z, ps, h, t, fun pos cv hc => ?_⟩
    obtain ⟨c, e1, n, e2⟩ := r pos cv hc
    exact ⟨c, e1, fun z => n (x _ z), e2⟩
theorem less_has {u : List Addr} {m : List (Option Addr)} {p : Addr} : ∀ b, Mm.Has ⟨u, m⟩ b → Mm.Has ⟨p :: u, m⟩ b := fun b z => by
  rcases z with z | z
  · exact .inl (List.mem_cons_of_mem _ z)
  · exact .inr z
/-- what was made is told by value -/
theorem Rep.told {u : List Addr} {m : List (Option Addr)} {p : Addr} {H : Hp} {h : Hh} (r : Rep ⟨p :: u, m⟩ H h) : Rep ⟨u, m⟩ H h :=
  ⟨fun a z => r.us a (List.mem_cons_of_mem _ z), r.len, r.inj, fun i a e => by
    obtain ⟨o, h1, h2⟩ := r.at_ i a e
    exact ⟨o, h1, h2.sub less_has⟩, r.dead⟩
/-- what was made may change -/
theorem Rep.owned {u : List Addr} {m : List (Option Addr)} {p : Addr} {H : Hp} {h : Hh} {o : MO} (r : Rep ⟨p :: u, m⟩ H h) (hp : p ∉ u) (ro : RO ⟨p :: u, m⟩ H p o) : Rep ⟨u, m ++ [some p]⟩ H (h ++ [some o]) := by
  have hpm : some p ∉ m := (r.us p List.mem_cons_self).1
  have hsub : ∀ b, Mm.Has ⟨u, m ++ [some p]⟩ b → Mm.Has ⟨p :: u, m⟩ b := fun b z => by
    rcases z with z | z
    · exact .inl (List.mem_cons_of_mem _ z)
    · rcases List.mem_append.mp z with z | z
      · exact .inr z
      · have : b = p := by simpa using z
        rw [this]; exact .inl List.mem_cons_self
  have rl : m.length = h.length := r.len
  have cases_ : ∀ (i : Nat) (z : Option Addr), (m ++ [some p])[i]? = some z → (i < m.length ∧ m[i]? = some z) ∨ (i = m.length ∧ z = some p) := fun i z e => by
    by_cases hi : i < m.length
    · rw [List.getElem?_append_left hi] at e
      exact .inl ⟨hi, e⟩
    · rw [List.getElem?_append_right (by omega)] at e
      by_cases h0 : i - m.length = 0
      · rw [h0] at e
        exact .inr ⟨by omega, by simpa using e.symm⟩
      · rw [List.getElem?_eq_none (by simp; omega)] at e
        cases e
  refine ⟨fun a z => ?_, by simp [rl], fun i j a e1 e2 => ?_, fun i a e => ?_, fun i e => ?_⟩
  · obtain ⟨h1, q⟩ := r.us a (List.mem_cons_of_mem _ z)
    refine ⟨fun y => ?_, q⟩
    rcases List.mem_append.mp y with y | y
    · exact h1 y
    · have : a = p := by simpa using y
      rw [this] at z; exact hp z
  · rcases cases_ i _ e1 with ⟨h1, e1⟩ | ⟨h1, e1⟩ <;> rcases cases_ j _ e2 with ⟨h2, e2⟩ | ⟨h2, e2⟩
    · exact r.inj i j a e1 e2
    · cases e2; exact absurd (List.mem_of_getElem? e1) hpm
    · cases e1; exact absurd (List.mem_of_getElem? e2) hpm
    · omega
  · rcases cases_ i _ e with ⟨h1, e1⟩ | ⟨h1, e1⟩
    · obtain ⟨z, hz, q⟩ := r.at_ i a e1
      exact ⟨z, by rw [List.getElem?_append_left (by rw [← rl]; exact h1)]; exact hz, q.sub hsub⟩
    · cases e1
      subst h1
      exact ⟨o, by rw [rl]; simp, ro.sub hsub⟩
  · rcases cases_ i _ e with ⟨h1, e1⟩ | ⟨h1, e1⟩
    · rw [List.getElem?_append_left (by rw [← rl]; exact h1)]
      exact r.dead i e1
    · cases e1
theorem ExtE.reu {M M' : Mm} {H H' : Hp} (x : ExtE M M' H H') (u : List Addr) : ExtE ⟨u, M.m⟩ ⟨u, M'.m⟩ H H' := ⟨rfl, x.trk, x.stab, x.fresh, x.len, x.pre⟩
/-- .. and what is made changes -/
theorem ExtE.beside {M M' : Mm} {H H' : Hp} {p : Addr} {o : HO} (x : ExtE M M' H H') (n : H p = none) : ExtE M M' H (upd H' p o) :=
  ⟨x.same, fun a u e => by obtain ⟨u', e'⟩ := x.trk a u e; exact trk_upd a u' e', fun a u e na => by rw [upd_ne (ne_of_none e n)]; exact x.stab a u e na, x.fresh, x.len, x.pre⟩
theorem ExtE.into {M : Mm} {m : List (Option Addr)} {H H' : Hp} {p : Addr} (x : ExtE M ⟨M.u, m⟩ H H') (n : H p = none) : Ext M ⟨p :: M.u, m⟩ H H' :=
  ⟨fun a z => by
    rcases List.mem_cons.mp z with rfl | z
    · exact .inr n
    · exact .inl z, x.trk, x.stab, x.fresh, x.len, fun i hi => .inl (x.pre i hi)⟩
theorem lc_imp {gi : IM} {k : TM} {t : BM} {f : EM} {ts vs : List Nat} {m : Bool} (hs : ∀ j ∈ ts, j ∈ vs) : ∀ σ H Q, tE (fLc m gi k t f vs) σ H Q → tLc (tI gi) (tGd ts k) (tT t) (tE f) vs σ H Q := fun σ H Q => by
  rintro ⟨M, h, ρ, r, rs, c⟩
  obtain ⟨ds, h1, e1, c1⟩ := Cont.bind (δ := Unit) c
  refine ⟨M, h, ρ, ds, h1, r, rs, e1, fun M1 H1 J x1 r1 it D nD => ?_⟩
  obtain ⟨out, h2, e2, c2⟩ := Cont.bind (δ := Unit) (c1 M1 H1 x1)
  have x0 := ext_made (M := M1) (o := .lst []) nD
  have r0 := r1.make (o := .lst []) nD
  have rs0 : RS (M1.made D) (upd H1 D (.lst [])) (wipeE ρ vs) (L2.wipe σ vs) := ((rs.mono x1).moveu x0 rfl).wipe vs
  let P : Nat → Hp → Prop := fun i Hi => ∃ mi hi acc dacc rest, ExtE M1 ⟨M1.u, mi⟩ H1 Hi ∧ Rep ⟨D :: M1.u, mi⟩ Hi hi ∧ RS ⟨D :: M1.u, mi⟩ Hi (wipeE ρ vs) (L2.wipe σ vs) ∧ Hi D = some (.lst acc) ∧ RDs ⟨D :: M1.u, mi⟩ Hi acc dacc ∧ lcL k t f (wipeE ρ vs) (ds.drop i) hi = some (rest, h2) ∧ dacc ++ rest = out
  have outlen : out.length ≤ sizeLine := by
    have c3 := c2 M1 H1 (.refl _ _)
    by_cases hz : out.length ≤ sizeLine
    · exact hz
    · rw [if_neg hz] at c3; exact c3.no.elim
  refine ⟨fun i n Hi => n + i = ds.length ∧ P i Hi, ⟨ds.length, by omega, M1.m, h1, [], [], out, (ExtE.refl M1 H1).beside nD, r0, rs0, upd_same, .nil, by rw [List.drop_zero]; exact e2, rfl⟩, fun i n Hi w => ?_⟩
  obtain ⟨hn, mi, hi, acc, dacc, rest, xi, ri, rsi, hD, qa, el, eo⟩ := w
  have inD : D ∈ (⟨D :: M1.u, mi⟩ : Mm).u := List.mem_cons_self
  have itx := xi.into nD
  obtain ⟨ity, its⟩ := it _ Hi itx fun a ha => ri.tracked ha
  by_cases hlt : i < ds.length
  · refine .inr ?_
    have ed : ds[i]? = some ds[i] := List.getElem?_eq_getElem hlt
    obtain ⟨go, yl⟩ := ity i _ ed
    rw [List.drop_eq_getElem_cons hlt] at el
    refine ⟨go, P (i + 1), fun H' p => ⟨n - 1, by omega, by omega, p⟩, fun x H2 hy => ?_⟩
    obtain ⟨sm, rx⟩ := yl x H2 hy
    obtain ⟨ri2, xi2⟩ := ri.grow sm
    unfold lcL at el
    split at el
    · rename_i ρ1 ek
      refine ⟨_, hi, wipeE ρ vs, .dat ds[i], ρ1, ri2, rsi.mono xi2, rx, ek, fun σ2 rs2 l2 o2 => ⟨wipe_of (by rw [l2, L2.wipe_length]) o2 hs, ?_⟩⟩
      cases et : t ρ1 hi with
      | none => rw [et] at el; cases el
      | some pr =>
        obtain ⟨b, h3⟩ := pr
        rw [et] at el
        simp only [obnd_some] at el
        refine ⟨_, hi, ρ1, ri2, rs2, b, h3, et, fun M3 H3 b' x3 r3 eb => ?_⟩
        subst eb
        obtain ⟨u3, m3⟩ := M3
        obtain rfl : u3 = D :: M1.u := x3.same
        have xi3 : ExtE M1 ⟨M1.u, m3⟩ H1 H3 := xi.trans ((xi2.trans x3).reu M1.u)
        have hD3 : H3 D = some (.lst acc) := x3.stab _ _ (sm _ _ hD) fun z => (ri.us D inD).1 z
        cases b' with
        | false =>
          simp only [Bool.false_eq_true, if_false] at el
          exact iteF ⟨m3, h3, acc, dacc, rest, xi3, r3, (rsi.mono xi2).mono x3, hD3, (qa.mono xi2.ext).mono x3.ext, el, eo⟩
        | true =>
          simp only [if_true] at el
          refine iteT ?_
          cases ef : f ρ1 h3 with
          | none => rw [ef] at el; cases el
          | some pr =>
            obtain ⟨w, h4⟩ := pr
            rw [ef] at el
            simp only [obnd_some] at el
            refine ⟨_, h3, ρ1, r3, rs2.mono x3, w, h4, ef, fun M4 H4 y x4 r4 ry => ?_⟩
            obtain ⟨u4, m4⟩ := M4
            obtain rfl : u4 = D :: M1.u := x4.same
            have hD4 : H4 D = some (.lst acc) := x4.stab _ _ hD3 fun z => (r3.us D List.mem_cons_self).1 z
            split at el
            · rename_i d'
              cases er : lcL k t f (wipeE ρ vs) (ds.drop (i + 1)) h4 with
              | none => rw [er] at el; cases el
              | some pr =>
                obtain ⟨rest', h5⟩ := pr
                rw [er] at el
                simp only [obnd_some, Option.some.injEq, Prod.mk.injEq] at el
                obtain ⟨e5, e6⟩ := el
                subst e5 e6
                have q4 := ((qa.mono xi2.ext).mono x3.ext).mono x4.ext
                have hlen : acc.length < sizeLine := by
                  have h7 := congrArg List.length eo
                  rw [List.length_append, List.length_cons] at h7
                  rw [qa.length]; omega
                have in4 : D ∈ (⟨D :: M1.u, m4⟩ : Mm).u := List.mem_cons_self
                exact ⟨acc, hD4, hlen, m4, h4, acc ++ [y], dacc ++ [d'], rest', (xi3.trans (x4.reu M1.u)).beside nD, r4.off in4, (((rsi.mono xi2).mono x3).mono x4).off in4, upd_same, (q4.off in4).app (.cons (RD.off in4 ry) .nil), er, by rw [List.append_assoc]; exact eo⟩
            · cases el
    · cases el
  · refine .inl ?_
    have hi' : i = ds.length := by omega
    subst hi'
    rw [List.drop_length] at el
    cases el
    rw [List.append_nil] at eo
    subst eo
    refine ⟨its, ?_⟩
    have c3 := c2 M1 H1 (.refl _ _)
    rw [if_pos outlen] at c3
    have nu : D ∉ M1.u := fun z => r1.new nD (.inl z)
    have nm : some D ∉ mi := (ri.us D inD).1
    cases m with
    | false =>
      exact c3.fin xi ri.told (RD.lst (fun z => z.elim nu nm) hD (qa.sub less_has))
    | true =>
      refine c3.fin (M' := ⟨M1.u, mi ++ [some D]⟩) ⟨rfl, xi.trk, xi.stab, fun a z => ?_, Nat.le_trans xi.len (by simp), fun j hj => ?_⟩ (ri.owned nu ⟨acc, hD, qa⟩) ⟨D, ?_, rfl⟩
      · rcases List.mem_append.mp z with z | z
        · exact xi.fresh a z
        · have : a = D := by simpa using z
          rw [this]; exact .inr nD
      · have hl : j < mi.length := Nat.lt_of_lt_of_le hj xi.len
        show (mi ++ [some D])[j]? = _
        rw [List.getElem?_append_left hl]; exact xi.pre j hj
      · show (mi ++ [some D])[h2.length]? = _
        rw [← show mi.length = h2.length from ri.len]; simp
section
variable {X : Cx}
theorem d_lc (m : Bool) {elt tg iter : Expr} {ifs : List Expr} {scope : Scope} {own : List (Str × Nat)} {pos : Pos} {gi : IM} {ts : List Nat} {k : TM} {t : BM} {f : EM} (hc : X.calm = true) (hN : X.N.Nodup) (hi : DI X tg iter gi) (ok : BlkOk X.N X.env.scope scope own)
    (hg : ∀ (s : Shared) (H : Hp) (C : Addr) (cl : List (Str × Addr)) (fp : List Addr), DG (X.blk s H scope (compEnvC scope cl C X.env) fp) tg ts k) (ht : ∀ (s : Shared) (H : Hp) (C : Addr) (cl : List (Str × Addr)) (fp : List Addr), DTs (X.blk s H scope (compEnvC scope cl C X.env) fp) ifs t)
    (he : ∀ (s : Shared) (H : Hp) (C : Addr) (cl : List (Str × Addr)) (fp : List Addr), DE (X.blk s H scope (compEnvC scope cl C X.env) fp) elt f) (hsub : ∀ j ∈ ts, j ∈ own.map (·.2)) (hs : ∀ x, foldedSetIterable iter X.env x = pure x := by intro _; rfl) :
    DE X (.ListComp elt [⟨tg, iter, ifs, 0⟩] scope pos) (fLc m gi k t f (own.map (·.2))) := (pe_lc hc hN hi ok hg ht he hs).weak (lc_imp hsub)
end
end DL

set_option maxRecDepth 100000
set_option maxHeartbeats 4000000
namespace DL
open PySem PySem.Spec PyProof.Rows L2

/-! ### statements -/
inductive Out where
  | nx (ρ : Env) | rt (w : W) | bk (ρ : Env) | ct (ρ : Env)
abbrev SM := Env → Hh → Option (Out × Hh)
def SPost (D : Ends) (M0 : Mm) (H0 : Hp) (r : Option (Out × Hh)) : Prop := match r with
  | some (.nx ρ, h) => ∀ M H σ, M.u = M0.u → Ext M0 M H0 H → Rep M H h → RS M H ρ σ → D.nx σ H
  | some (.rt w, h) => ∀ M H v, M.u = M0.u → Ext M0 M H0 H → Rep M H h → RV M H v w → D.rt v H
  | some (.bk ρ, h) => ∀ M H σ, M.u = M0.u → Ext M0 M H0 H → Rep M H h → RS M H ρ σ → D.bk σ H
  | some (.ct ρ, h) => ∀ M H σ, M.u = M0.u → Ext M0 M H0 H → Rep M H h → RS M H ρ σ → D.ct σ H
  | none => False
theorem SPost.mono {D : Ends} {M0 M1 : Mm} {H0 H1 : Hp} {r : Option (Out × Hh)} (p : SPost D M0 H0 r) (u : M1.u = M0.u) (x : Ext M0 M1 H0 H1) : SPost D M1 H1 r := by
  match r, p with
  | some (.nx ρ, h), p => exact fun M H σ e y => p M H σ (e.trans u) (x.trans y)
  | some (.rt w, h), p => exact fun M H σ e y => p M H σ (e.trans u) (x.trans y)
  | some (.bk ρ, h), p => exact fun M H σ e y => p M H σ (e.trans u) (x.trans y)
  | some (.ct ρ, h), p => exact fun M H σ e y => p M H σ (e.trans u) (x.trans y)
def tS (f : SM) : TS := fun D σ H => ∃ M h ρ, Rep M H h ∧ RS M H ρ σ ∧ SPost D M H (f ρ h)
abbrev DS (X : Cx) (st : Stmt) (f : SM) : Prop := PS X st (tS f)
abbrev DSs (X : Cx) (sts : List Stmt) (f : SM) : Prop := PSs X sts (tS f)
def sSeq (f g : SM) : SM := fun ρ h => match f ρ h with
  | some (.nx ρ1, h1) => g ρ1 h1
  | r => r
def sSkip : SM := fun ρ h => some (.nx ρ, h)
def sNever : SM := fun _ _ => none
section
variable {X : Cx}
theorem seq_imp {f g : SM} : ∀ D σ H, tS (sSeq f g) D σ H → tSeq (tS f) (tS g) D σ H := fun D σ H => by
  rintro ⟨M, h, ρ, r, rs, p⟩
  refine ⟨M, h, ρ, r, rs, ?_⟩
  unfold sSeq at p
  cases e : f ρ h with
  | none => rw [e] at p; exact p
  | some q =>
    obtain ⟨o, h1⟩ := q
    rw [e] at p
    cases o with
    | nx ρ1 => exact fun M1 H1 σ1 u x r1 rs1 => ⟨M1, h1, ρ1, r1, rs1, p.mono u x⟩
    | rt w => exact p
    | bk ρ1 => exact p
    | ct ρ1 => exact p
theorem ds_cons {st : Stmt} {sts : List Stmt} {f g : SM} (h1 : DS X st f) (h2 : DSs X sts g) : DSs X (st :: sts) (sSeq f g) := (pss_cons h1 h2).weak seq_imp
theorem ds_one {st : Stmt} {f : SM} (h1 : DS X st f) : DSs X [st] f := pss_one h1
theorem ds_nil : DSs X [] sSkip := pss_nil.weak fun D σ H => by
  rintro ⟨M, h, ρ, r, rs, p⟩
  exact p M H σ rfl (.refl _ _) r rs
theorem ds_never {st : Stmt} : DS X st sNever := ps_never.weak fun D σ H => by
  rintro ⟨M, h, ρ, r, rs, p⟩
  exact p
theorem ds_pass {pos : Pos} : DS X (.Pass pos) sSkip := ps_pass.weak fun D σ H => by
  rintro ⟨M, h, ρ, r, rs, p⟩
  exact p M H σ rfl (.refl _ _) r rs
def sBrk : SM := fun ρ h => some (.bk ρ, h)
def sCnt : SM := fun ρ h => some (.ct ρ, h)
theorem ds_break {pos : Pos} : DS X (.Break pos) sBrk := ps_break.weak fun D σ H => by
  rintro ⟨M, h, ρ, r, rs, p⟩
  exact p M H σ rfl (.refl _ _) r rs
theorem ds_continue {pos : Pos} : DS X (.Continue pos) sCnt := ps_continue.weak fun D σ H => by
  rintro ⟨M, h, ρ, r, rs, p⟩
  exact p M H σ rfl (.refl _ _) r rs
def sbnd {α : Type} (r : Option (α × Hh)) (k : α → Hh → Option (Out × Hh)) : Option (Out × Hh) := match r with
  | some (a, h) => k a h
  | none => none
@[simp] theorem sbnd_some {α : Type} (a : α) (h : Hh) (k : α → Hh → Option (Out × Hh)) : sbnd (some (a, h)) k = k a h := rfl
@[simp] theorem sbnd_none {α : Type} (k : α → Hh → Option (Out × Hh)) : sbnd none k = none := rfl
theorem SPost.bind {α : Type} {D : Ends} {M : Mm} {H : Hp} {r : Option (α × Hh)} {k : α → Hh → Option (Out × Hh)} (p : SPost D M H (sbnd r k)) : ∃ a h1, r = some (a, h1) ∧ SPost D M H (k a h1) := by
  cases r with
  | none => exact p.elim
  | some q => obtain ⟨a, h1⟩ := q; exact ⟨a, h1, rfl, p⟩
def sExpr (f : EM) : SM := fun ρ h => sbnd (f ρ h) fun _ h1 => some (.nx ρ, h1)
theorem ds_expr {e : Expr} {pos : Pos} {f : EM} (he : DE X e f) (hs : swapsWith e none pos.line X.env = pure false := by rfl) : DS X (.Expr e pos) (sExpr f) := (ps_expr he hs).weak fun D σ H => by
  rintro ⟨M, h, ρ, r, rs, p⟩
  obtain ⟨w, h1, e1, p1⟩ := p.bind
  exact ⟨M, h, ρ, r, rs, w, h1, e1, fun M1 H1 v x1 r1 v1 => p1 M1 H1 σ x1.same x1.ext r1 (rs.mono x1)⟩
def sRet (f : EM) : SM := fun ρ h => sbnd (f ρ h) fun w h1 => some (.rt w, h1)
theorem ds_ret {e : Expr} {pos : Pos} {f : EM} (he : DE X e f) : DS X (.Return (some e) pos) (sRet f) := (ps_ret he).weak fun D σ H => by
  rintro ⟨M, h, ρ, r, rs, p⟩
  obtain ⟨w, h1, e1, p1⟩ := p.bind
  exact ⟨M, h, ρ, r, rs, w, h1, e1, fun M1 H1 v x1 r1 v1 => p1 M1 H1 v x1.same x1.ext r1 v1⟩
def sRetN : SM := fun _ h => some (.rt (.dat .none), h)
theorem ds_retN {pos : Pos} : DS X (.Return none pos) sRetN := ps_retN.weak fun D σ H => by
  rintro ⟨M, h, ρ, r, rs, p⟩
  exact p M H _ rfl (.refl _ _) r .non
def sIf (t : BM) (f g : SM) : SM := fun ρ h => sbnd (t ρ h) fun b h1 => if b = true then f ρ h1 else g ρ h1
theorem ds_if {c : Expr} {a b : List Stmt} {pos : Pos} {t : BM} {f g : SM} (hc : DT X c t) (ha : DSs X a f) (hb : DSs X b g) : DS X (.If c a b pos) (sIf t f g) := (ps_if hc ha hb).weak fun D σ H => by
  rintro ⟨M, h, ρ, r, rs, p⟩
  obtain ⟨w, h1, e1, p1⟩ := p.bind
  refine ⟨M, h, ρ, r, rs, w, h1, e1, fun M1 H1 v x1 r1 v1 => ?_⟩
  subst v1
  have p2 := p1.mono x1.same x1.ext
  cases v with
  | true => exact iteT ⟨M1, h1, ρ, r1, rs.mono x1, p2⟩
  | false => exact iteF ⟨M1, h1, ρ, r1, rs.mono x1, p2⟩
/-- a store to targets -/
def sAsg (f : EM) (g : TM) : SM := fun ρ h => sbnd (f ρ h) fun w h1 => match g w ρ h1 with
  | some ρ1 => some (.nx ρ1, h1)
  | none => none
theorem asg_imp {f : EM} {g : TM} {ts : List Nat} : ∀ D σ H, tS (sAsg f g) D σ H → tAsg (tE f) (tGd ts g) D σ H := fun D σ H => by
  rintro ⟨M, h, ρ, r, rs, p⟩
  obtain ⟨w, h1, e1, p1⟩ := p.bind
  refine ⟨M, h, ρ, r, rs, w, h1, e1, fun M1 H1 v x1 r1 v1 => ?_⟩
  split at p1
  · rename_i ρ1 e2
    exact ⟨M1, h1, ρ, w, ρ1, r1, rs.mono x1, v1, e2, fun σ' rs' _ _ => p1 M1 H1 σ' x1.same x1.ext r1 rs'⟩
  · exact p1.elim
theorem ds_asg {tg e : Expr} {pos : Pos} {f : EM} {g : TM} {ts : List Nat} (he : DE X e f) (hg : DG X tg ts g) (hs : swapsWithSole [tg] e pos.line X.env = pure false := by rfl) (hw : swappedStores [tg] e X.env = pure none := by rfl) (h1 : (assignEach [tg] X.env).map (·.2) = [assign tg X.env] := by rfl) : DS X (.Assign [tg] e pos) (sAsg f g) := (ps_asg he hg hs hw h1).weak asg_imp
theorem ds_set {i : Nat} {x : Str} {e : Expr} {pos pos' : Pos} {f : EM} (h : PS X (.Assign [.Name x pos'] e pos) (tAsg (tE f) (gName i))) : DS X (.Assign [.Name x pos'] e pos) (sAsg f (gN i)) := h.weak fun D σ H => by
  rintro ⟨M, h, ρ, r, rs, p⟩
  obtain ⟨w, h1, e1, p1⟩ := p.bind
  exact ⟨M, h, ρ, r, rs, w, h1, e1, fun M1 H1 v x1 r1 v1 => p1 M1 H1 _ x1.same x1.ext r1 ((rs.mono x1).set v1)⟩
/-- y = [..], a local, on one line -/
theorem ds_setLc (m : Bool) {i : Nat} {y : Str} {py : Pos} {elt tg iter : Expr} {ifs : List Expr} {scope : Scope} {own : List (Str × Nat)} {pos spos : Pos} {gi : IM} {ts : List Nat} {k : TM} {t : BM} {f : EM} (hc : X.calm = true) (hN : X.N.Nodup) (hy : X.N[i]? = some y) (hyl : X.env.scope.names.lookup y = some .local)
    (hsw : swapsWith (.ListComp elt [⟨tg, iter, ifs, 0⟩] scope pos) (some (.Name y py)) spos.line X.env = pure true) (hi : DI X tg iter gi) (ok : BlkOk X.N X.env.scope scope own)
    (hg : ∀ (s : Shared) (H : Hp) (C : Addr) (cl : List (Str × Addr)) (fp : List Addr), DG (X.blk s H scope (compEnvC scope cl C X.env) fp) tg ts k) (ht : ∀ (s : Shared) (H : Hp) (C : Addr) (cl : List (Str × Addr)) (fp : List Addr), DTs (X.blk s H scope (compEnvC scope cl C X.env) fp) ifs t)
    (he : ∀ (s : Shared) (H : Hp) (C : Addr) (cl : List (Str × Addr)) (fp : List Addr), DE (X.blk s H scope (compEnvC scope cl C X.env) fp) elt f) (hsub : ∀ j ∈ ts, j ∈ own.map (·.2)) (hs : ∀ x, foldedSetIterable iter X.env x = pure x := by intro _; rfl) :
    DS X (.Assign [.Name y py] (.ListComp elt [⟨tg, iter, ifs, 0⟩] scope pos) spos) (sAsg (fLc m gi k t f (own.map (·.2))) (gN i)) := (ps_setLc hc hN hy hyl hsw hi ok hg ht he hs).weak fun D σ H => by
  rintro ⟨M, h, ρ, r, rs, p⟩
  obtain ⟨w, h1, e1, p1⟩ := p.bind
  exact lc_imp hsub σ H _ ⟨M, h, ρ, r, rs, w, h1, e1, fun M1 H1 v x1 r1 v1 => p1 M1 H1 _ x1.same x1.ext r1 ((rs.mono x1).set v1)⟩
/-- a, b = e1, e2 without a tuple; three -/
def sPar (g : AM) (is : List Nat) : SM := fun ρ h => sbnd (g ρ h) fun ws h1 => if ws.length = is.length then some (.nx ((is.zip ws).foldl (fun ρ p => ρ.set p.1 (some p.2)) ρ), h1) else none
theorem ds_par2 {i j : Nat} {st : Stmt} {g : AM} (h : PS X st (tPar i j (tA g))) : DS X st (sPar g [i, j]) := h.weak fun D σ H => by
  rintro ⟨M, h, ρ, r, rs, p⟩
  obtain ⟨ws, h1, e1, p1⟩ := p.bind
  refine ⟨M, h, ρ, r, rs, ws, h1, e1, fun M1 H1 vs x1 r1 v1 => ?_⟩
  split at p1
  · rename_i hz
    match ws, hz, v1, p1 with
    | [w1, w2], _, v1, p1 =>
      obtain ⟨a, b, rfl, ra, rb⟩ := rvs2 v1
      exact ⟨a, b, rfl, p1 M1 H1 _ x1.same x1.ext r1 (((rs.mono x1).set ra).set rb)⟩
  · exact p1.elim
/-- o[i] = e, a list that may change -/
def setW (o i : W) (w : W) (h : Hh) : Option Hh := match o, i, w with
  | .ref n, .dat (.int k), .dat d => match lstAt h n with
    | some ds => match ixN ds.length k with
      | some j => some (h.set n (some (.lst (ds.set j d))))
      | none => none
    | none => none
  | _, _, _ => none
def sSub (f o i : EM) : SM := fun ρ h => sbnd (f ρ h) fun w h1 => sbnd (o ρ h1) fun a h2 => sbnd (i ρ h2) fun b h3 => match setW a b w h3 with
  | some h4 => some (.nx ρ, h4)
  | none => none
theorem sub_imp {f o i : EM} : ∀ D σ H, tS (sSub f o i) D σ H → tAsg (tE f) (gSub (tE o) (tE i) rSetL) D σ H := fun D σ H => by
  rintro ⟨M, h, ρ, r, rs, p⟩
  obtain ⟨w, h1, e1, p1⟩ := p.bind
  refine ⟨M, h, ρ, r, rs, w, h1, e1, fun M1 H1 v x1 r1 v1 => ?_⟩
  obtain ⟨a, h2, e2, p2⟩ := p1.bind
  refine ⟨M1, h1, ρ, r1, rs.mono x1, a, h2, e2, fun M2 H2 v' x2 r2 v2 => ?_⟩
  obtain ⟨b, h3, e3, p3⟩ := p2.bind
  refine ⟨M2, h2, ρ, r2, (rs.mono x1).mono x2, b, h3, e3, fun M3 H3 v'' x3 r3 v3 => ?_⟩
  have ra := v2.mono x3
  have rw' := (v1.mono x2).mono x3
  unfold setW at p3
  split at p3
  · rename_i h4 e4
    split at e4
    · rename_i n k d
      obtain ⟨ad, ea, rfl⟩ := ra
      cases (show RD M3 H3 _ _ from v3)
      split at e4
      · rename_i ds el
        obtain ⟨xs, hx, q⟩ := lstAt_ok r3 el ea
        split at e4
        · rename_i j ej
          cases e4
          refine ⟨ad, xs, k, j, rfl, rfl, hx, by rw [q.length]; exact ej, ?_⟩
          have x4 := ext_set (H := H3) (o := .lst (xs.set j v)) ea
          have xx := ((x1.trans x2).trans x3).trans x4
          exact p3 M3 _ σ xx.same xx.ext (r3.set ea ⟨_, upd_same, (q.set j rw').mono x4.ext⟩) (rs.mono xx)
        · cases e4
      · cases e4
    · cases e4
  · exact p3.elim
theorem ds_sub {o i e : Expr} {pos tpos : Pos} {f fo fi : EM} (he : DE X e f) (ho : DE X o fo) (hi : DE X i fi) (h : PS X (.Assign [.Subscript o i tpos] e pos) (tAsg (tE f) (gSub (tE fo) (tE fi) rSetL))) : DS X (.Assign [.Subscript o i tpos] e pos) (sSub f fo fi) := h.weak sub_imp

/-! ### for, while -/
def forL (k : TM) (body : SM) : List D → Env → Hh → Option (Out × Hh)
  | [], ρ, h => some (.nx ρ, h)
  | d :: ds, ρ, h => match k (.dat d) ρ h with
    | some ρ1 => match body ρ1 h with
      | some (.nx ρ2, h2) => forL k body ds ρ2 h2
      | some (.ct ρ2, h2) => forL k body ds ρ2 h2
      | some (.bk ρ2, h2) => some (.nx ρ2, h2)
      | some (.rt w, h2) => some (.rt w, h2)
      | none => none
    | none => none
def sFor (gi : IM) (k : TM) (body : SM) : SM := fun ρ h => sbnd (gi ρ h) fun ds h1 => forL k body ds ρ h1
theorem for_imp {gi : IM} {k : TM} {body : SM} {ts : List Nat} : ∀ D σ H, tS (sFor gi k body) D σ H → tFor (tI gi) (tGd ts k) (tS body) D σ H := fun D σ H => by
  rintro ⟨M, h, ρ, r, rs, p⟩
  obtain ⟨ds, h1, e1, p1⟩ := p.bind
  refine ⟨M, h, ρ, ds, h1, r, rs, e1, fun M1 H1 J x1 r1 it => ?_⟩
  have p2 := p1.mono x1.same x1.ext
  let P : Nat → L2.St → Hp → Prop := fun i σi Hi => ∃ Mi hi ρi, Mi.u = M1.u ∧ Ext M1 Mi H1 Hi ∧ Rep Mi Hi hi ∧ RS Mi Hi ρi σi ∧ SPost D Mi Hi (forL k body (ds.drop i) ρi hi)
  refine ⟨fun i n σi Hi => n + i = ds.length ∧ P i σi Hi, ⟨ds.length, by omega, M1, h1, ρ, rfl, .refl _ _, r1, rs.mono x1, by rw [List.drop_zero]; exact p2⟩, fun i n σi Hi w => ?_⟩
  obtain ⟨hn, Mi, hi, ρi, ui, xi, ri, rsi, pi⟩ := w
  obtain ⟨ity, its⟩ := it Mi Hi xi fun a ha => ri.tracked ha
  by_cases hlt : i < ds.length
  · refine .inr ?_
    have ed : ds[i]? = some ds[i] := List.getElem?_eq_getElem hlt
    obtain ⟨go, yl⟩ := ity i _ ed
    rw [List.drop_eq_getElem_cons hlt] at pi
    refine ⟨go, P (i + 1), fun σ' H' q => ⟨n - 1, by omega, by omega, q⟩, fun x H2 hy => ?_⟩
    obtain ⟨sm, rx⟩ := yl x H2 hy
    obtain ⟨ri2, xi2⟩ := ri.grow sm
    unfold forL at pi
    split at pi
    · rename_i ρ1 ek
      refine ⟨Mi, hi, ρi, .dat ds[i], ρ1, ri2, rsi.mono xi2, rx, ek, fun σ2 rs2 _ _ => ⟨Mi, hi, ρ1, ri2, rs2, ?_⟩⟩
      have pi' := pi.mono rfl xi2.ext
      cases eb : body ρ1 hi with
      | none => rw [eb] at pi'; exact pi'.elim
      | some q =>
        obtain ⟨o, h3⟩ := q
        rw [eb] at pi'
        cases o with
        | nx ρ2 => exact fun M3 H3 σ3 u3 x3 r3 rs3 => ⟨M3, h3, ρ2, u3.trans ui, (xi.trans xi2.ext).trans x3, r3, rs3, SPost.mono pi' u3 x3⟩
        | ct ρ2 => exact fun M3 H3 σ3 u3 x3 r3 rs3 => ⟨M3, h3, ρ2, u3.trans ui, (xi.trans xi2.ext).trans x3, r3, rs3, SPost.mono pi' u3 x3⟩
        | bk ρ2 => exact pi'
        | rt w => exact pi'
    · exact pi.elim
  · refine .inl ?_
    have hi' : i = ds.length := by omega
    subst hi'
    rw [List.drop_length] at pi
    exact ⟨its, pi Mi Hi σi rfl (.refl _ _) ri rsi⟩
theorem ds_for {tg iter : Expr} {body : List Stmt} {pos : Pos} {gi : IM} {k : TM} {ts : List Nat} {f : SM} (hc : X.calm = true) (hp : PassesOwn (model X.prog X.w) X.A X.env X.xe) (hi : DI X tg iter gi) (hg : DG X tg ts k) (hb : DSs X body f) (hs : ∀ x, foldedSetIterable iter X.env x = pure x := by intro _; rfl) : DS X (.For tg iter body [] pos) (sFor gi k f) :=
  (ps_for hp hc hi hg hb hs).weak for_imp
def whileL (t : BM) (body : SM) : Nat → Env → Hh → Option (Out × Hh)
  | 0, _, _ => none
  | n + 1, ρ, h => sbnd (t ρ h) fun b h1 => if b = true then match body ρ h1 with
      | some (.nx ρ2, h2) => whileL t body n ρ2 h2
      | some (.ct ρ2, h2) => whileL t body n ρ2 h2
      | some (.bk ρ2, h2) => some (.nx ρ2, h2)
      | some (.rt w, h2) => some (.rt w, h2)
      | none => none
    else some (.nx ρ, h1)
def sWhile (n : Nat) (t : BM) (body : SM) : SM := whileL t body n
theorem while_imp {n : Nat} {t : BM} {body : SM} : ∀ D σ H, tS (sWhile n t body) D σ H → tWhile (tT t) (tS body) D σ H := fun D σ H => by
  rintro ⟨M, h, ρ, r, rs, p⟩
  refine ⟨fun m σi Hi => ∃ Mi hi ρi, Mi.u = M.u ∧ Ext M Mi H Hi ∧ Rep Mi Hi hi ∧ RS Mi Hi ρi σi ∧ SPost D Mi Hi (whileL t body m ρi hi), ⟨n, M, h, ρ, rfl, .refl _ _, r, rs, p⟩, fun m σi Hi w => ?_⟩
  obtain ⟨Mi, hi, ρi, ui, xi, ri, rsi, pi⟩ := w
  cases m with
  | zero => exact pi.elim
  | succ m =>
    unfold whileL at pi
    obtain ⟨b, h1, e1, p1⟩ := pi.bind
    refine ⟨Mi, hi, ρi, ri, rsi, b, h1, e1, fun M1 H1 v x1 r1 v1 => ?_⟩
    subst v1
    have p2 := p1.mono x1.same x1.ext
    cases v with
    | true =>
      simp only [if_true] at p2
      refine iteT ⟨fun σ' H' => ∃ Mi hi ρi, Mi.u = M.u ∧ Ext M Mi H H' ∧ Rep Mi H' hi ∧ RS Mi H' ρi σ' ∧ SPost D Mi H' (whileL t body m ρi hi), fun σ' H' q => ⟨m, Nat.lt_succ_self m, q⟩, M1, h1, ρi, r1, rsi.mono x1, ?_⟩
      cases eb : body ρi h1 with
      | none => rw [eb] at p2; exact p2.elim
      | some q =>
        obtain ⟨o, h3⟩ := q
        rw [eb] at p2
        cases o with
        | nx ρ2 => exact fun M3 H3 σ3 u3 x3 r3 rs3 => ⟨M3, h3, ρ2, (u3.trans x1.same).trans ui, (xi.trans x1.ext).trans x3, r3, rs3, SPost.mono p2 u3 x3⟩
        | ct ρ2 => exact fun M3 H3 σ3 u3 x3 r3 rs3 => ⟨M3, h3, ρ2, (u3.trans x1.same).trans ui, (xi.trans x1.ext).trans x3, r3, rs3, SPost.mono p2 u3 x3⟩
        | bk ρ2 => exact p2
        | rt w => exact p2
    | false => exact iteF (p2 M1 H1 σi rfl (.refl _ _) r1 (rsi.mono x1))
theorem ds_while (n : Nat) {c : Expr} {body : List Stmt} {pos : Pos} {t : BM} {f : SM} (hp : PassesOwn (model X.prog X.w) X.A X.env X.xe) (hc : DT X c t) (hb : DSs X body f) : DS X (.While c body [] pos) (sWhile n t f) := (ps_while hp hc hb).weak while_imp
end

/-! ### defs -/
abbrev FM := List W → Hh → Option (W × Hh)
def live (h : Hh) : List Bool := h.map Option.isSome
/-- what a def hands back: its own lists by value (rm: the one list it hands back stays one that may change) -/
def leave (rm : Bool) (h : Hh) (w : W) (h' : Hh) : Option (W × Hh) := if live (h'.take h.length) = live h then match w with
    | .ref n => if n < h.length then some (.ref n, h'.take h.length) else match h'[n]? with
      | some (some (.lst ds)) => if rm = true then some (.ref h.length, h'.take h.length ++ [some (.lst ds)]) else some (.dat (.list ds), h'.take h.length)
      | some (some (.dic es)) => if rm = true then some (.ref h.length, h'.take h.length ++ [some (.dic es)]) else some (.dat (.dict es), h'.take h.length)
      | some (some (.dit es)) => if rm = true then some (.ref h.length, h'.take h.length ++ [some (.dit es)]) else some (.dat (.dict ((.none, .none) :: es)), h'.take h.length)
      | _ => none
    | .pack _ => none
    | w => some (w, h'.take h.length)
  else none
def fnM (rm : Bool) (np nl : Nat) (body : SM) : FM := fun ws h => if ws.length = np then match body (ws.map some ++ List.replicate (nl - np) none) h with
    | some (.rt w, h') => leave rm h w h'
    | some (.nx _, h') => leave rm h (.dat .none) h'
    | _ => none
  else none
def spD (m : FM) : Sp := fun vs H Q _ => ∃ M h ws, Rep M H h ∧ RVs M H vs ws ∧ Cont RV (m ws h) M H Q
end DL

set_option maxRecDepth 100000
set_option maxHeartbeats 400000
namespace DL
open PySem PySem.Spec PyProof.Rows L2
theorem live_get {h h' : Hh} (e : live (h'.take h.length) = live h) {i : Nat} (hi : i < h.length) : (h'[i]?).map Option.isSome = (h[i]?).map Option.isSome := by
  have := congrArg (fun l => l[i]?) e
  simp only [live, List.getElem?_map] at this
  rw [List.getElem?_take_of_lt hi] at this
  exact this
section
variable {M M' : Mm} {H H' : Hp} {h h' : Hh}
theorem leave_same (x : Ext M M' H H') (r : Rep M H h) (r' : Rep M' H' h') (e : live (h'.take h.length) = live h) {i : Nat} {a : Addr} (q : M.m[i]? = some (some a)) : M'.m[i]? = some (some a) := by
  have hi := lt_of_get q
  rcases x.kill i hi with k | k
  · rw [k]; exact q
  · have d := r'.dead i k
    obtain ⟨o, ho, _⟩ := r.at_ i a q
    have l := live_get e (i := i) (by rw [← r.len]; exact hi)
    rw [d, ho] at l
    cases l
theorem leave_has (x : Ext M M' H H') (u : M'.u = M.u) (r : Rep M H h) (r' : Rep M' H' h') (e : live (h'.take h.length) = live h) : ∀ b, M.Has b → M'.Has b := fun b z => by
  rcases z with z | z
  · exact .inl (by rw [u]; exact z)
  · obtain ⟨i, hi, q⟩ := List.getElem_of_mem z
    exact .inr (List.mem_of_getElem? (leave_same x r r' e (i := i) (by rw [List.getElem?_eq_getElem hi, q])))
theorem leave_rep (x : Ext M M' H H') (u : M'.u = M.u) (r : Rep M H h) (r' : Rep M' H' h') (e : live (h'.take h.length) = live h) : Rep M H' (h'.take h.length) := by
  have hl : (h'.take h.length).length = h.length := by
    have := congrArg List.length e
    simpa [live] using this
  refine ⟨fun a z => ?_, by rw [hl]; exact r.len, r.inj, fun i a q => ?_, fun i q => ?_⟩
  · obtain ⟨h1, o, h2⟩ := r.us a z
    exact ⟨h1, x.trk a o h2⟩
  · obtain ⟨o, ho, ro⟩ := r'.at_ i a (leave_same x r r' e q)
    exact ⟨o, by rw [List.getElem?_take_of_lt (by rw [← r.len]; exact lt_of_get q)]; exact ho, ro.sub (leave_has x u r r' e)⟩
  · have hi : i < h.length := by rw [← r.len]; exact lt_of_get q
    have l := live_get e hi
    rw [r.dead i q] at l
    rw [List.getElem?_take_of_lt hi]
    cases z : h'[i]? with
    | none => rw [z] at l; cases l
    | some o =>
      rw [z] at l
      cases o with
      | none => rfl
      | some _ => cases l
theorem leave_ext (x : Ext M M' H H') : ExtE M M H H' := ⟨rfl, x.trk, x.stab, fun _ m => .inl m, Nat.le_refl _, fun _ _ => rfl⟩
theorem leave_out (x : Ext M M' H H') (u : M'.u = M.u) (r : Rep M H h) (r' : Rep M' H' h') (e : live (h'.take h.length) = live h) {n : Nat} {a : Addr} (hn : ¬ n < h.length) (q : M'.m[n]? = some (some a)) : ¬ M.Has a := fun z => by
  rcases z with z | z
  · exact (r'.us a (by rw [u]; exact z)).1 (List.mem_of_getElem? q)
  · obtain ⟨i, hi, qi⟩ := List.getElem_of_mem z
    have q' := leave_same x r r' e (i := i) (by rw [List.getElem?_eq_getElem hi, qi])
    have := r'.inj i n a q' q
    rw [r.len] at hi
    omega
theorem leave_mut (x : Ext M M' H H') (u : M'.u = M.u) (r : Rep M H h) (r' : Rep M' H' h') (e : live (h'.take h.length) = live h) {n : Nat} {a : Addr} {o : MO} (hn : ¬ n < h.length) (q : M'.m[n]? = some (some a)) (ho : h'[n]? = some (some o)) :
    Rep ⟨M.u, M.m ++ [some a]⟩ H' (h'.take h.length ++ [some o]) ∧ ExtE M ⟨M.u, M.m ++ [some a]⟩ H H' := by
  have out := leave_out x u r r' e hn q
  obtain ⟨o', ho', ro⟩ := r'.at_ n a q
  rw [ho] at ho'; cases ho'
  have R := leave_rep x u r r' e
  have hsub : ∀ b, Mm.Has ⟨a :: M.u, M.m⟩ b → M'.Has b := fun b z => by
    rcases z with z | z
    · rcases List.mem_cons.mp z with rfl | z
      · exact .inr (List.mem_of_getElem? q)
      · exact .inl (by rw [u]; exact z)
    · exact leave_has x u r r' e b (.inr z)
  have R2 : Rep ⟨a :: M.u, M.m⟩ H' (h'.take h.length) := by
    refine ⟨fun b z => ?_, R.len, R.inj, fun i b z => ?_, R.dead⟩
    · rcases List.mem_cons.mp z with rfl | z
      · exact ⟨fun y => out (.inr y), ro.some_⟩
      · exact R.us b z
    · obtain ⟨w, hw, rw'⟩ := r'.at_ i b (leave_same x r r' e z)
      exact ⟨w, by rw [List.getElem?_take_of_lt (by rw [← r.len]; exact lt_of_get z)]; exact hw, rw'.sub hsub⟩
  refine ⟨R2.owned (fun y => out (.inl y)) (ro.sub hsub), ⟨rfl, x.trk, x.stab, fun b z => ?_, by simp, fun i hi => List.getElem?_append_left hi⟩⟩
  rcases List.mem_append.mp z with z | z
  · exact .inl z
  · have : b = a := by simpa using z
    subst this
    exact x.fresh b (List.mem_of_getElem? q)
theorem leave_ok {rm : Bool} {w : W} {v : V} {Q : VK} (x : Ext M M' H H') (u : M'.u = M.u) (r : Rep M H h) (r' : Rep M' H' h') (rv : RV M' H' v w) (c : Cont RV (leave rm h w h') M H Q) : Q v H' := by
  unfold leave at c
  split at c
  · rename_i e
    have sub := leave_has x u r r' e
    have R := leave_rep x u r r' e
    split at c
    · rename_i n
      obtain ⟨a, ea, rfl⟩ := rv
      split at c
      · rename_i hn
        refine c.fin (leave_ext x) R ⟨a, ?_, rfl⟩
        rcases x.kill n (by rw [r.len]; exact hn) with k | k
        · rw [← k]; exact ea
        · rw [ea] at k; cases k
      · rename_i hn
        have out := leave_out x u r r' e hn ea
        obtain ⟨o, ho, ro⟩ := r'.at_ n a ea
        rw [ho] at c
        have hlen : M.m.length = (h'.take h.length).length := R.len
        have hl : (h'.take h.length).length = h.length := by
          have := congrArg List.length e
          simpa [live] using this
        cases o with
        | lst ds =>
          obtain ⟨xs, hx, q⟩ := ro
          cases rm with
          | false => exact c.fin (leave_ext x) R (RD.lst out hx (q.sub sub))
          | true =>
            obtain ⟨R2, x2⟩ := leave_mut x u r r' e hn ea ho
            exact c.fin x2 R2 ⟨a, by show (M.m ++ [some a])[h.length]? = _; rw [← hl, ← hlen]; simp, rfl⟩
        | dic ds =>
          obtain ⟨xs, hx, q⟩ := ro
          cases rm with
          | false => exact c.fin (leave_ext x) R (RD.dic out hx (q.sub sub))
          | true =>
            obtain ⟨R2, x2⟩ := leave_mut x u r r' e hn ea ho
            exact c.fin x2 R2 ⟨a, by show (M.m ++ [some a])[h.length]? = _; rw [← hl, ← hlen]; simp, rfl⟩
        | dit ds =>
          obtain ⟨xs, hx, q⟩ := ro
          cases rm with
          | false => exact c.fin (leave_ext x) R (RD.dit out hx (q.sub sub))
          | true =>
            obtain ⟨R2, x2⟩ := leave_mut x u r r' e hn ea ho
            exact c.fin x2 R2 ⟨a, by show (M.m ++ [some a])[h.length]? = _; rw [← hl, ← hlen]; simp, rfl⟩
        | tab q P => exact c.no.elim
    · exact c.no.elim
    · rename_i w' hw hp
      cases w with
      | ref n => exact absurd rfl (hw n)
      | pack n => exact absurd rfl (hp n)
      | dat d => exact c.fin (leave_ext x) R (RD.sub sub rv)
      | scr ns =>
        obtain ⟨a, o, e1, n, q⟩ := rv
        exact c.fin (leave_ext x) R ⟨a, o, e1, fun z => n (sub a z), q⟩
  · exact c.no.elim
end
theorem rs_start {M : Mm} {H : Hp} {vs : List V} {ws : List W} (r : RVs M H vs ws) (n : Nat) : RS M H (ws.map some ++ List.replicate n none) (vs.map some ++ List.replicate n none) := by
  refine ⟨by simp [r.length], ?_⟩
  induction r with
  | nil =>
    intro i w e
    rw [List.map_nil, List.nil_append, List.getElem?_replicate] at e
    split at e <;> cases e
  | cons a t ih =>
    intro i w e
    cases i with
    | zero => simp at e; subst e; exact ⟨_, rfl, a⟩
    | succ i => exact ih i w (by simpa using e)
section
variable {P : Program} {w : World} {K : PySem.W.Frag} {mg : Str → Option Value} {base : Heap}
theorem fn_ok {x qual : Str} {st : Stmt} {f : Addr} {fd : FuncData} {N ps : List Str} {k : Nat} {body : SM} (rm : Bool) (F : Fun K x qual st f fd) (S : FnScope N ps (defScope st))
    (hb : ∀ (cdv : Value) (A : Around) (outer : List PySem.Env) (s : Shared) (H : Hp) (E : XK), Room k (A.deeper (envOfC qual (defScope st) s.heap.objs.size f cdv)) → DSs (cxOf CX0 P w K mg base N qual (defScope st) f cdv A outer s H E).nox (defBody st) body) :
    FnOk P w K mg base CX0 (k + 1) f fd ps (spD (fnM rm ps.length N.length body)) := by
  refine F.ok S (fun vs H Q E q => ?_) (fun cdv A outer s H vs Q E hr q => ?_)
  · obtain ⟨M, h, ws, rep, rv, c⟩ := q
    unfold fnM at c
    split at c
    · rename_i hl
      rw [rv.length]; exact hl
    · exact c.no.elim
  · obtain ⟨M, h, ws, rep, rv, c⟩ := q
    unfold fnM at c
    split at c
    · rename_i hl
      refine ⟨_, hb cdv A outer s H E hr, M, h, ws.map some ++ List.replicate (N.length - ps.length) none, rep, ?_, ?_⟩
      · have e : L2.start N vs = vs.map some ++ List.replicate (N.length - ps.length) none := by unfold L2.start; rw [rv.length, hl]
        rw [e]
        exact rs_start rv _
      · cases eb : body (ws.map some ++ List.replicate (N.length - ps.length) none) h with
        | none => rw [eb] at c; exact c.no.elim
        | some pr =>
          obtain ⟨o, h'⟩ := pr
          rw [eb] at c
          cases o with
          | nx ρ => exact fun M1 H1 σ u x1 r1 rs1 => leave_ok x1 u rep r1 (show RV M1 H1 .non (.dat .none) from .non) c
          | rt w => exact fun M1 H1 v u x1 r1 v1 => leave_ok x1 u rep r1 v1 c
          | bk ρ => exact c.no.elim
          | ct ρ => exact c.no.elim
    · exact c.no.elim
end
theorem rvs3 {M : Mm} {H : Hp} {vs : List V} {a b c : W} (r : RVs M H vs [a, b, c]) : ∃ x y z, vs = [x, y, z] ∧ RV M H x a ∧ RV M H y b ∧ RV M H z c := by
  cases r with
  | cons ra r => cases r with
    | cons rb r => cases r with
      | cons rc r => cases r; exact ⟨_, _, _, rfl, ra, rb, rc⟩
theorem ds_par3 {X : Cx} {i j l : Nat} {st : Stmt} {g : AM} (h : PS X st (tPar3 i j l (tA g))) : DS X st (sPar g [i, j, l]) := h.weak fun D σ H => by
  rintro ⟨M, h, ρ, r, rs, p⟩
  obtain ⟨ws, h1, e1, p1⟩ := p.bind
  refine ⟨M, h, ρ, r, rs, ws, h1, e1, fun M1 H1 vs x1 r1 v1 => ?_⟩
  split at p1
  · rename_i hz
    match ws, hz, v1, p1 with
    | [w1, w2, w3], _, v1, p1 =>
      obtain ⟨a, b, c, rfl, ra, rb, rc⟩ := rvs3 v1
      exact ⟨a, b, c, rfl, p1 M1 H1 _ x1.same x1.ext r1 ((((rs.mono x1).set ra).set rb).set rc)⟩
  · exact p1.elim
section
variable {X : Cx} {k : Nat} {f : Addr} {fd : FuncData} {ps : List Str} {m : FM} {x : Str} {p pos : Pos} {e : Expr} {es : List Expr} {g : AM}
theorem d_call (F : FnOk X.prog X.w X.K X.mg X.base CX0 k f fd ps (spD m)) (hr : Room k X.A) (hm : X.mg x = some (.ref f)) (hk : PySem.W.keepIn X.K (.ref f) = true) (hb : Binds X.K fd ps []) (ha : DA X (e :: es) g) (hg : Gl X x := by rfl)
    (hdb : (x == ("__debug__" : Str)) = false := by decide) (he : starEach (e :: es) X.env = (false, eval e X.env) :: starEach es X.env := by rfl) (hpl : (backTo pos (starEach es X.env)).any (·.1) = false := by rfl) : DE X (.Call (.Name x p) (e :: es) [] pos) (fA m g) :=
  (pe_call F hr hg hm hk hb .nil pass0 ha hdb he hpl).weak fun σ H Q => by
    rintro ⟨M, h, ρ, r, rs, c⟩
    obtain ⟨ws, h1, e1, c1⟩ := Cont.bind (δ := Unit) c
    refine ⟨M, h, ρ, r, rs, ws, h1, e1, fun M1 H1 vs x1 r1 v1 => ?_⟩
    show spD m (vs ++ []) H1 Q E0
    rw [List.append_nil]
    exact ⟨M1, h1, ws, r1, v1, c1 M1 H1 x1⟩
end
end DL

set_option maxRecDepth 100000
set_option maxHeartbeats 400000
namespace DL
open PySem PySem.Spec PyProof.Rows L2
/-! ### dict comprehensions -/
def dcL (k : TM) (t : BM) (fk fv : EM) (ρ : Env) : List D → List (D × D) → Hh → Option (List (D × D) × Hh)
  | [], es, h => some (es, h)
  | d :: ds, es, h => match k (.dat d) ρ h with
    | some ρ1 => obnd (t ρ1 h) fun b h2 => if b = true then obnd (fk ρ1 h2) fun w h3 => obnd (fv ρ1 h3) fun v h4 => match w, v with
        | .dat kd, .dat d' => match dKey kd with
          | some key => if es.length < sizeLine then dcL k t fk fv ρ ds (putK' es key d') h4 else none
          | none => none
        | _, _ => none
      else dcL k t fk fv ρ ds es h2
    | none => none
def fDc (m : Bool) (gi : IM) (k : TM) (t : BM) (fk fv : EM) (vs : List Nat) : EM := fun ρ h => obnd (gi ρ h) fun ds h1 => obnd (dcL k t fk fv (wipeE ρ vs) ds [] h1) fun es h2 => mkK m es h2
theorem dc_imp {gi : IM} {k : TM} {t : BM} {fk fv : EM} {ts vs : List Nat} {m : Bool} (hs : ∀ j ∈ ts, j ∈ vs) : ∀ σ H Q, tE (fDc m gi k t fk fv vs) σ H Q → tDc (tI gi) (tGd ts k) (tT t) (tE fk) (tE fv) vs σ H Q := fun σ H Q => by
  rintro ⟨M, h, ρ, r, rs, c⟩
  obtain ⟨ds, h1, e1, c1⟩ := Cont.bind (δ := Unit) c
  refine ⟨M, h, ρ, ds, h1, r, rs, e1, fun M1 H1 J x1 r1 it D nD => ?_⟩
  obtain ⟨out, h2, e2, c2⟩ := Cont.bind (δ := Unit) (c1 M1 H1 x1)
  have x0 := ext_made (M := M1) (o := .dK []) nD
  have r0 := r1.make (o := .dK []) nD
  have rs0 : RS (M1.made D) (upd H1 D (.dK [])) (wipeE ρ vs) (L2.wipe σ vs) := ((rs.mono x1).moveu x0 rfl).wipe vs
  let P : Nat → Hp → Prop := fun i Hi => ∃ mi hi acc dacc, ExtE M1 ⟨M1.u, mi⟩ H1 Hi ∧ Rep ⟨D :: M1.u, mi⟩ Hi hi ∧ RS ⟨D :: M1.u, mi⟩ Hi (wipeE ρ vs) (L2.wipe σ vs) ∧ Hi D = some (.dK acc) ∧ RDk ⟨D :: M1.u, mi⟩ Hi acc dacc ∧ dcL k t fk fv (wipeE ρ vs) (ds.drop i) dacc hi = some (out, h2)
  refine ⟨fun i n Hi => n + i = ds.length ∧ P i Hi, ⟨ds.length, by omega, M1.m, h1, [], [], (ExtE.refl M1 H1).beside nD, r0, rs0, upd_same, .nil, by rw [List.drop_zero]; exact e2⟩, fun i n Hi w => ?_⟩
  obtain ⟨hn, mi, hi, acc, dacc, xi, ri, rsi, hD, qa, el⟩ := w
  have inD : D ∈ (⟨D :: M1.u, mi⟩ : Mm).u := List.mem_cons_self
  obtain ⟨ity, its⟩ := it _ Hi (xi.into nD) fun a ha => ri.tracked ha
  by_cases hlt : i < ds.length
  · refine .inr ?_
    have ed : ds[i]? = some ds[i] := List.getElem?_eq_getElem hlt
    obtain ⟨go, yl⟩ := ity i _ ed
    rw [List.drop_eq_getElem_cons hlt] at el
    refine ⟨go, P (i + 1), fun H' p => ⟨n - 1, by omega, by omega, p⟩, fun x H2 hy => ?_⟩
    obtain ⟨sm, rx⟩ := yl x H2 hy
    obtain ⟨ri2, xi2⟩ := ri.grow sm
    unfold dcL at el
    split at el
    · rename_i ρ1 ek
      refine ⟨_, hi, wipeE ρ vs, .dat ds[i], ρ1, ri2, rsi.mono xi2, rx, ek, fun σ2 rs2 l2 o2 => ⟨wipe_of (by rw [l2, L2.wipe_length]) o2 hs, ?_⟩⟩
      cases et : t ρ1 hi with
      | none => rw [et] at el; cases el
      | some pr =>
        obtain ⟨b, h3⟩ := pr
        rw [et] at el
        simp only [obnd_some] at el
        refine ⟨_, hi, ρ1, ri2, rs2, b, h3, et, fun M3 H3 b' x3 r3 eb => ?_⟩
        subst eb
        obtain ⟨u3, m3⟩ := M3
        obtain rfl : u3 = D :: M1.u := x3.same
        have xi3 : ExtE M1 ⟨M1.u, m3⟩ H1 H3 := xi.trans ((xi2.trans x3).reu M1.u)
        have hD3 : H3 D = some (.dK acc) := x3.stab _ _ (sm _ _ hD) fun z => (ri.us D inD).1 z
        cases b' with
        | false =>
          simp only [Bool.false_eq_true, if_false] at el
          exact iteF ⟨m3, h3, acc, dacc, xi3, r3, (rsi.mono xi2).mono x3, hD3, (qa.mono xi2.ext).mono x3.ext, el⟩
        | true =>
          simp only [if_true] at el
          refine iteT ?_
          cases ef : fk ρ1 h3 with
          | none => rw [ef] at el; cases el
          | some pr =>
            obtain ⟨w, h4⟩ := pr
            rw [ef] at el
            simp only [obnd_some] at el
            refine ⟨_, h3, ρ1, r3, rs2.mono x3, w, h4, ef, fun M4 H4 y x4 r4 ry => ?_⟩
            obtain ⟨u4, m4⟩ := M4
            obtain rfl : u4 = D :: M1.u := x4.same
            have hD4 : H4 D = some (.dK acc) := x4.stab _ _ hD3 fun z => (r3.us D List.mem_cons_self).1 z
            cases eg : fv ρ1 h4 with
            | none => rw [eg] at el; cases el
            | some pr =>
              obtain ⟨w', h5⟩ := pr
              rw [eg] at el
              simp only [obnd_some] at el
              refine ⟨_, h4, ρ1, r4, (rs2.mono x3).mono x4, w', h5, eg, fun M5 H5 z x5 r5 rz => ?_⟩
              obtain ⟨u5, m5⟩ := M5
              obtain rfl : u5 = D :: M1.u := x5.same
              have hD5 : H5 D = some (.dK acc) := x5.stab _ _ hD4 fun z => (r4.us D List.mem_cons_self).1 z
              split at el
              · rename_i kd d'
                split at el
                · rename_i key ekey
                  split at el
                  · rename_i hz
                    have := kP_dKey ekey
                    subst this
                    have ry' : RD ⟨D :: M1.u, m5⟩ H5 y (kP key) := (show RD _ _ y _ from ry).mono x5.ext
                    have q5 := (((qa.mono xi2.ext).mono x3.ext).mono x4.ext).mono x5.ext
                    have in5 : D ∈ (⟨D :: M1.u, m5⟩ : Mm).u := List.mem_cons_self
                    exact ⟨acc, key, rd_kP ry', hD5, by rw [qa.length]; exact hz, m5, h5, _, putK' dacc key d', ((xi3.trans (x4.reu M1.u)).trans (x5.reu M1.u)).beside nD, r5.off in5, ((((rsi.mono xi2).mono x3).mono x4).mono x5).off in5, upd_same, (q5.put key rz).off in5, el⟩
                  · cases el
                · cases el
              · cases el
    · cases el
  · refine .inl ?_
    have hi' : i = ds.length := by omega
    subst hi'
    rw [List.drop_length] at el
    cases el
    refine ⟨its, ?_⟩
    have c3 := c2 M1 H1 (.refl _ _)
    have nu : D ∉ M1.u := fun z => r1.new nD (.inl z)
    have nm : some D ∉ mi := (ri.us D inD).1
    cases m with
    | false => exact c3.fin xi ri.told (RD.dic (fun z => z.elim nu nm) hD (qa.sub less_has))
    | true =>
      refine c3.fin (M' := ⟨M1.u, mi ++ [some D]⟩) ⟨rfl, xi.trk, xi.stab, fun a z => ?_, Nat.le_trans xi.len (by simp), fun j hj => ?_⟩ (ri.owned nu ⟨acc, hD, qa⟩) ⟨D, ?_, rfl⟩
      · rcases List.mem_append.mp z with z | z
        · exact xi.fresh a z
        · have : a = D := by simpa using z
          rw [this]; exact .inr nD
      · have hl : j < mi.length := Nat.lt_of_lt_of_le hj xi.len
        show (mi ++ [some D])[j]? = _
        rw [List.getElem?_append_left hl]; exact xi.pre j hj
      · show (mi ++ [some D])[h2.length]? = _
        rw [← show mi.length = h2.length from ri.len]; simp
section
variable {X : Cx}
theorem d_dc (m : Bool) {kx vx tg iter : Expr} {ifs : List Expr} {scope : Scope} {own : List (Str × Nat)} {pos : Pos} {gi : IM} {ts : List Nat} {k : TM} {t : BM} {fk fv : EM} (hc : X.calm = true) (hN : X.N.Nodup) (hi : DI X tg iter gi) (ok : BlkOk X.N X.env.scope scope own)
    (hg : ∀ (s : Shared) (H : Hp) (C : Addr) (cl : List (Str × Addr)) (fp : List Addr), DG (X.blk s H scope (compEnvC scope cl C X.env) fp) tg ts k) (ht : ∀ (s : Shared) (H : Hp) (C : Addr) (cl : List (Str × Addr)) (fp : List Addr), DTs (X.blk s H scope (compEnvC scope cl C X.env) fp) ifs t)
    (hk : ∀ (s : Shared) (H : Hp) (C : Addr) (cl : List (Str × Addr)) (fp : List Addr), DE (X.blk s H scope (compEnvC scope cl C X.env) fp) kx fk) (he : ∀ (s : Shared) (H : Hp) (C : Addr) (cl : List (Str × Addr)) (fp : List Addr), DE (X.blk s H scope (compEnvC scope cl C X.env) fp) vx fv)
    (hsub : ∀ j ∈ ts, j ∈ own.map (·.2)) (hs : ∀ x, foldedSetIterable iter X.env x = pure x := by intro _; rfl) :
    DE X (.DictComp kx vx [⟨tg, iter, ifs, 0⟩] scope pos) (fDc m gi k t fk fv (own.map (·.2))) := (pe_dc hc hN hi ok hg ht hk he hs).weak (dc_imp hsub)
end
end DL

set_option maxRecDepth 100000
set_option maxHeartbeats 400000
namespace DL
open PySem PySem.Spec PyProof.Rows L2
/-! ### room, and nothing being shown -/
structure RG (k : Nat) (A : Around) : Prop where
  room : Room k A
  gd : A.guards = some []
theorem RG.mono {j k : Nat} {A : Around} (r : RG k A) (h : j ≤ k) : RG j A := ⟨r.room.mono h, r.gd⟩
/-- a def keeps its promise where nothing is being shown -/
structure FnG (P : Program) (w : World) (K : PySem.W.Frag) (mg : Str → Option Value) (base : Heap) (C : CXT) (k : Nat) (f : Addr) (fd : FuncData) (ps : List Str) (sp : Sp) : Prop where
  len : ∀ vs H Q E, sp vs H Q E → vs.length = ps.length
  run : ∀ (A : Around) (outer : List PySem.Env) (s : Shared) (H : Hp) (args : Args) (us : List Value) (vs : List V) (Q : VK) (E : XK), RG k A → Env0 P w K mg base A outer s H → BindsTo s fd args (ps.zip us) → Vals vs us →
    sp vs H Q E → codeAny (model P w) A (.call (.ref f) args) (CR C outer P w H s Q E) s
section
variable {P : Program} {w : World} {K : PySem.W.Frag} {mg : Str → Option Value} {base : Heap}
theorem fn_g0 {x qual : Str} {st : Stmt} {f : Addr} {fd : FuncData} {N ps : List Str} {k : Nat} {sp : Sp} (F : Fun K x qual st f fd) (S : FnScope N ps (defScope st)) (len : ∀ vs H Q E, sp vs H Q E → vs.length = ps.length)
    (hb : ∀ (cdv : Value), fd.code = cdv → ∀ (A : Around) (outer : List PySem.Env) (s : Shared) (H : Hp) (vs : List V) (Q : VK) (E : XK), RG k (A.deeper (envOfC qual (defScope st) s.heap.objs.size f cdv)) → sp vs H Q E →
      ∃ t, PSs (cxOf CX0 P w K mg base N qual (defScope st) f cdv A outer s H E).nox (defBody st) t ∧ t { nx := fun _ H' => Q .non H', rt := Q } (L2.start N vs) H) : FnG P w K mg base CX0 (k + 1) f fd ps sp := by
  obtain ⟨oc, od, kV, doc, pm, an, cdv, ct, osl, rfl, lk, hcd⟩ := F.ex
  constructor
  · exact len
  intro A outer s H args us vs Q E rg e0 bd vl q
  have kin : K.In s.heap := e0.mod.kin.keeps fun b o e => (e0.bs b o e).1
  have nl : s.heap.NoLimit := e0.mod.nolimit.keeps fun b o e => (e0.bs b o e).1
  have kinds : ∀ y ∈ ps.zip us, (defScope st).names.lookup y.1 = some .local ∨ ((defScope st).names.lookup y.1 = some .cell ∧ ((PySem.cellsFrom (s.heap.objs.size + 1) (defScope st).names []).lookup y.1).isSome = true) := by
    intro y hy
    have hp : y.1 ∈ ps := (List.of_mem_zip (show (y.1, y.2) ∈ ps.zip us from hy)).1
    rcases S.par y.1 hp with h | h
    · left; exact h
    · right; exact ⟨h, PySem.W.cellsFrom_some _ _ _ (.inl h)⟩
  apply codeAny_call_function rg.room.depth (kin _ _ lk) rfl S.co S.gen rfl (PySem.W.codeRec_of kin hcd)
  apply bd
  apply wpAny_newFunctionEnv_cells S.kind kinds
  intro env he s1 hx
  subst he
  constructor
  · exact nl.keeps hx.toInCall.keep
  apply codeAny_func
  obtain ⟨t, ht, hq⟩ := hb cdv rfl A outer s H vs Q E ⟨rg.room.deeper _, rg.gd⟩ q
  have I0 := inv_start (CX := CX0) (E := E) S rg.room.hd e0 (len _ _ _ _ q) vl hx
  apply wpAny_mono (ht.nox.run [] s1 _ H _ I0 hq)
  · intro fl s' hs
    cases fl
    case ret u => obtain ⟨v, σ', H', J, rv, q'⟩ := hs; exact ⟨v, H', J.os, J.bare, J.base, J.hok, rv, q'⟩
    case next => obtain ⟨σ', H', J, q'⟩ := hs; exact ⟨.non, H', J.os, J.bare, J.base, J.hok, rfl, q'⟩
    case brk => obtain ⟨_, _, _, q'⟩ := hs; exact q'.elim
    case cont => obtain ⟨_, _, _, q'⟩ := hs; exact q'.elim
  · intro e s' hs; exact hs
/-- a def of the module, its model m -/
structure GD (P : Program) (w : World) (K : PySem.W.Frag) (mg : Str → Option Value) (base : Heap) (k : Nat) (x : Str) (st : Stmt) (ps : List Str) (m : FM) : Prop where
  ex : ∃ (f : Addr) (fd : FuncData), Fun K x x st f fd ∧ mg x = some (.ref f) ∧ FnG P w K mg base CX0 k f fd ps (spD m)
theorem fng_ok0 {x : Str} {st : Stmt} {f : Addr} {fd : FuncData} {N ps : List Str} {k : Nat} {body : SM} (rm : Bool) (F : Fun K x x st f fd) (S : FnScope N ps (defScope st))
    (hb : ∀ (cdv : Value), fd.code = cdv → ∀ (A : Around) (outer : List PySem.Env) (s : Shared) (H : Hp) (E : XK), RG k (A.deeper (envOfC x (defScope st) s.heap.objs.size f cdv)) → DSs (cxOf CX0 P w K mg base N x (defScope st) f cdv A outer s H E).nox (defBody st) body) :
    FnG P w K mg base CX0 (k + 1) f fd ps (spD (fnM rm ps.length N.length body)) := by
  refine fn_g0 F S (fun vs H Q E q => ?_) (fun cdv ec A outer s H vs Q E hr q => ?_)
  · obtain ⟨M, h, ws, rep, rv, c⟩ := q
    unfold fnM at c
    split at c
    · rename_i hl
      rw [rv.length]; exact hl
    · exact c.no.elim
  · obtain ⟨M, h, ws, rep, rv, c⟩ := q
    unfold fnM at c
    split at c
    · rename_i hl
      refine ⟨_, hb cdv ec A outer s H E hr, M, h, ws.map some ++ List.replicate (N.length - ps.length) none, rep, ?_, ?_⟩
      · have e : L2.start N vs = vs.map some ++ List.replicate (N.length - ps.length) none := by unfold L2.start; rw [rv.length, hl]
        rw [e]
        exact rs_start rv _
      · cases eb : body (ws.map some ++ List.replicate (N.length - ps.length) none) h with
        | none => rw [eb] at c; exact c.no.elim
        | some pr =>
          obtain ⟨o, h'⟩ := pr
          rw [eb] at c
          cases o with
          | nx ρ => exact fun M1 H1 σ u x1 r1 rs1 => leave_ok x1 u rep r1 (show RV M1 H1 .non (.dat .none) from .non) c
          | rt w => exact fun M1 H1 v u x1 r1 v1 => leave_ok x1 u rep r1 v1 c
          | bk ρ => exact c.no.elim
          | ct ρ => exact c.no.elim
    · exact c.no.elim
theorem fng_ok {x : Str} {st : Stmt} {f : Addr} {fd : FuncData} {N ps : List Str} {k : Nat} {body : SM} (rm : Bool) (F : Fun K x x st f fd) (S : FnScope N ps (defScope st))
    (hb : ∀ (cdv : Value) (A : Around) (outer : List PySem.Env) (s : Shared) (H : Hp) (E : XK), RG k (A.deeper (envOfC x (defScope st) s.heap.objs.size f cdv)) → DSs (cxOf CX0 P w K mg base N x (defScope st) f cdv A outer s H E).nox (defBody st) body) :
    FnG P w K mg base CX0 (k + 1) f fd ps (spD (fnM rm ps.length N.length body)) := fng_ok0 rm F S fun cdv _ => hb cdv
theorem gd_ok {x : Str} {st : Stmt} {f : Addr} {fd : FuncData} {N ps : List Str} {k : Nat} {body : SM} (rm : Bool) (F : Fun K x x st f fd) (hm : mg x = some (.ref f)) (S : FnScope N ps (defScope st))
    (hb : ∀ (cdv : Value) (A : Around) (outer : List PySem.Env) (s : Shared) (H : Hp) (E : XK), RG k (A.deeper (envOfC x (defScope st) s.heap.objs.size f cdv)) → DSs (cxOf CX0 P w K mg base N x (defScope st) f cdv A outer s H E).nox (defBody st) body) :
    GD P w K mg base (k + 1) x st ps (fnM rm ps.length N.length body) := ⟨f, fd, F, hm, fng_ok rm F S hb⟩
/-- a def of which nothing is promised -/
theorem GD.no {x : Str} {st : Stmt} {f : Addr} {fd : FuncData} {ps : List Str} {k : Nat} (F : Fun K x x st f fd) (hm : mg x = some (.ref f)) : GD P w K mg base k x st ps (fun _ _ => none) :=
  ⟨f, fd, F, hm, fun _ _ _ _ ⟨_, _, _, _, _, c⟩ => c.no.elim, fun _ _ _ _ _ _ _ _ _ _ _ _ _ ⟨_, _, _, _, _, c⟩ => c.no.elim⟩
end
section
variable {X : Cx} {k : Nat} {f : Addr} {fd : FuncData} {ps : List Str} {m : FM} {x : Str} {p pos : Pos} {e : Expr} {es : List Expr} {g : AM} {st : Stmt}
theorem run_g {sp : Sp} {pins : List (Addr × Obj)} {σ : L2.St} {H : Hp} {s : Shared} {Q : VK} {args : Args} {us : List Value} {vs : List V} (F : FnG X.prog X.w X.K X.mg X.base CX0 k f fd ps sp) (hr : RG k X.A)
    (I : Inv X pins σ H s) (hb : BindsTo s fd args (ps.zip us)) (r : Vals vs us) (h : sp vs H Q E0) : codeAny (model X.prog X.w) X.A (.call (.ref f) args) (fun r s' => match r with
      | .ok (.ret u) => EP X pins σ Q u s'
      | _ => False) s := by
  apply codeAny_mono (F.run X.A X.stack s H args us vs Q E0 hr I.env0 hb r h)
  intro r s' hq
  cases r with
  | error e => exact hq
  | ok fl =>
    cases fl with
    | ret u => exact I.after hq
    | next => exact hq
    | brk => exact hq
    | cont => exact hq
theorem d_call' (G : GD X.prog X.w X.K X.mg X.base k x st ps m) (hr : RG k X.A) (ha : DA X (e :: es) g)
    (hbd : ∀ (kV doc pm : Value) (an : Option Addr) (cdv ct : Value) (us : List Value), us.length = ps.length → bindArgs (PySem.W.fnOf x x (defArgs st) (defBody st) (defScope st) .none kV doc pm an cdv ct) ⟨us, []⟩ = pure (ps.zip us))
    (hg : Gl X x := by rfl)
    (hdb : (x == ("__debug__" : Str)) = false := by decide) (he : starEach (e :: es) X.env = (false, eval e X.env) :: starEach es X.env := by rfl) (hpl : (backTo pos (starEach es X.env)).any (·.1) = false := by rfl) : DE X (.Call (.Name x p) (e :: es) [] pos) (fA m g) := by
  obtain ⟨f, fd, F, hm, G⟩ := G.ex
  refine ⟨fun pins s σ H Q I q => ?_⟩
  obtain ⟨M, h, ρ, r, rs, c⟩ := q
  obtain ⟨ws, h1, e1, c1⟩ := Cont.bind (δ := Unit) c
  apply wpAny_Call_Name_kw
  apply ld_glob I hg hm _ hdb
  apply PySem.W.callWith_K (h₀ := X.base) I.ok.mod.kin F.kp _ he hpl
  refine thn (ha.run pos pins s σ H (fun vs H1 => spD m vs H1 Q E0) I ⟨M, h, ρ, r, rs, ws, h1, e1, fun M1 H1 vs x1 r1 v1 => ⟨M1, h1, ws, r1, v1, c1 M1 H1 x1⟩⟩) fun us s1 ⟨vs, H1, I1, rv, q⟩ => ⟨I1.kIn, ?_⟩
  have hl : us.length = ps.length := by rw [← rv.length]; exact G.len _ _ _ _ q
  apply wpAny_call
  have bd := (F.binds (ps := ps) hbd) s1 us I1.kIn (by simpa using hl)
  rw [List.append_nil] at bd
  apply codeAny_mono (run_g G hr I1 bd rv q)
  intro r s' hq
  cases r with
  | error e => exact hq.elim
  | ok fl =>
    cases fl with
    | ret u => exact hq
    | next => exact hq
    | brk => exact hq
    | cont => exact hq
/-- by names alone: the arguments in the def's order -/
def permL {α : Type} (is : List Nat) (ws : List α) : Option (List α) := (is.map fun i => ws[i]?).foldr (fun o r => match o, r with
    | some w, some l => some (w :: l)
    | _, _ => none) (some [])
def permM (is : List Nat) (m : FM) : FM := fun ws h => match permL is ws with
  | some l => m l h
  | none => none
theorem permL_cons {α : Type} (i : Nat) (is : List Nat) (ws : List α) : permL (i :: is) ws = match ws[i]?, permL is ws with
    | some w, some l => some (w :: l)
    | _, _ => none := rfl
/-- f(k = e, ..): n names, the def's i-th parameter is the is[i]-th of them -/
def kwM (n : Nat) (is : List Nat) (m : FM) : FM := fun ws h => if ws.length = n then permM is m ws h else none
theorem permL_rvs {M : Mm} {H : Hp} {vs : List V} {ws : List W} (r : RVs M H vs ws) : ∀ {is : List Nat} {l : List W}, permL is ws = some l → ∃ l', permL is vs = some l' ∧ RVs M H l' l
  | [], l, e => by cases e; exact ⟨[], rfl, .nil⟩
  | i :: is, l, e => by
    rw [permL_cons] at e
    cases e1 : ws[i]? with
    | none => rw [e1] at e; cases e
    | some w =>
      cases e2 : permL is ws with
      | none => rw [e1, e2] at e; cases e
      | some l0 =>
        rw [e1, e2] at e
        cases e
        obtain ⟨l', h1, h2⟩ := permL_rvs r e2
        obtain ⟨v, h3, h4⟩ : ∃ v, vs[i]? = some v ∧ RV M H v w := by
          clear e2 h1 h2
          induction r generalizing i with
          | nil => simp at e1
          | cons a t ih => cases i with
            | zero => simp at e1; subst e1; exact ⟨_, rfl, a⟩
            | succ i => exact ih i (by simpa using e1)
        exact ⟨v :: l', by rw [permL_cons, h3, h1], .cons h4 h2⟩
theorem permL_vals {vs : List V} {us : List Value} (r : Vals vs us) : ∀ {is : List Nat} {l : List V}, permL is vs = some l → ∃ l', permL is us = some l' ∧ Vals l l'
  | [], l, e => by cases e; exact ⟨[], rfl, .nil⟩
  | i :: is, l, e => by
    rw [permL_cons] at e
    cases e1 : vs[i]? with
    | none => rw [e1] at e; cases e
    | some w =>
      cases e2 : permL is vs with
      | none => rw [e1, e2] at e; cases e
      | some l0 =>
        rw [e1, e2] at e
        cases e
        obtain ⟨l', h1, h2⟩ := permL_vals r e2
        obtain ⟨v, h3, h4⟩ : ∃ v, us[i]? = some v ∧ RelV w v := by
          clear e2 h1 h2
          induction r generalizing i with
          | nil => simp at e1
          | cons a t ih => cases i with
            | zero => simp at e1; subst e1; exact ⟨_, rfl, a⟩
            | succ i => exact ih i (by simpa using e1)
        exact ⟨v :: l', by rw [permL_cons, h3, h1], .cons h4 h2⟩
theorem permL_len {α : Type} {ws : List α} : ∀ {is : List Nat} {l : List α}, permL is ws = some l → l.length = is.length
  | [], l, e => by cases e; rfl
  | i :: is, l, e => by
    rw [permL_cons] at e
    cases e1 : ws[i]? with
    | none => rw [e1] at e; cases e
    | some w =>
      cases e2 : permL is ws with
      | none => rw [e1, e2] at e; cases e
      | some l0 => rw [e1, e2] at e; cases e; rw [List.length_cons, List.length_cons, permL_len e2]
theorem d_callK {kws : List Keyword} {ks : List Str} {is : List Nat} (G : GD X.prog X.w X.K X.mg X.base k x st ps m) (hr : RG k X.A) (ha : DK X kws g)
    (hbd : ∀ (kV doc pm : Value) (an : Option Addr) (cdv ct : Value) (us l : List Value), us.length = ks.length → permL is us = some l → bindArgs (PySem.W.fnOf x x (defArgs st) (defBody st) (defScope st) .none kV doc pm an cdv ct) ⟨[], ks.zip us⟩ = pure (ps.zip l))
    (hkl : kws.length = ks.length)
    (hall : (backToKw pos (keywordEach kws X.env)).all (·.1.isSome) = true := by rfl) (hks : (backToKw pos (keywordEach kws X.env)).filterMap (·.1) = ks := by rfl)
    (hpl : ((backTo pos (starEach [] X.env)).any (·.1) || (backToKw pos (keywordEach kws X.env)).any (·.1.isNone)) = false := by rfl)
    (hg : Gl X x := by rfl) (hdb : (x == ("__debug__" : Str)) = false := by decide) : DE X (.Call (.Name x p) [] kws pos) (fA (kwM ks.length is m) g) := by
  obtain ⟨f, fd, F, hm, G⟩ := G.ex
  refine ⟨fun pins s σ H Q I q => ?_⟩
  obtain ⟨M, h, ρ, r, rs, c⟩ := q
  obtain ⟨ws, h1, e1, c1⟩ := Cont.bind (δ := Unit) c
  apply wpAny_Call_Name_kw
  apply ld_glob I hg hm _ hdb
  apply PySem.W.callWith_KW0 (h₀ := X.base) I.ok.mod.kin F.kp hall _ hpl
  refine thn (ha.run pos pins s σ H (fun vs H1 => vs.length = ks.length ∧ ∃ l, permL is vs = some l ∧ spD m l H1 Q E0) I ⟨M, h, ρ, r, rs, ws, h1, e1, fun M1 H1 vs x1 r1 v1 => ?_⟩) fun us s1 ⟨vs, H1, I1, rv, hlen, l, el, q⟩ => ⟨I1.kIn, ?_⟩
  · have c2 := c1 M1 H1 x1
    unfold kwM at c2
    split at c2
    · rename_i hw
      refine ⟨by rw [v1.length]; exact hw, ?_⟩
      unfold permM at c2
      split at c2
      · rename_i l el
        obtain ⟨l', h2, h3⟩ := permL_rvs v1 el
        exact ⟨l', h2, M1, h1, l, r1, h3, c2⟩
      · exact c2.no.elim
    · exact c2.no.elim
  · obtain ⟨l', h2, h3⟩ := permL_vals rv el
    have hl : us.length = ks.length := by rw [← rv.length]; exact hlen
    rw [hks]
    apply wpAny_call
    have bd : BindsTo s1 fd ⟨[], ks.zip us⟩ (ps.zip l') := by
      obtain ⟨oc, od, kV, doc, pm, an, cdv, ct, osl, rfl, lk, hcd⟩ := F.ex
      exact .of_eq (hbd kV doc pm an cdv ct us l' hl h2)
    apply codeAny_mono (run_g G hr I1 bd h3 q)
    intro r s' hq
    cases r with
    | error e => exact hq.elim
    | ok fl =>
      cases fl with
      | ret u => exact hq
      | next => exact hq
      | brk => exact hq
      | cont => exact hq
end
end DL

set_option maxRecDepth 100000
set_option maxHeartbeats 400000
namespace DL
open PySem PySem.Spec PyProof.Rows L2
/-! ### x[::-1] -/
section
variable {prog : Program} {w : World} {A : Around} {E : Value → Shared → Prop} {s : Shared}
theorem fm_congr {α β : Type} {f g : α → Option β} : ∀ {l : List α}, (∀ a ∈ l, f a = g a) → l.filterMap f = l.filterMap g
  | [], _ => rfl
  | a :: l, h => by rw [List.filterMap_cons, List.filterMap_cons, h a List.mem_cons_self, fm_congr fun b hb => h b (List.mem_cons_of_mem _ hb)]
theorem adjust_back (n : Nat) : Builtin.Slice.sliceAdjust none none (-1) (n : Int) = ((n : Int) - 1, -1) := by
  simp [Builtin.Slice.sliceAdjust]
theorem places_back (n : Nat) : Builtin.Slice.slicePlaces ((n : Int) - 1) (-1) (-1) = n := by
  unfold Builtin.Slice.slicePlaces
  by_cases h : n = 0
  · subst h; decide
  · simp
    omega
theorem pick_back (xs : Array Value) : ((List.range xs.size).filterMap fun (m : Nat) => xs[(((xs.size : Int) - 1) + (m : Int) * -1).toNat]?).toArray = xs.toList.reverse.toArray := by
  have e : ((List.range xs.size).filterMap fun (m : Nat) => xs[(((xs.size : Int) - 1) + (m : Int) * -1).toNat]?) = ((List.range xs.size).map fun k => xs.size - 1 - k).filterMap (xs[·]?) := by
    rw [List.filterMap_map]
    apply fm_congr
    intro k hk
    have := List.mem_range.mp hk
    have e : (((xs.size : Int) - 1) + (k : Int) * -1).toNat = xs.size - 1 - k := by omega
    simp only [e, Function.comp]
  rw [e, PySem.W.krv_range, List.filterMap_reverse, PySem.W.krv_all]
theorem tup_back {t sl : Addr} {items : Array Value} {vl vu vs : Value} {Q : Value → Shared → Prop} (ht : IsTup s.heap t items) (hs : s.heap.IsSliceOf sl vl vu vs) (pl : IsPart vl none) (pu : IsPart vu none) (ps : IsPart vs (some (-1)))
    (h : Q (.ref s.heap.objs.size) { s with heap := s.heap.push { cls := .type "tuple", data := .seq items.toList.reverse.toArray } })
    (hsz : items.size ≤ sizeLine) : wpAny (model prog w) A (getItem (.ref t) (.ref sl)) Q E s := by
  have hz : sizeOk (.seq items.toList.reverse.toArray) := by
    show items.toList.reverse.toArray.size ≤ sizeLine
    rw [List.size_toArray, List.length_reverse, Array.length_toList]; exact hsz
  obtain ⟨os, h1, h2, h3⟩ := id hs
  have ty : s.TypeIs (.ref sl) "slice" := ⟨os, h1, h2⟩
  unfold getItem
  try with_reducible refine wpAny_holding ?_
  first | refine wpAny_bind (wpAny_pure ?_) | skip
  apply wpAny_bind
  apply wpAny_sequenceKey ht.typeIs (by decide)
  apply wpAny_bind
  apply wpAny_callSpecial?_slot (name := Str.ofString "__getitem__") ht.typeIs PyProof.Rows.slot_tuple_getitem
  apply wpAny_call_entry PyProof.Rows.slot_tuple_getitem ht.typeIs entry_tuple_getitem _ (args_tuple_getitem _ _)
  show wpAny _ _ (Builtin.Tuple.tupleItemsOf (.ref t) >>= _) _ _ s
  apply wpAny_bind
  apply tupleItemsOf_ ht
  apply wpAny_bind
  apply wpAny_typeOf ty
  rw [if_pos (by decide)]
  apply wpAny_bind
  unfold Builtin.Slice.sliceApplied Builtin.Slice.sliceFields
  refine wpAny_bind (wpAny_bind (wpAny_field h1 h3 (x := vl) rfl (wpAny_bind (wpAny_field h1 h3 (x := vu) rfl (wpAny_bind (wpAny_field h1 h3 (x := vs) rfl (wpAny_pure ?_)))))))
  refine wpAny_bind (HT.slicePart_ ps ?_)
  show wpAny _ _ (if ((-1 : Int) == 0) = true then _ else _) _ _ s
  rw [if_neg (by decide)]
  refine wpAny_bind (HT.slicePart_ pl (wpAny_bind (HT.slicePart_ pu (wpAny_bind (wpAny_pure ?_)))))
  show wpAny _ _ (match Builtin.Slice.sliceAdjust none none (-1) (items.size : Int) with | (lo, hi) => pure (lo, (-1 : Int), Builtin.Slice.slicePlaces lo hi (-1))) _ _ s
  rw [adjust_back]
  show wpAny _ _ (pure (((items.size : Int) - 1), (-1 : Int), Builtin.Slice.slicePlaces ((items.size : Int) - 1) (-1) (-1))) _ _ s
  rw [places_back]
  apply wpAny_pure
  show wpAny _ _ (if (((items.size : Int) - 1) == 0 && (-1 : Int) == 1 && items.size == items.size) = true then _ else _) _ _ s
  rw [if_neg (by simp), pick_back]
  first
    | exact wpAny_bind (m := Builtin.Tuple.tupleExact _) (wpAny_newObj_type (wpAny_pure ⟨_, rfl, wpAny_pure h⟩) hz)
    | exact wpAny_bind (m := Builtin.Tuple.tupleExact _) (wpAny_newObj_type (wpAny_bind (wpAny_pure (wpAny_pure ⟨_, rfl, wpAny_pure h⟩))) hz)
    | exact wpAny_bind (wpAny_bind (m := Builtin.Tuple.tupleExact _) (wpAny_newObj_type (wpAny_pure (wpAny_pure ⟨_, rfl, wpAny_pure h⟩)) hz))
    | exact wpAny_bind (wpAny_bind (m := Builtin.Tuple.tupleExact _) (wpAny_newObj_type (wpAny_pure ⟨_, rfl, wpAny_pure h⟩) hz))
end
section
variable {X : Cx}
def revS (z : Str) : Str := ⟨z.cps.toList.reverse.toArray⟩
def tBack (K : PySem.W.Frag) (te : TE) : TE := fun σ H Q => te σ H fun x H1 => (∃ a xs, x = .ref a ∧ SqL K H1 a xs ∧ ∀ p, H1 p = none → Q (.ref p) (upd H1 p (.lst xs.reverse))) ∨ (∃ a xs, x = .ref a ∧ SqT K H1 a xs ∧ ∃ b : Bool, ∀ p o, H1 p = none → o.dict = none → Q (.ref p) (upd H1 p (bareO b o xs.reverse))) ∨
  ∃ z, x = .str z ∧ z.length ≤ sizeLine ∧ Q (.str (revS z)) H1
theorem rev_made (z : Str) (t u : Tok) : sliceMade z t none none (some (-1, u)) = .str (revS z) := by
  unfold sliceMade slicePicked
  simp only [Option.map_some, Option.getD_some, Option.map_none]
  rw [if_neg (by simp), picked_rev]
  congr 2
  have e : z.length = z.cps.size := rfl
  rw [e, PySem.W.krv_range, List.filterMap_reverse, PySem.W.krv_all]
theorem pe_back {e : Expr} {te : TE} {k : Nat} {p1 p2 p3 pos : Pos} (he : PE X e te) : PE X (.Subscript e (.Slice none none (some (.UnaryOp .USub (.Constant (.int 1) k p1) p2)) p3) pos) (tBack X.K te) := by
  constructor
  intro pins s σ H Q I h
  apply Subscript_
  refine thn (he.run pins s σ H _ I h) fun v s1 ⟨x, H1, I1, r1, q1⟩ => ?_
  have step : PO X (some (.UnaryOp .USub (.Constant (.int 1) k p1) p2)) (tPart (tUn (rU fun i => .int (-i)) (tC (.int 1)))) := po_some (pe_un un_neg pe_int)
  apply wpAny_Slice
  refine thn (po_none.run pins s1 σ H1 (fun o G => o = none ∧ G = H1) I1 ⟨rfl, rfl⟩) fun vl s2 ⟨l, H2, I2, pl, el, e2⟩ => ?_
  subst el e2
  refine thn (po_none.run pins s2 σ H2 (fun o G => o = none ∧ G = H2) I2 ⟨rfl, rfl⟩) fun vu s3 ⟨u, H3, I3, pu, eu, e3⟩ => ?_
  subst eu e3
  refine thn (step.run pins s3 σ H3 (fun o G => o = some (-1) ∧ G = H3) I3 ⟨1, rfl, -1, rfl, rfl, rfl⟩) fun vs s4 ⟨o, H4, I4, ps, eo, e4⟩ => ?_
  subst eo e4
  have I5 : Inv X pins σ H4 { s4 with heap := s4.heap.push { cls := .type "slice", data := .fields #[vl, vu, vs] } } := I4.kept (t' := s4.toks) fun b ob q => Heap.get?_push_of_some _ q
  rcases q1 with ⟨a, xs, rfl, hx, q⟩ | ⟨a, xs, rfl, hx, bb, q⟩ | ⟨z, rfl, hz, q⟩
  · cases r1
    obtain ⟨its, r, ht, hz⟩ := I5.list hx
    have hlen := r.length
    apply tail_any (ops := [.ref a, .ref s4.heap.objs.size]) ht.isList.typeIs (PySem.slot_list_getitem.lookup) _ (by with_unfolding_all rfl)
    apply wpAny_getItem_list_slice ht.isList (Heap.IsSliceOf.new _ vl vu vs) pl pu ps (by decide) _ (by rw [List.size_toArray]; omega)
    rw [PySem.W.krv_pick]
    refine ⟨.ref _, _, I5.laid (t' := s4.toks) (o := .lst xs.reverse) (fun b ob q => Heap.get?_push_of_some _ q) (Nat.le_refl _) ?_, rfl, q _ (I5.hok.fresh (Nat.le_refl _))⟩
    exact ⟨by rw [List.length_reverse]; exact hz, _, 0, r.reverse, Heap.get?_push_size _ rfl⟩
  · cases r1
    obtain ⟨its, r, ht, hz⟩ := I5.tuple hx
    have hlen := r.length
    apply tail_any (ops := [.ref a, .ref s4.heap.objs.size]) ht.typeIs (PyProof.Rows.slot_tuple_getitem.lookup) _ (by with_unfolding_all rfl)
    apply tup_back ht (Heap.IsSliceOf.new _ vl vu vs) pl pu ps _ (by rw [List.size_toArray]; omega)
    exact ⟨.ref _, _, I5.laid (t' := s4.toks) (o := bareO bb _ xs.reverse) (fun b ob q => Heap.get?_push_of_some _ q) (Nat.le_refl _) (bare_ok bb (Heap.get?_push_size _ rfl) fun G => ⟨by rw [List.length_reverse]; exact hz, _, by simpa using r.reverse, IsTup.new _ _⟩), rfl, q _ _ (I5.hok.fresh (Nat.le_refl _)) rfl⟩
  · obtain ⟨t, rfl⟩ := r1
    apply tail_any (ops := [.str z t, .ref s4.heap.objs.size]) (typeIs_str _ _ _) (F.slot_str_getitem.lookup) _ (by with_unfolding_all rfl)
    obtain ⟨os, hos, hcs, hds⟩ := Heap.IsSliceOf.new s4.heap vl vu vs
    obtain ⟨l, rfl, el⟩ := IsPart.raw pl
    obtain ⟨u, rfl, eu⟩ := IsPart.raw pu
    obtain ⟨st, rfl, es⟩ := IsPart.raw ps
    have hl : l = none := by cases l with | none => rfl | some _ => cases el
    have hu : u = none := by cases u with | none => rfl | some _ => cases eu
    obtain ⟨tk, hst⟩ : ∃ tk, st = some (-1, tk) := by
      cases st with
      | none => cases es
      | some p => obtain ⟨i, tk⟩ := p; simp at es; exact ⟨tk, by rw [es]⟩
    subst hl hu hst
    apply wpAny_getItem_str_slice (l := none) (u := none) (st := some (-1, tk)) ⟨os, hos, hcs, hds⟩ rfl
    rw [rev_made]
    refine ⟨?_, .str _, H4, I5.tok _, ⟨_, rfl⟩, q⟩
    show (revS z).cps.size ≤ sizeLine
    simp only [revS, List.size_toArray, List.length_reverse, Array.length_toList]
    exact hz
def backW (m : Bool) (w : W) (h : Hh) : Option (W × Hh) := match w with
  | .dat (.list ds) => mkL m ds.reverse h
  | .dat (.tuple ds) => some (.dat (.tuple ds.reverse), h)
  | .dat (.str z) => if z.length ≤ sizeLine then some (.dat (.str (revS z)), h) else none
  | .ref n => match lstAt h n with
    | some ds => mkL m ds.reverse h
    | none => none
  | _ => none
def fRev (m : Bool) (f : EM) : EM := fun ρ h => obnd (f ρ h) fun w h1 => backW m w h1
theorem d_rev (m : Bool) {e : Expr} {f : EM} {k : Nat} {p1 p2 p3 pos : Pos} (he : DE X e f) : DE X (.Subscript e (.Slice none none (some (.UnaryOp .USub (.Constant (.int 1) k p1) p2)) p3) pos) (fRev m f) := (pe_back he).weak fun σ H Q => by
  rintro ⟨M, h, ρ, r, rs, c⟩
  obtain ⟨w, h1, e1, c1⟩ := Cont.bind (δ := Unit) c
  refine ⟨M, h, ρ, r, rs, w, h1, e1, fun M1 H1 v x1 r1 v1 => ?_⟩
  have c2 := c1 M1 H1 x1
  unfold backW at c2
  split at c2
  · cases (show RD M1 H1 _ _ from v1) with
    | lst n e q => exact .inl ⟨_, _, rfl, .of e, fun p np => mkL_fin r1 np q.rev c2⟩
  · cases (show RD M1 H1 _ _ from v1) with
    | tup n e q => exact .inr (.inl ⟨_, _, rfl, e.sq, _, fun p o np ho => mkB_fin r1 np q.rev ho c2⟩)
  · split at c2
    · rename_i hz
      cases (show RD M1 H1 _ _ from v1)
      exact .inr (.inr ⟨_, rfl, hz, c2.here r1 (.str _)⟩)
    · exact c2.no.elim
  · split at c2
    · rename_i n ds el
      obtain ⟨a, ea, rfl⟩ := v1
      obtain ⟨xs, hx, q⟩ := lstAt_ok r1 el ea
      exact .inl ⟨_, _, rfl, .of hx, fun p np => mkL_fin r1 np q.rev c2⟩
    · exact c2.no.elim
  · exact c2.no.elim
/-! ### repr -/
def isDsp : D → Bool
  | .list _ => true
  | .tuple _ => true
  | _ => false
def reprW (ws : List W) (h : Hh) : Option (W × Hh) := match ws with
  | [w] => match deref h w with
    | some d => if (isDsp d && shp d && d.showable && decide (d.shown.length ≤ sizeLine)) = true then ok (.str d.shown) h else none
    | none => none
  | _ => none
def rRepr (K : PySem.W.Frag) : List V → Hp → VK → Prop := fun xs H Q => ∃ a d, xs = [.ref a] ∧ Dp K H (.ref a) d ∧ shp d = true ∧ d.showable = true ∧ d.shown.length ≤ sizeLine ∧ Q (.str d.shown) H
theorem cr_repr {k : Nat} (hr : RG k X.A) : CallR X (.builtin "repr") (rRepr X.K) := by
  intro pins s σ H xs us Q I r h
  obtain ⟨a, d, rfl, dp, sh, hs, hz, q⟩ := h
  obtain rfl := Vals.ref1 r
  obtain ⟨as, rd⟩ := Dp.reads I d _ _ dp rfl
  have hd := SeqAt.depth_of_shaped sh
  apply repr_of_reads' rd hs (PyData.noDict_hsm (PyData.hasDict_of_canLay d (SeqAt.canLay_of_shaped sh))) hr.gd _ (fun _ _ e => e) _ hz
  · have := hr.room.un; omega
  · intro h' u tk hk
    exact ⟨.str _, H, I.kept hk, ⟨u, rfl⟩, q⟩
theorem s_repr : SemA (rRepr X.K) reprW := by
  intro M H h vs ws Q rep rv c
  unfold reprW at c
  split at c
  · obtain ⟨v, rfl, r⟩ := rvs1 rv
    split at c
    · rename_i d e
      split at c
      · rename_i hz
        simp only [Bool.and_eq_true, decide_eq_true_eq] at hz
        obtain ⟨⟨⟨h1, h2⟩, h3⟩, h4⟩ := hz
        have rr := deref_rr rep r e
        have dp := rr_dp (K := X.K) rr (SeqAt.canLay_of_shaped h2)
        obtain ⟨a, rfl⟩ : ∃ a, v = .ref a := by
          cases d with
          | list ds => obtain ⟨a, _, e, _⟩ := rr; exact ⟨a, e⟩
          | tuple ds => obtain ⟨a, _, e, _⟩ := rr_tup rr; exact ⟨a, e⟩
          | _ => cases h1
        exact ⟨a, d, rfl, dp, h2, h3, h4, c.here rep (.str _)⟩
      · exact c.no.elim
    · exact c.no.elim
  · exact c.no.elim
end
end DL

set_option maxRecDepth 100000
set_option maxHeartbeats 400000
namespace DL
open PySem PySem.Spec PyProof.Rows L2
/-! ### the built-ins' names stand -/
structure Bi (mg : Str → Option Value) : Prop where
  len : mg "len" = none
  abs : mg "abs" = none
  int : mg "int" = none
  max : mg "max" = none
  min : mg "min" = none
  all : mg "all" = none
  any : mg "any" = none
  sum : mg "sum" = none
  tuple : mg "tuple" = none
  list : mg "list" = none
  dict : mg "dict" = none
  sorted : mg "sorted" = none
  isinstance : mg "isinstance" = none
  str : mg "str" = none
  bool : mg "bool" = none
  range : mg "range" = none
  enumerate : mg "enumerate" = none
  zip : mg "zip" = none
  reversed : mg "reversed" = none
  repr : mg "repr" = none
  set : mg "set" = none
section
variable {X : Cx} {p pos : Pos} {e e2 : Expr} {es : List Expr} {g : AM} {f : EM}
theorem bt_int : bootBuiltins "int" = some (.type "int") := by decide +kernel
theorem bt_str : bootBuiltins "str" = some (.type "str") := by decide +kernel
theorem bt_list : bootBuiltins "list" = some (.type "list") := by decide +kernel
theorem bt_tuple : bootBuiltins "tuple" = some (.type "tuple") := by decide +kernel
theorem bt_bool : bootBuiltins "bool" = some (.type "bool") := by decide +kernel
theorem bt_dict : bootBuiltins "dict" = some (.type "dict") := by decide +kernel
theorem d_abs (hm : X.mg "abs" = none) (ha : DA X [e] g) (hg : Gl X "abs" := by rfl) (he : starEach [e] X.env = (false, eval e X.env) :: starEach [] X.env := by rfl) (hpl : (backTo pos (starEach [] X.env)).any (·.1) = false := by rfl) : DE X (.Call (.Name "abs" p) [e] [] pos) (fA absW g) :=
  d_callB call_abs s_abs hm (by decide +kernel) ha hg (by decide) (by decide) he hpl
theorem d_max (hc : X.calm = true) (hm : X.mg "max" = none) (ha : DA X [e, e2] g) (hg : Gl X "max" := by rfl) (he : starEach [e, e2] X.env = (false, eval e X.env) :: starEach [e2] X.env := by rfl) (hpl : (backTo pos (starEach [e2] X.env)).any (·.1) = false := by rfl) : DE X (.Call (.Name "max" p) [e, e2] [] pos) (fA maxW g) :=
  d_callB (call_max2 hc) s_max hm (by decide +kernel) ha hg (by decide) (by decide) he hpl
theorem d_min (hc : X.calm = true) (hm : X.mg "min" = none) (ha : DA X [e, e2] g) (hg : Gl X "min" := by rfl) (he : starEach [e, e2] X.env = (false, eval e X.env) :: starEach [e2] X.env := by rfl) (hpl : (backTo pos (starEach [e2] X.env)).any (·.1) = false := by rfl) : DE X (.Call (.Name "min" p) [e, e2] [] pos) (fA minW g) :=
  d_callB (call_min2 hc) s_min hm (by decide +kernel) ha hg (by decide) (by decide) he hpl
theorem d_all (hc : X.calm = true) (hm : X.mg "all" = none) (ha : DA X [e] g) (hg : Gl X "all" := by rfl) (he : starEach [e] X.env = (false, eval e X.env) :: starEach [] X.env := by rfl) (hpl : (backTo pos (starEach [] X.env)).any (·.1) = false := by rfl) : DE X (.Call (.Name "all" p) [e] [] pos) (fA allW g) :=
  d_callB (cr_all hc) s_all hm (by decide +kernel) ha hg (by decide) (by decide) he hpl
theorem d_any (hc : X.calm = true) (hm : X.mg "any" = none) (ha : DA X [e] g) (hg : Gl X "any" := by rfl) (he : starEach [e] X.env = (false, eval e X.env) :: starEach [] X.env := by rfl) (hpl : (backTo pos (starEach [] X.env)).any (·.1) = false := by rfl) : DE X (.Call (.Name "any" p) [e] [] pos) (fA anyW g) :=
  d_callB (cr_any hc) s_any hm (by decide +kernel) ha hg (by decide) (by decide) he hpl
theorem d_sum (hc : X.calm = true) (hm : X.mg "sum" = none) (ha : DA X [e] g) (hg : Gl X "sum" := by rfl) (he : starEach [e] X.env = (false, eval e X.env) :: starEach [] X.env := by rfl) (hpl : (backTo pos (starEach [] X.env)).any (·.1) = false := by rfl) : DE X (.Call (.Name "sum" p) [e] [] pos) (fA sumW g) :=
  d_callB (cr_sum hc) s_sum hm (by decide +kernel) ha hg (by decide) (by decide) he hpl
theorem d_sorted {k : Nat} (hr : RG k X.A) (m : Bool) (hm : X.mg "sorted" = none) (ha : DA X [e] g) (hg : Gl X "sorted" := by rfl) (he : starEach [e] X.env = (false, eval e X.env) :: starEach [] X.env := by rfl) (hpl : (backTo pos (starEach [] X.env)).any (·.1) = false := by rfl) : DE X (.Call (.Name "sorted" p) [e] [] pos) (fA (sortW m) g) :=
  d_callB (cr_sortedA hr.room) (s_sorted m) hm (by decide +kernel) ha hg (by decide) (by decide) he hpl
theorem d_repr {k : Nat} (hr : RG k X.A) (hm : X.mg "repr" = none) (ha : DA X [e] g) (hg : Gl X "repr" := by rfl) (he : starEach [e] X.env = (false, eval e X.env) :: starEach [] X.env := by rfl) (hpl : (backTo pos (starEach [] X.env)).any (·.1) = false := by rfl) : DE X (.Call (.Name "repr" p) [e] [] pos) (fA reprW g) :=
  d_callB (cr_repr hr) s_repr hm (by decide +kernel) ha hg (by decide) (by decide) he hpl
theorem d_intC (hm : X.mg "int" = none) (ha : DA X [e] g) (hg : Gl X "int" := by rfl) (he : starEach [e] X.env = (false, eval e X.env) :: starEach [] X.env := by rfl) (hpl : (backTo pos (starEach [] X.env)).any (·.1) = false := by rfl) : DE X (.Call (.Name "int" p) [e] [] pos) (fA intC g) :=
  d_callT call_int1 s_intC hm bt_int ha hg (by decide) (by decide) he hpl
theorem d_tuple (hm : X.mg "tuple" = none) (ha : DA X [e] g) (hg : Gl X "tuple" := by rfl) (he : starEach [e] X.env = (false, eval e X.env) :: starEach [] X.env := by rfl) (hpl : (backTo pos (starEach [] X.env)).any (·.1) = false := by rfl) : DE X (.Call (.Name "tuple" p) [e] [] pos) (fA tupleW g) :=
  d_callT call_tupB s_tuple hm bt_tuple ha hg (by decide) (by decide) he hpl
theorem d_list (m : Bool) (hm : X.mg "list" = none) (ha : DA X [e] g) (hg : Gl X "list" := by rfl) (he : starEach [e] X.env = (false, eval e X.env) :: starEach [] X.env := by rfl) (hpl : (backTo pos (starEach [] X.env)).any (·.1) = false := by rfl) : DE X (.Call (.Name "list" p) [e] [] pos) (fA (listW m) g) :=
  d_callT call_list_of (s_list m) hm bt_list ha hg (by decide) (by decide) he hpl
end
/-! ### the end -/
theorem law_g {P : Program} {w : World} {K : PySem.W.Frag} {mg mb : Str → Option Value} {k : Nat} {fa a : Addr} {fd : FuncData} {x : Str} {sp : Sp} {s₁ : Shared} {vs : List Value} {ns : List Int}
    (kx : K.In s₁.heap) (hns : s₁.heap.Ns mainGlobals mg) (hb : s₁.heap.Ns builtinsNs mb) (hbb : ∀ x : Str, x ≠ "__name__" → mb x = bootBuiltins x) (hlim : s₁.heap.NoLimit) (hg : s₁.gens = #[])
    (ha : s₁.heap.get? a = some { cls := .type "list", data := .seq vs.toArray }) (hi : IntsAre vs ns) (hl : ns.length ≤ sizeLine) (hr : Room k callerA)
    (F : ∀ base : Heap, K.In base → base.Ns mainGlobals mg → FnG P w K mg base CX0 k fa fd [x] sp) (hbind : ∀ (s : Shared) (u : Value), BindsTo s fd ⟨[u], []⟩ [(x, u)])
    (hka : K.lookup a = none)
    (hsp : ∀ H : Hp, (∃ o, H a = some (.frz o (.lst (ns.map V.int)))) → (∀ b, b ≠ a → H b = none) → sp [.ref a] H (fun v _ => v = .bl true) fun _ _ _ => False) :
    codeAny (model P w) callerA (.call (.ref fa) ⟨[.ref a], []⟩) (fun r s' => r = .ok (.ret (.bool true)) ∧ OldK s₁.heap s'.heap ∧ s'.os = s₁.os ∧ AllBare s'.gens) s₁ := by
  have rv := vals_ints hi
  let ob : Obj := { cls := .type "list", data := .seq vs.toArray }
  let H : Hp := fun b => if b = a then some (.frz ob (.lst (ns.map V.int))) else none
  have Ha : H a = some (.frz ob (.lst (ns.map V.int))) := if_pos rfl
  have Hn : ∀ b, b ≠ a → H b = none := fun b h => if_neg h
  have hok : HOk P w H s₁.heap := by
    intro b u e
    by_cases h : b = a
    · subst h
      rw [Ha] at e
      cases e
      exact ⟨ha, by rw [List.length_map]; exact hl, vs, _, rv, ha⟩
    · rw [Hn b h] at e; cases e
  have hid : ∀ {b : Addr} {o : Obj}, s₁.heap.get? b = some o → H b = none → (hidT s₁.heap H).get? b = some o := fun e n => hidT_get e n
  have isd : ∀ {b : Addr} {o : Obj} {es : Array DictEntry} {ep : Nat}, s₁.heap.get? b = some o → o.data = .dict es ep → H b = none := by
    intro b o es ep e d
    apply Hn
    intro z
    subst z
    rw [ha] at e
    cases e
    cases d
  have nsk : ∀ {b : Addr} {m : Str → Option Value}, s₁.heap.Ns b m → (hidT s₁.heap H).Ns b m := fun {b m} q => by
    obtain ⟨o, es, ep, e, d, r⟩ := q
    exact ⟨o, es, ep, hid e (isd e d), d, r⟩
  have kb : K.In (hidT s₁.heap H) := by
    intro b o e
    apply hid (kx b o e)
    apply Hn
    intro z
    subst z
    rw [hka] at e
    cases e
  have hM : Mod K mg (hidT s₁.heap H) := by
    refine ⟨kb, nsk hns, ⟨mb, nsk hb, hbb⟩, ?_⟩
    obtain ⟨mc, h1, h2⟩ := hlim
    exact ⟨mc, nsk h1, h2⟩
  have e0 : Env0 P w K mg (hidT s₁.heap H) callerA [] s₁ H := by
    refine ⟨rfl, hM, fun b o e => of_hidT e, Nat.le_of_eq (hidT_size _ _), trivial, fun b hb => ?_, hok, .of_eq hg⟩
    exact absurd (show b ∈ ([] : List Addr) from hb) (by simp)
  apply codeAny_mono ((F _ kb (nsk hns)).run callerA [] s₁ H ⟨[.ref a], []⟩ [.ref a] [.ref a] _ _ ⟨hr, rfl⟩ e0 (hbind s₁ (.ref a)) (.cons rfl .nil) (hsp H ⟨ob, Ha⟩ Hn))
  intro r s' h
  cases r with
  | error e => exact h.elim
  | ok fl => cases fl with
    | next => exact h.elim
    | brk => exact h.elim
    | cont => exact h.elim
    | ret u =>
      obtain ⟨v, H', os, bare, un, hok', r', q⟩ := h
      obtain rfl : v = .bl true := q
      obtain rfl : u = Value.bool true := r'
      refine ⟨rfl, OldK.of_keep fun b o e => ?_, os, bare⟩
      by_cases hb' : b = a
      · subst hb'
        have z2 := un.frzs b ob _ Ha
        obtain ⟨e1, _⟩ := hok b _ Ha
        obtain ⟨e2, _⟩ := hok' b _ z2
        rw [e] at e1
        cases e1
        exact e2
      · exact un.keep b o e (Hn b hb') (fun z => absurd (show b ∈ ([] : List Addr) from z) (by simp)) (by simp)
def noList (K : PySem.W.Frag) : Bool := K.all fun p => match p.2.cls with
  | .type "list" => false
  | _ => true
theorem lookup_mem {K : PySem.W.Frag} {a : Addr} {o : Obj} (e : K.lookup a = some o) : (a, o) ∈ K := by
  induction K with
  | nil => cases e
  | cons p r ih =>
    obtain ⟨b, u⟩ := p
    rw [List.lookup_cons] at e
    split at e
    · rename_i q
      have : a = b := by simpa using q
      cases e
      subst this
      exact List.mem_cons_self
    · exact List.mem_cons_of_mem _ (ih e)
theorem walk_g {l : PySem.W.OpenLaw} {k : Nat} {q : Program} {loose : List Str} {XP : (Str → Option Value) → Heap → Prop} {YP : World → Heap → Prop} {d : DefRec} {K : Params → PySem.W.Frag} {x : Str} {m : FM}
    (hn : l.most = some 63) (hdf : d.params.defaults = []) (hr : Room k callerA)
    (hY : ∀ (w : World) (h : Heap), YP w h → (K w.params).In h) (hnl : ∀ w : World, noList (K w.params) = true)
    (F : ∀ (w : World) (mg : Str → Option Value) (fa : Addr) (h : Heap), (K w.params).In h → h.Ns mainGlobals mg → mg d.name = some (.ref fa) →
      ∃ fd : FuncData, (∀ (s : Shared) (u : Value), BindsTo s fd ⟨[u], []⟩ [(x, u)]) ∧ ∀ base : Heap, (K w.params).In base → base.Ns mainGlobals mg → FnG l.prog w (K w.params) mg base CX0 k fa fd [x] (spD m))
    (hm : ∀ ns : List Int, ns.length ≤ 63 → ∃ h', m [.scr ns] [] = some (.dat (.bool true), h')) :
    PySem.W.WalkO q loose XP YP l.row.toRowW d [] (fun f vs => PySem.call f vs) := by
  apply Att.attach_call hn hdf
  intro w s₀ s₁ mg mb fa o pm cd doc a vs ns G Y ho hd hcd hmg hobj hints hlen hg
  have KX := hY w _ Y
  obtain ⟨fd, hb, hF⟩ := F w mg fa _ KX G.T.g hmg
  have hka : (K w.params).lookup a = none := by
    cases e : (K w.params).lookup a with
    | none => rfl
    | some u =>
      exfalso
      have e1 := KX a u e
      rw [hobj] at e1
      cases e1
      have := List.all_eq_true.mp (hnl w) _ (lookup_mem e)
      cases this
  apply law_g KX G.T.g G.T.b G.T.builtins G.T.nolimit hg hobj hints (Nat.le_trans hlen (by decide)) hr hF hb hka
  intro H ha hn'
  obtain ⟨ob, ha⟩ := ha
  obtain ⟨h', e⟩ := hm ns hlen
  have rep : Rep ⟨[], []⟩ H [] := ⟨fun a z => (by cases z), rfl, fun i j a z => (by simp at z), fun i a z => (by simp at z), fun i z => (by simp at z)⟩
  have nh : ¬ Mm.Has ⟨[], []⟩ a := fun z => (by rcases z with z | z <;> cases z)
  refine ⟨⟨[], []⟩, [], [.scr ns], rep, .cons ⟨a, ob, rfl, nh, ha⟩ .nil, .dat (.bool true), h', e, fun M' H' v _ _ r => ?_⟩
  cases (show RD M' H' v _ from r)
  rfl
end DL

set_option maxRecDepth 100000
set_option maxHeartbeats 1000000
namespace DL
open PySem PySem.Spec PyProof.Rows L2
/-! ### enumerate(t), t a tuple -/
theorem enum_meets {v : Value} {o : Obj} {H : Heap → Prop} (B : Begins v o H) : Meets (Builtin.«enumerate.__new__» ⟨[.type "enumerate", v], []⟩) (fun _ R s => H s.heap ∧
    R (.ok (.ret (.ref (s.heap.push o).objs.size))) { s with heap := (s.heap.push o).push { cls := .type "enumerate", data := .fields #[.none, .bool false, .ref s.heap.objs.size, rawInt 0, .none, .none] } }) := by
  apply Meets.of_wp
  intro prog w A R s h
  obtain ⟨hp, g, d, tk, os⟩ := s
  obtain ⟨h1, h⟩ := h
  have hsub := sub_enumerate
  have it : ∀ {A' : Around} {E : Value → Shared → Prop} {Q : Value → Shared → Prop}, Q (.ref hp.objs.size) ⟨hp.push o, g, d, tk, os⟩ → wpAny (model prog w) A' (pyIter v) Q E ⟨hp, g, d, tk, os⟩ := by
    intro A' E Q q
    exact B.iter prog w _ _ ⟨hp, g, d, tk, os⟩ _ h1 q
  wp_walk using it
  apply wpAny_stack_any
  intro st
  apply wpAny_pure
  split
  · rename_i c _ _ _ _ _
    cases (c == Value.type "enumerate") <;> (wp_walk using it; exact ⟨_, rfl, h⟩)
  · wp_walk using it
    exact ⟨_, rfl, h⟩
section
variable {prog : Program} {w : World} {A : Around} {E : Value → Shared → Prop} {s : Shared}
theorem call_enumT {v : Value} {o : Obj} {H : Heap → Prop} {Q : Value → Shared → Prop} (B : Begins v o H) (h1 : H s.heap)
    (h : ∀ h', IsEnum h' (s.heap.objs.size + 1) s.heap.objs.size 0 .none → h'.get? s.heap.objs.size = some o → (∀ b o, s.heap.get? b = some o → h'.get? b = some o) → Q (.ref (s.heap.objs.size + 1)) { s with heap := h' }) :
    wpAny (model prog w) A (call (.type "enumerate") [v]) Q E s := by
  apply callType_new F.called_enumerate (by decide) (F.typeCall_enumerate_1 _) (F.newCall_enumerate_1 _) (fun obj => F.args_object_init_2 obj _) F.entry_enumerate_new (enum_meets B)
  refine ⟨h1, ?_⟩
  have hz : (s.heap.push o).objs.size = s.heap.objs.size + 1 := Heap.size_push ..
  show _ ∧ _
  rw [hz]
  have he : IsEnum ((s.heap.push o).push { cls := .type "enumerate", data := .fields #[.none, .bool false, .ref s.heap.objs.size, rawInt 0, .none, .none] }) (s.heap.objs.size + 1) s.heap.objs.size 0 .none := by
    have z := Heap.get?_push_size (s.heap.push o) (o := { cls := .type "enumerate", data := .fields #[.none, .bool false, .ref s.heap.objs.size, rawInt 0, .none, .none] }) rfl
    rw [hz] at z
    exact z
  exact ⟨⟨_, he, rfl⟩, h _ he (Heap.get?_push_of_some _ (Heap.get?_push_size _ B.free)) fun b o x => Heap.get?_push_of_some _ (Heap.get?_push_of_some _ x)⟩
end
def IteT (K : PySem.W.Frag) (a : Addr) : It :=
  ⟨fun i H => ∃ (xs : List V) (x : V), SqT K H a xs ∧ xs[i]? = some x, fun i H v H' => ∃ T x, v = .ref T ∧ H T = none ∧ H' = upd H T (.tup [.int (i : Nat), x]) ∧ ∀ xs, SqT K H a xs → xs[i]? = some x, fun i H => ∃ xs : List V, SqT K H a xs ∧ xs.length ≤ i⟩
theorem turn_enumT {P : Program} {w : World} {K : PySem.W.Frag} {elts : List Expr} {kk : Nat} {tpos : Pos} (a e it : Addr) :
    Turn P w K (.Tuple elts kk tpos) (IteT K a) [e, it] e (fun i h => (∃ old, IsEnum h e it ((i : Nat) : Int) old) ∧ h.IsTupleIter it a i ∧ e ≠ it ∧ a ≠ it ∧ e ≠ a) where
  mem := by simp
  obj := fun i h st b hb => by
    obtain ⟨⟨old, he⟩, ⟨o, ho, hc, hd⟩, _⟩ := st
    have e' : b = e ∨ b = it := by simpa using hb
    rcases e' with z | z
    · rw [z]; exact ⟨_, he, fun v q => nomatch q⟩
    · rw [z]; exact ⟨o, ho, fun v q => by rw [hd] at q; cases q⟩
  keep := fun i h h' st k => let ⟨⟨old, he⟩, hi, hne⟩ := st; ⟨⟨old, k e (by simp) _ he⟩, hi.at fun o q => k it (by simp) o q, hne⟩
  item := by
    intro X hP hw hK hc i pins s σ H E I hf st hg
    subst hP hw hK
    obtain ⟨⟨old, he⟩, hit, hne, hna, hea⟩ := st
    obtain ⟨xs, x, hq, hx⟩ := hg
    obtain ⟨its, rv, p, hz⟩ := I.tuple hq
    obtain ⟨u, hu, ru⟩ := rv.get hx
    have hel : e < s.heap.objs.size := Heap.lt_size he
    have hil : it < s.heap.objs.size := by obtain ⟨_, q, _⟩ := hit; exact Heap.lt_size q
    have hi : i < its.toArray.size := by
      have := (List.getElem?_eq_some_iff.mp hu).1
      simpa using this
    have DD := Draws.tuple (prog := X.prog) (w := X.w) (A := X.A.in1) (I.ok.hd hc) it a hna its.toArray
    apply wpAny_pyNext_enum_itemD DD he ⟨hit, p⟩ hi hne (by simp [hne, hea])
    intro x' h' tk hP ho hs hT hsz hk
    obtain ⟨hit', p'⟩ := hs
    have ex : x' = u := by
      have h2 : its[i]? = some x' := by simpa using hP
      rw [hu] at h2
      exact (Option.some.inj h2).symm
    subst ex
    refine ⟨_, rfl, wpAny_letOwnedTupleGo_enum (s := { s with heap := h', toks := tk + 1 }) ho fun h'' he' sb => ?_⟩
    have hT2 : h''.get? s.heap.objs.size = some { cls := .type "tuple", data := .seq #[.int i tk, x'] } := (sb.2 _ (Nat.ne_of_gt hel)).trans hT
    have new : ObjOk X.prog X.w (upd H s.heap.objs.size (.tup [.int (i : Nat), x])) h'' s.heap.objs.size (.tup [.int (i : Nat), x]) :=
      ⟨by show 2 ≤ sizeLine; decide, [.int i tk, x'], .cons ⟨_, rfl⟩ (.cons ru .nil), ⟨_, hT2, rfl, _, rfl⟩⟩
    have I1 : Inv X pins σ (upd H s.heap.objs.size (.tup [.int (i : Nat), x])) { s with heap := h'', toks := tk + 1 } := by
      apply I.turnedNew (ch := [e, it]) _ hf (Nat.le_refl _) new
      intro b ob hb q
      have h1 : b ≠ e := fun z => hb (by simp [z])
      have h2 : b ≠ it := fun z => hb (by simp [z])
      rw [sb.2 b h1]
      exact hk b ob h1 h2 q
    refine ⟨.ref s.heap.objs.size, _, I1, rfl, ⟨_, x, rfl, I.hok.fresh (Nat.le_refl _), rfl, fun ys hy => by rw [I.tuple_inj hy hq]; exact hx⟩, ⟨⟨x', ?_⟩, hit'.at fun o q => (sb.2 it (Ne.symm hne)).trans q, hne, hna, hea⟩, fun b hb => ?_⟩
    · have e1 : ((i + 1 : Nat) : Int) = (i : Int) + 1 := by omega
      rw [e1]; exact he'
    · have hb' : b < s.heap.objs.size := by
        have e' : b = e ∨ b = it := by simpa using hb
        rcases e' with z | z
        · rw [z]; exact hel
        · rw [z]; exact hil
      rw [upd_ne (Nat.ne_of_lt hb')]
      exact (hf b hb).1
  done := by
    intro X hP hw hK hc i pins s σ H E I hf st hg
    subst hP hw hK
    obtain ⟨⟨old, he⟩, hit, hne, hna, hea⟩ := st
    obtain ⟨xs, hq, hx⟩ := hg
    obtain ⟨its, rv, p, hz⟩ := I.tuple hq
    obtain ⟨f0, f1, f2, f3, f4, f5⟩ := hf it (by simp)
    have hl := rv.length
    unfold pyNext
    have hT : s.TypeIs (.ref e) "enumerate" := ⟨_, he, rfl⟩
    apply wpAny_bind
    apply wpAny_attempt
    apply wpAny_callSpecial?_slot (name := Str.ofString "__next__") hT F.slot_enumerate_next
    apply wpAny_call_entry F.slot_enumerate_next hT F.entry_enumerate_next _ (F.args_enumerate_next_1 _)
    show wpAny _ _ (field (.ref e) 2 >>= _) _ _ _
    apply wpAny_bind
    apply wpAny_field he rfl (x := .ref it) rfl
    apply wpAny_bind
    apply wpAny_nextOf_tuple_end (A := X.A.in1) (show X.A.in1.handled = none from I.ok.hd hc) hit p (by simp; omega)
    intro h' x he' hx'
    obtain ⟨o, ho, hc'⟩ := hx'
    refine wpAny_bind (wpAny_isInstance (T := "StopIteration") (b := true) ⟨o, ho, hc'⟩ isSubtype_stop ?_)
    apply wpAny_pure
    exact ⟨rfl, I.turned (t' := s.toks) (fun b o hb q => he' b o hb q) f0 f1 f3 f4 f5⟩
  self := fun A i s Q E st h => let ⟨⟨_, he⟩, _⟩ := st; wpAny_pyIter_enum he h
def iEnumT (K : PySem.W.Frag) (ta : TA) : TI := fun σ H R => ta σ H fun vs H1 => (∃ a xs, vs = [.ref a] ∧ SqL K H1 a xs ∧ R (Ite K a) H1) ∨ ∃ a xs, vs = [.ref a] ∧ SqT K H1 a xs ∧ H1 a ≠ none ∧ R (IteT K a) H1
theorem pi_enumT {X : Cx} {e : Expr} {ta : TA} {p pos tpos : Pos} {elts : List Expr} {kk : Nat} (hg : Gl X "enumerate") (hm : X.mg "enumerate" = none) (ha : PA X [e] ta) (hs : starEach [e] X.env = [(false, eval e X.env)] := by rfl) :
    PI X (.Tuple elts kk tpos) (.Call (.Name "enumerate" p) [e] [] pos) (iEnumT X.K ta) := by
  constructor
  intro pins s σ H R I h
  refine Call_ ?_
  apply ld_blt I hg hm boot_enumerate
  apply PyProof.Rows.callWith_type1 _ hs rfl
  refine thn (ha.run pos pins s σ H _ I h) fun us s1 ⟨vs, H1, I1, r1, q1⟩ => ?_
  rcases q1 with ⟨a, xs, ex, hq, q⟩ | ⟨a, xs, ex, hq, hn, q⟩
  · subst ex
    obtain rfl := Vals.ref1 r1
    obtain ⟨its, rv, p', hz⟩ := I1.list hq
    apply call_enumerate_list p'.isList
    intro h' he hit hsz hk
    apply wpAny_pyIter_enum he
    have I2 : Inv X pins σ H1 { s1 with heap := h' } := I1.kept (t' := s1.toks) hk
    refine ⟨s1.heap.objs.size + 1, [s1.heap.objs.size + 1, s1.heap.objs.size], _, _, H1, rfl, I2, turn_enum a (s1.heap.objs.size + 1) s1.heap.objs.size, ⟨⟨.none, he⟩, hit, Nat.succ_ne_self _⟩, fun b hb => ?_, q⟩
    have hle : s1.heap.objs.size ≤ b := by
      have e' : b = s1.heap.objs.size + 1 ∨ b = s1.heap.objs.size := by simpa using hb
      rcases e' with z | z
      · rw [z]; exact Nat.le_succ _
      · rw [z]; exact Nat.le_refl _
    exact I1.fpOk hle (I1.hok.fresh hle)
  · subst ex
    obtain rfl := Vals.ref1 r1
    obtain ⟨its, rv, p', hz⟩ := I1.tuple hq
    have hlt : a < s1.heap.objs.size := p'.lt
    apply call_enumT (begins_tuple a its.toArray) p'
    intro h' he hit hk
    apply wpAny_pyIter_enum he
    have I2 : Inv X pins σ H1 { s1 with heap := h' } := I1.kept (t' := s1.toks) hk
    refine ⟨s1.heap.objs.size + 1, [s1.heap.objs.size + 1, s1.heap.objs.size], _, _, H1, rfl, I2, turn_enumT a (s1.heap.objs.size + 1) s1.heap.objs.size, ⟨⟨.none, he⟩, ⟨_, hit, rfl, rfl⟩, Nat.succ_ne_self _, Nat.ne_of_lt hlt, Nat.ne_of_gt (Nat.lt_succ_of_lt hlt)⟩, fun b hb => ?_, q⟩
    have hle : s1.heap.objs.size ≤ b := by
      have e' : b = s1.heap.objs.size + 1 ∨ b = s1.heap.objs.size := by simpa using hb
      rcases e' with z | z
      · rw [z]; exact Nat.le_succ _
      · rw [z]; exact Nat.le_refl _
    exact I1.fpOk hle (I1.hok.fresh hle)
end DL

set_option maxRecDepth 100000
set_option maxHeartbeats 400000
namespace DL
open PySem PySem.Spec PyProof.Rows L2
theorem itd_enumT {K : PySem.W.Frag} {M : Mm} {H : Hp} {a : Addr} {xs : List V} {ds : List D} (n : ¬ M.Has a) (ha : TupAt H a xs ds) (q : RDs M H xs ds) : ItD M H (IteT K a) (enumD 0 ds) := fun M1 H1 x tr => by
  have h1 := (ha.to fun _ z => x.st n z).sq (K := K)
  have q1 := q.mono x
  refine ⟨fun i d e => ?_, xs, h1, by rw [enumD_len, q.length]; exact Nat.le_refl _⟩
  obtain ⟨d', e1, rfl⟩ := enumD_get e
  obtain ⟨v, e2, r⟩ := q1.get e1
  refine ⟨⟨xs, v, h1, e2⟩, fun y H2 hy => ?_⟩
  obtain ⟨T, u, rfl, nT, rfl, hu⟩ := hy
  have eu : u = v := by
    have := hu xs h1
    rw [e2] at this
    exact (Option.some.inj this).symm
  subst eu
  refine ⟨same_new nT, RD.tup (new_out tr nT) (.inl ⟨rfl, upd_same⟩) ?_⟩
  rw [Nat.zero_add]
  exact .cons (.int _) (.cons (r.mono (grow_ext (same_new nT))) .nil)
def enumA (g : AM) : IM := fun ρ h => obnd (g ρ h) fun ws h1 => match ws with
  | [.dat (.list ds)] => some (enumD 0 ds, h1)
  | [.dat (.tuple ds)] => some (enumD 0 ds, h1)
  | _ => none
section
variable {X : Cx}
theorem di_enumA (hm : X.mg "enumerate" = none) {e : Expr} {elts : List Expr} {kk : Nat} {p pos tpos : Pos} {g : AM} (ha : DA X [e] g) (hg : Gl X "enumerate" := by rfl) (hs : starEach [e] X.env = [(false, eval e X.env)] := by rfl) : DI X (.Tuple elts kk tpos) (.Call (.Name "enumerate" p) [e] [] pos) (enumA g) := (pi_enumT hg hm ha hs).weak fun σ H R => by
  rintro ⟨M, h, ρ, ds, h', r, rs, e0, k⟩
  unfold enumA at e0
  cases eg : g ρ h with
  | none => rw [eg] at e0; cases e0
  | some pr =>
    obtain ⟨ws, h1⟩ := pr
    rw [eg] at e0
    simp only [obnd_some] at e0
    refine ⟨M, h, ρ, r, rs, ws, h1, eg, fun M1 H1 vs x1 r1 v1 => ?_⟩
    split at e0
    · cases e0
      obtain ⟨v, rfl, rv⟩ := rvs1 v1
      cases (show RD M1 H1 _ _ from rv) with
      | lst n e q => exact .inl ⟨_, _, rfl, .of e, k M1 H1 _ x1 r1 (itd_enum n e q)⟩
    · cases e0
      obtain ⟨v, rfl, rv⟩ := rvs1 v1
      cases (show RD M1 H1 _ _ from rv) with
      | tup n e q => exact .inr ⟨_, _, rfl, e.sq, (by obtain ⟨_, z⟩ := e.some_; rw [z]; exact nofun), k M1 H1 _ x1 r1 (itd_enumT n e q)⟩
    · cases e0
theorem d_dict (hc : X.calm = true) (m : Bool) (hm : X.mg "dict" = none) {p pos : Pos} {e : Expr} {g : AM} (ha : DA X [e] g) (hg : Gl X "dict" := by rfl) (he : starEach [e] X.env = (false, eval e X.env) :: starEach [] X.env := by rfl) (hpl : (backTo pos (starEach [] X.env)).any (·.1) = false := by rfl) : DE X (.Call (.Name "dict" p) [e] [] pos) (fA (dictW m) g) :=
  d_callT ((call_dictP hc).or call_dictD) (s_dict m) hm bt_dict ha hg (by decide) (by decide) he hpl
end
end DL

set_option maxRecDepth 100000
set_option maxHeartbeats 400000
namespace DL
open PySem PySem.Spec PyProof.Rows L2
/-! ### a list that changes no more -/
def moD : MO → D
  | .lst ds => .list ds
  | .dic es => .dict es
  | .dit es => .dict ((.none, .none) :: es)
  | .tab _ _ => .none
def isTab : MO → Bool
  | .tab _ _ => true
  | _ => false
def isR (n : Nat) : Option W → Bool
  | some (.ref m) => decide (m = n)
  | some (.pack _) => true
  | _ => false
def frz (i : Nat) (ρ : Env) (h : Hh) : Option (Env × Hh) := match ρ[i]? with
  | some (some (.ref n)) => match h[n]? with
    | some (some o) => if ((ρ.set i none).any (isR n) || isTab o) = true then none else some (ρ.set i (some (.dat (moD o))), h.set n none)
    | _ => none
  | _ => none
def sFrz (i : Nat) (f : SM) : SM := fun ρ h => match frz i ρ h with
  | some (ρ', h') => f ρ' h'
  | none => none
section
variable {M : Mm} {H : Hp} {h : Hh}
theorem less_set {n : Nat} : ∀ b, Mm.Has ⟨M.u, M.m.set n none⟩ b → M.Has b := fun b z => by
  rcases z with z | z
  · exact .inl z
  · right
    rcases List.mem_or_eq_of_mem_set z with q | q
    · exact q
    · cases q
theorem not_set {n : Nat} {a : Addr} (rep : Rep M H h) (e : M.m[n]? = some (some a)) : ¬ Mm.Has ⟨M.u, M.m.set n none⟩ a := fun z => by
  rcases z with z | z
  · exact (rep.us a z).1 (List.mem_of_getElem? e)
  · obtain ⟨i, hi, q⟩ := List.getElem_of_mem z
    have q' : (M.m.set n none)[i]? = some (some a) := by rw [List.getElem?_eq_getElem hi, q]
    by_cases hn : n = i
    · subst hn
      have hi' : n < M.m.length := lt_of_get e
      rw [List.getElem?_set_self hi'] at q'
      cases q'
    · rw [List.getElem?_set_ne hn] at q'
      exact hn (rep.inj i n a q' e).symm
theorem ext_frz {n : Nat} : Ext M ⟨M.u, M.m.set n none⟩ H H where
  us := fun _ m => .inl m
  trk := fun a o e => ⟨o, e⟩
  stab := fun _ _ e _ => e
  fresh := fun a m => by
    rcases List.mem_or_eq_of_mem_set m with q | q
    · exact .inl q
    · cases q
  len := by simp
  kill := fun i hi => by
    by_cases hn : n = i
    · subst hn
      right
      show (M.m.set n none)[n]? = _
      rw [List.getElem?_set_self hi]
    · left
      show (M.m.set n none)[i]? = _
      rw [List.getElem?_set_ne hn]
theorem Rep.frz {n : Nat} {a : Addr} (rep : Rep M H h) (e : M.m[n]? = some (some a)) : Rep ⟨M.u, M.m.set n none⟩ H (h.set n none) := by
  have hn : n < h.length := by rw [← rep.len]; exact lt_of_get e
  refine ⟨fun b z => ?_, by simpa using rep.len, fun i j b q1 q2 => ?_, fun i b q => ?_, fun i q => ?_⟩
  · obtain ⟨h1, h2⟩ := rep.us b z
    refine ⟨fun y => h1 ?_, h2⟩
    rcases List.mem_or_eq_of_mem_set y with q | q
    · exact q
    · cases q
  · have g : ∀ (k : Nat), (M.m.set n none)[k]? = some (some b) → M.m[k]? = some (some b) := fun k q => by
      by_cases hk : n = k
      · subst hk
        rw [List.getElem?_set_self (lt_of_get e)] at q
        cases q
      · rwa [List.getElem?_set_ne hk] at q
    exact rep.inj i j b (g i q1) (g j q2)
  · have hk : n ≠ i := fun z => by
      subst z
      have q' : (M.m.set n none)[n]? = some (some b) := q
      rw [List.getElem?_set_self (lt_of_get e)] at q'
      cases q'
    have q' : M.m[i]? = some (some b) := by
      have z : (M.m.set n none)[i]? = some (some b) := q
      rwa [List.getElem?_set_ne hk] at z
    obtain ⟨o, ho, ro⟩ := rep.at_ i b q'
    exact ⟨o, by rw [List.getElem?_set_ne hk]; exact ho, ro.sub less_set⟩
  · have q' : (M.m.set n none)[i]? = some none := q
    by_cases hk : n = i
    · subst hk
      rw [List.getElem?_set_self hn]
    · rw [List.getElem?_set_ne hk] at q' ⊢
      exact rep.dead i q'
theorem RS.frz {n i : Nat} {a : Addr} {o : MO} {ρ : Env} {σ : L2.St} (rep : Rep M H h) (rs : RS M H ρ σ) (e : M.m[n]? = some (some a)) (er : ρ[i]? = some (some (.ref n))) (ro : RO M H a o) (hn : ¬ ((ρ.set i none).any (isR n)) = true) (ht : isTab o = false) :
    RS ⟨M.u, M.m.set n none⟩ H (ρ.set i (some (.dat (moD o)))) σ := by
  refine ⟨by simp [rs.1], fun j w q => ?_⟩
  by_cases hj : i = j
  · subst hj
    rw [List.getElem?_set_self (lt_of_get er)] at q
    cases q
    obtain ⟨v, ev, a', ea, rfl⟩ := rs.2 i _ er
    rw [e] at ea
    cases ea
    refine ⟨_, ev, ?_⟩
    cases o with
    | lst ds => obtain ⟨xs, hx, qx⟩ := ro; exact RD.lst (not_set rep e) hx (qx.sub less_set)
    | dic ds => obtain ⟨xs, hx, qx⟩ := ro; exact RD.dic (not_set rep e) hx (qx.sub less_set)
    | dit ds => obtain ⟨xs, hx, qx⟩ := ro; exact RD.dit (not_set rep e) hx (qx.sub less_set)
    | tab q P => exact absurd ht (by simp [isTab])
  · rw [List.getElem?_set_ne hj] at q
    obtain ⟨v, ev, rv⟩ := rs.2 j w q
    refine ⟨v, ev, ?_⟩
    cases w with
    | dat d => exact RD.sub less_set rv
    | pack its =>
      exact absurd (List.any_eq_true.mpr ⟨some (.pack its), List.mem_of_getElem? (i := j) (by rw [List.getElem?_set_ne hj]; exact q), rfl⟩) hn
    | scr ns =>
      obtain ⟨b, u, e1, n1, q1⟩ := rv
      exact ⟨b, u, e1, fun z => n1 (less_set b z), q1⟩
    | ref k =>
      obtain ⟨b, eb, rfl⟩ := rv
      have hk : n ≠ k := fun z => by
        subst z
        apply hn
        rw [List.any_eq_true]
        refine ⟨some (.ref n), ?_, by simp [isR]⟩
        exact List.mem_of_getElem? (i := j) (by rw [List.getElem?_set_ne hj]; exact q)
      exact ⟨b, by show (M.m.set n none)[k]? = _; rw [List.getElem?_set_ne hk]; exact eb, rfl⟩
end
theorem ds_frz {X : Cx} {sts : List Stmt} {f : SM} (i : Nat) (hd : DSs X sts f) : DSs X sts (sFrz i f) := PSs.weak hd fun D σ H => by
  rintro ⟨M, h, ρ, rep, rs, p⟩
  unfold sFrz at p
  split at p
  · rename_i ρ' h' ef
    unfold frz at ef
    split at ef
    · rename_i n er
      split at ef
      · rename_i o eo
        split at ef
        · cases ef
        · rename_i hn
          cases ef
          obtain ⟨v, ev, a, ea, rfl⟩ := rs.2 i _ er
          obtain ⟨o', ho', ro⟩ := rep.at_ n a ea
          rw [eo] at ho'
          cases ho'
          simp only [Bool.or_eq_true, not_or, Bool.not_eq_true] at hn
          exact ⟨_, _, _, rep.frz ea, rs.frz rep ea er ro (by simpa using hn.1) hn.2, p.mono rfl ext_frz⟩
      · cases ef
    · cases ef
  · exact p.elim
end DL

set_option maxRecDepth 100000
set_option maxHeartbeats 1000000
namespace DL
open PySem PySem.Spec PyProof.Rows L2
/-! ### dict(t), t a tuple of pairs; dict(zip(xs, ys)) -/
section
variable {X : Cx}
theorem pairs_two {pins : List (Addr × Obj)} {σ : L2.St} {H : Hp} {s : Shared} (I : Inv X pins σ H s) : ∀ {ps : List Addr} {kvs : List (Key × V)}, Paired (fun p kv => SqT X.K H p [kV kv.1, kv.2]) ps kvs →
    ∃ (pv : List (Value × Value)) (prs : List (Key × Value)), KV kvs prs ∧ prs.length = ps.length ∧ pv.length = ps.length ∧
      ∀ (j : Nat) (k v : Value), pv[j]? = some (k, v) → ∃ b kk, ps[j]? = some b ∧ IsTup s.heap b #[k, v] ∧ prs[j]? = some (kk, v) ∧ (mixKind X.prog X.w).is kk k = true
  | _, _, .nil => ⟨[], [], .nil, rfl, rfl, fun j k v e => by cases j <;> cases e⟩
  | _, _, .cons (a := p) (b := kv) h t => by
    obtain ⟨pv, prs, r, h1, h2, h3⟩ := pairs_two I t
    obtain ⟨its, rv, ht, _⟩ := I.tuple h
    obtain ⟨u, y, rfl, ru, ry⟩ := vals2 rv
    refine ⟨(u, y) :: pv, (kv.1, y) :: prs, .cons ⟨rfl, ry⟩ r, congrArg (· + 1) h1, congrArg (· + 1) h2, fun j k v e => ?_⟩
    cases j with
    | zero => cases e; exact ⟨p, kv.1, rfl, ht, rfl, kV_is ru⟩
    | succ j => exact h3 j k v e
def rDictT : List V → Hp → VK → Prop := fun xs H Q => ∃ (a : Addr) (o : Obj) (ps : List Addr) (kvs : List (Key × V)), xs = [.ref a] ∧ o.dict = none ∧ H a = some (.frz o (.tup (ps.map V.ref))) ∧ Paired (fun p kv => Rd H p (.tup [kV kv.1, kv.2])) ps kvs ∧
    ∀ p, H p = none → Q (.ref p) (upd H p (.dK (mergeK [] kvs)))
theorem call_dictT (hcalm : X.calm = true) : CallR X (.type "dict") rDictT := by
  intro pins s σ H xs us Q I r q
  obtain ⟨a, o, ps, kvs, rfl, ho, ha, hp, q⟩ := q
  obtain ⟨u, rfl, rx⟩ := vals1 r
  cases rx
  obtain ⟨g1, hz, its, rv, o', g2, hc, n, hd⟩ := (show ObjOk X.prog X.w H s.heap a (.frz o (.tup (ps.map V.ref))) from I.hok a _ ha)
  rw [g1] at g2
  cases g2
  obtain rfl := refs_at rv
  rw [List.length_map] at hz
  obtain ⟨pv, prs, rel, h1, h2, h3⟩ := pairs_two I (Paired.mapP hp fun _ _ z => .inl z)
  have hlen : (ps.map Value.ref).toArray.size = pv.length := by simp [h2]
  have P := PairArg.tuple (prog := X.prog) (w := X.w) a (ps.map Value.ref).toArray (fun j => ps[j]?.getD 0) pv
  apply PySem.call_dict_pairs (knd := mixKind X.prog X.w) (kvs := prs) P (I.ok.hd hcalm) ⟨⟨o, n, g1, hc, ho, hd⟩, hlen, fun j k v e => ?_⟩ ⟨by rw [h1, h2], fun i k v e => ?_⟩ (by rw [h2]; exact hz)
  · intro h' tk hd' k
    have hm : (s.heap.objs.size == sysModules) = false := beq_eq_false_iff_ne.mpr (Nat.ne_of_gt I.big)
    have hk : (mergeK [] kvs).length ≤ sizeLine := by
      apply Nat.le_trans (length_mergeK kvs [])
      rw [List.length_nil, Nat.zero_add, rel.length, h1]
      exact hz
    exact ⟨.ref s.heap.objs.size, _, I.laid (t' := tk) (o := .dK (mergeK [] kvs)) (fun b o e => k b o (fun z => nomatch z) e) (Nat.le_refl _) ⟨hk, hm, merged [] prs, KV.merge rel .nil, hd'⟩, rfl, q _ (I.hok.fresh (Nat.le_refl _))⟩
  · obtain ⟨b, kk, e1, e2, _⟩ := h3 j k v e
    exact ⟨by simp [e1], .inl (by show IsTup s.heap (ps[j]?.getD 0) _; rw [e1]; exact e2)⟩
  · obtain ⟨b, kk, _, _, e3, e4⟩ := h3 i k v e
    exact ⟨kk, e3, e4⟩
def dictA (m : Bool) (ws : List W) (h : Hh) : Option (W × Hh) := match ws with
  | [w] => match deref h w with
    | some (.tuple ds) => if callD ds = true then (match pairsK ds with
      | some qs => mkK m (mergeD [] qs) h
      | none => none) else none
    | _ => dictW m [w] h
  | _ => none
theorem s_dictA (m : Bool) : SemA (fun xs H Q => ((∃ (a : Addr) (ps : List Addr) (kvs : List (Key × V)), xs = [.ref a] ∧ SqL X.K H a (ps.map V.ref) ∧ Paired (fun p kv => SqT X.K H p [kV kv.1, kv.2]) ps kvs ∧
    ∀ p, H p = none → Q (.ref p) (upd H p (.dK (mergeK [] kvs)))) ∨ ∃ (a : Addr) (kvs : List (Key × V)), xs = [.ref a] ∧ Rd H a (.dK kvs) ∧ ∀ p, H p = none → Q (.ref p) (upd H p (.dK kvs))) ∨ rDictT xs H Q) (dictA m) := by
  intro M H h vs ws Q rep rv c
  unfold dictA at c
  split at c
  · obtain ⟨v, rfl, r⟩ := rvs1 rv
    split at c
    · rename_i ds e
      obtain ⟨a, xs, rfl, na, ha, q⟩ := rr_tup (deref_rr rep r e)
      split at c
      · rename_i hc
        split at c
        · rename_i qs e2
          obtain ⟨ps, kvs, rfl, h1, h2⟩ := pairs_ok q e2
          rcases ha with ⟨hn, _⟩ | ⟨_, o, ho, ha⟩
          · rw [hc] at hn; cases hn
          · exact .inr ⟨a, o, ps, kvs, rfl, ho, ha, h1, fun p np => mkK_fin rep np (RDk.merge h2 .nil) c⟩
        · exact c.no.elim
      · exact c.no.elim
    · exact .inl (s_dict m M H h _ _ Q rep rv c)
  · exact c.no.elim
theorem d_dictA (hc : X.calm = true) (m : Bool) (hm : X.mg "dict" = none) {p pos : Pos} {e : Expr} {g : AM} (ha : DA X [e] g) (hg : Gl X "dict" := by rfl) (he : starEach [e] X.env = (false, eval e X.env) :: starEach [] X.env := by rfl) (hpl : (backTo pos (starEach [] X.env)).any (·.1) = false := by rfl) : DE X (.Call (.Name "dict" p) [e] [] pos) (fA (dictA m) g) :=
  d_callT (((call_dictP hc).or call_dictD).or (call_dictT hc)) (s_dictA m) hm bt_dict ha hg (by decide) (by decide) he hpl
end
end DL

set_option maxRecDepth 100000
set_option maxHeartbeats 1000000
namespace DL
open PySem PySem.Spec PyProof.Rows L2
/-! ### a lambda is made -/
section
variable {X : Cx} {pins : List (Addr × Obj)} {σ : L2.St} {H : Hp} {s : Shared}
abbrev lamQ (X : Cx) : Str := X.env.qual ++ "<lambda>"
/-- the function object of a lambda -/
abbrev lamO (X : Cx) (params : Arguments) (body : Expr) (scope : Scope) (pm : Value) (c' : Addr) (ctv : Value) : Obj := PySem.W.kla_obj "<lambda>" (lamQ X) params body scope (cloFrom X.env.cells scope.names []) pm c' ctv
theorem lam_new {c P : Addr} {ps : Array Value} {params : Arguments} {body : Expr} {scope : Scope} {pos : Pos} {E : Value → Shared → Prop} {Q : Value → Shared → Prop} (I : Inv X pins σ H s) (TB : LamX.TabB X.base X.mg c P) (hcode : X.env.code = .ref c)
    (hP : H P = some (.tbl ps)) (ht : TriplesOk ps.toList) (ha : ∀ pos cv, codeAmong pos ps.toList = some cv → ∃ c, cv = .ref c ∧ H c = some (LamX.CodeO c (lamQ X)))
    (hdef : defaultsOf params X.env = ([], [])) (hfree : ∀ y ∈ scope.names, y.2 = .free → ∃ c, X.env.cells.lookup y.1 = some c)
    (h : ∀ (f c' : Addr) (pm ctv : Value) (H1 : Hp) (s' : Shared), Inv X pins σ H1 s' → H1 c' = some (LamX.CodeO c' (lamQ X)) →
      (H1 = H ∨ ∃ more, H c' = none ∧ H1 = upd (upd H P (.tbl (ps ++ more))) c' (LamX.CodeO c' (lamQ X)) ∧ TriplesOk (ps ++ more).toList ∧ ∀ pos cv, codeAmong pos (ps ++ more).toList = some cv → codeAmong pos ps.toList = some cv ∨ cv = .ref c') →
      s'.heap.get? f = some (lamO X params body scope pm c' ctv) → H1 f = none → Q (.ref f) s') :
    wpAny (model X.prog X.w) X.A (eval (.Lambda params body scope pos) X.env) Q E s := by
  apply PySem.W.kla_eval hdef
  have hP' := I.hok P _ hP
  have bP := TB.bm.keeps I.bk
  have cl := closure_ok hfree
  cases hc : codeAmong pos ps.toList with
  | some cv =>
    obtain ⟨c', rfl, hco⟩ := ha pos cv hc
    apply PySem.W.kla_makeFunctionHit (mg := X.mg) cl I.ok.glob (I.mod.glob.keeps I.bk) hcode (TB.code.keeps I.bk) hP' ht hc bP
    intro ctv h' tk hx hsz
    have I1 := I.kept (h' := h'.push (lamO X params body scope ((X.mg "__name__").getD .none) c' ctv)) (t' := tk) fun b o e => Heap.get?_push_of_some _ (hx b o e)
    exact h h'.objs.size c' _ ctv H _ I1 hco (.inl rfl) (Heap.get?_push_size _ rfl) (I.hok.fresh hsz)
  | none =>
    apply PySem.W.kla_makeFunction (mg := X.mg) cl I.ok.glob (I.mod.glob.keeps I.bk) hcode (TB.code.keeps I.bk) hP' ht hc TB.gP bP
    intro c' ctv h' tk hx hge hlt hrec htb
    obtain ⟨c2, oc, vs, t, e2, hoc, hd, hv⟩ := hrec
    cases e2
    have nC : H c' = none := I.hok.fresh hge
    have hsz : s.heap.objs.size ≤ h'.objs.size := by omega
    have I1 := LamX.inv_table (t' := tk) (h' := h'.push (lamO X params body scope ((X.mg "__name__").getD .none) c' ctv)) I hP (fun b o hb e => Heap.get?_push_of_some _ (hx b o hb e)) (Heap.get?_push_of_some _ htb) hge ⟨oc, vs, t, Heap.get?_push_of_some _ hoc, hd, hv⟩
    have eL : (ps ++ #[rawInt pos.line, rawInt pos.col, .ref c']).toList = ps.toList ++ [rawInt pos.line, rawInt pos.col, .ref c'] := by simp
    refine h h'.objs.size c' _ ctv _ _ I1 upd_same (.inr ⟨_, nC, rfl, ?_, fun p' cv hcv => ?_⟩) (Heap.get?_push_size _ rfl) ?_
    · rw [eL]; exact TriplesOk_snoc _ _ _ _ ht
    · rw [eL] at hcv
      exact LamX.among_app _ ht hcv
    · rw [upd_ne (Nat.ne_of_gt hlt), upd_ne (Nat.ne_of_gt (Nat.lt_of_lt_of_le (Heap.lt_size hP') hsz))]
      exact I.hok.fresh hsz
end
/-! ### keys: expressions that read alone -/
def SVal : D → Value → Prop
  | .int i, v => ∃ t, v = .int i t
  | .str z, v => ∃ t, v = .str z t
  | _, _ => False
abbrev Keeps' (h h' : Heap) : Prop := ∀ b o, h.get? b = some o → h'.get? b = some o
/-- e is read as the int or text d -/
def Pu (P : Program) (w : World) (A : Around) (env : PySem.Env) (h0 : Heap) (e : Expr) (d : D) : Prop :=
  ∀ (s : Shared) (E : Value → Shared → Prop) (Q : Value → Shared → Prop), Keeps' h0 s.heap → (∀ v tk, SVal d v → Q v { s with toks := tk }) → wpAny (model P w) A (eval e env) Q E s
/-- e is read as d, a key -/
def Kb (P : Program) (w : World) (A : Around) (env : PySem.Env) (h0 : Heap) (e : Expr) (d : D) : Prop :=
  ∀ (s : Shared) (E : Value → Shared → Prop) (Q : Value → Shared → Prop), Keeps' h0 s.heap → (∀ v h' tk, Keeps' s.heap h' → Reads h' v d [] → Q v { s with heap := h', toks := tk }) → wpAny (model P w) A (eval e env) Q E s
section
variable {P : Program} {w : World} {A : Around} {env : PySem.Env} {h0 : Heap}
theorem sval_reads {h : Heap} : ∀ {d : D} {v : Value}, SVal d v → Reads h v d []
  | .int i, _, ⟨t, e⟩ => by rw [e]; exact Reads.int i t
  | .str i, _, ⟨t, e⟩ => by rw [e]; exact Reads.str i t
theorem pu_local {x : Str} {pos : Pos} {m : Str → Option Value} {v : Value} {d : D} (hk : env.scope.kind = .function) (hl : env.kindOf x = some .local) (hn : h0.Ns env.locals m) (hm : m x = some v) (hv : SVal d v) (hd : (x == ("__debug__" : Str)) = false := by decide) : Pu P w A env h0 (.Name x pos) d :=
  fun s E Q k h => wpAny_Name (wpAny_loadName_local hk hl (hn.keeps k) hm (h v s.toks hv)) hd
theorem typeOfD {P : Program} {w : World} {s : Shared} {a : Addr} {kvs : List (Key × Value)} (d : s.heap.DictOf (mixKind P w) a kvs) : s.TypeIs (.ref a) "dict" := d.typeIs
theorem pu_sub {x : Str} {e : Expr} {p1 pos : Pos} {c a : Addr} {kvs : List (Key × Value)} {z : Str} {u : Value} {d : D} (hk : env.scope.kind = .function) (hf : env.kindOf x = some .free) (hc : env.cells.lookup x = some c) (hcell : h0.IsCell c (some (.ref a)))
    (hd : h0.DictOf (mixKind P w) a kvs) (he : Pu P w A env h0 e (.str z)) (hv : valueAt kvs (.inr z) = some u) (su : SVal d u) (hs : PlainIx e)
    (hdb : (x == ("__debug__" : Str)) = false := by decide) (hcd : (x == ("__classdict__" : Str)) = false := by decide) : Pu P w A env h0 (.Subscript (.Name x p1) e pos) d := by
  intro s E Q k h
  apply Subscript_
  have hcl : s.heap.IsCell c (some (.ref a)) := by
    obtain ⟨o, ho, r⟩ := hcell
    exact ⟨o, k _ _ ho, r⟩
  refine wpAny_Name (wpAny_loadName_free hk hf hc hcl ?_ hcd) hdb
  refine he s _ _ k fun v tk sv => ?_
  obtain ⟨t, rfl⟩ := sv
  have dd : s.heap.DictOf (mixKind P w) a kvs := hd.at' fun o e => k _ _ e
  exact tail_any (typeOfD dd) slot_dict_getitem.lookup (wpAny_getItem_of (s := { s with toks := tk }) (mixKind_str P w z t) dd.mapOf hv (h u _ su)) (hs _ _)
theorem kb_one {e : Expr} {d : D} (he : Pu P w A env h0 e d) : Kb P w A env h0 e d := fun s E Q k h => he s E Q k fun v tk sv => h v s.heap tk (fun _ _ e => e) (sval_reads sv)
theorem kb_two {x1} {a b : Expr} {pos : Pos} {i j : Int} (ha : Pu P w A env h0 a (.int i)) (hb : Pu P w A env h0 b (.int j)) (h1 : starEach [a, b] env = (false, eval a env) :: starEach [b] env := by rfl) (h2 : starEach [b] env = (false, eval b env) :: starEach [] env := by rfl) : Kb P w A env h0 (.Tuple [a, b] x1 pos) (.tuple [.int i, .int j]) := by
  intro s E Q k h
  apply wpAny_Tuple_spliced
  rw [h1]
  show wpAny _ _ (spliced ((false, eval a env) :: backTo pos (starEach [b] env))) _ _ s
  apply Calls.spliced_cons
  refine ha s _ _ k fun v tk ⟨t, ev⟩ => ?_
  subst ev
  rw [h2]
  show wpAny _ _ (spliced ((false, eval b env) :: backTo pos (starEach [] env))) _ _ _
  apply Calls.spliced_cons
  refine hb _ _ _ k fun v tk' ⟨t', ev⟩ => ?_
  subst ev
  apply Calls.spliced_nil
  exact ⟨by show 2 ≤ sizeLine; decide, h _ _ tk' (fun b o e => Heap.get?_push_of_some _ e) (Reads.tuple (Heap.get?_push_size _ rfl) rfl rfl (.cons (.int i t) (.cons (.int j t') .nil)))⟩
/-- the lambda is called with one argument -/
theorem lam_call {f c' : Addr} {q : Str} {params : Arguments} {body : Expr} {scope : Scope} {cl : List (Str × Addr)} {pm ctv v : Value} {x : Str} {d : D} {s : Shared} (hroom : A.depth < recursionLimit) (ho : s.heap.get? f = some (PySem.W.kla_obj "<lambda>" q params body scope cl pm c' ctv))
    (hcd : s.heap.CodeRec (.ref c') q) (nl : s.heap.NoLimit) (hk : scope.kind = .function) (hco : scope.isCoroutine = false) (hgen : scope.isGenerator = false) (hnc : ∀ y ∈ scope.names, y.2 ≠ .cell) (hx : scope.names.lookup x = some .local)
    (hbind : bindArgs (PySem.W.kla_fn "<lambda>" q params body scope cl pm (.ref c') ctv) ⟨[v], []⟩ = pure [(x, v)])
    (hbody : ∀ (L : Addr) (h1 : Heap), h1.Ns L (fun y => [(x, v)].reverse.lookup y) → Keeps' s.heap h1 → Kb P w (A.deeper (PySem.W.envX q scope L f (.ref c') cl)) (PySem.W.envX q scope L f (.ref c') cl) h1 body d) :
    wpAny (model P w) A (call (.ref f) [v]) (PySem.W.KeyPure d s) (fun _ _ => False) s := by
  apply wpAny_call
  apply PySem.W.kla_callFunE hroom ho rfl hco hgen rfl hcd
  rw [hbind]
  apply wpAny_pure
  apply wpAny_newFunctionEnv hnc (fun y hy => by simp at hy; rw [hy]; exact hx) _ hk
  intro h1 hns hsb
  have kp : Keeps' s.heap h1 := fun b o e => hsb.extBut b o (Nat.ne_of_lt (Heap.lt_size e)) (Heap.get?_push_of_some _ e)
  refine ⟨nl.keeps kp, ?_⟩
  apply PySem.W.kla_codeExpr
  refine hbody s.heap.objs.size h1 hns kp _ _ _ (fun _ _ e => e) fun u h' tk k2 r => ?_
  exact ⟨h', tk, rfl, fun b o e => k2 b o (kp b o e), r⟩
end
/-! ### sorted(x, key=f) -/
theorem sortedK_any {P : Program} {w : World} {A : Around} {E : Value → Shared → Prop} {s : Shared} {x : Value} {f : Addr} {β : Type} {R : Value → β → Prop} {vs : List Value} {bs : List β} {key : β → D} {Q : Value → Shared → Prop}
    (hcol : ∀ (Q' : List Value → Shared → Prop), (∀ h', s.heap.objs.size ≤ h'.objs.size → Keeps' s.heap h' → Q' vs { s with heap := h' }) → wpAny (model P w) A.in1 (collect x) Q' E s)
    (e : PySem.W.EachIs R vs bs) (hal : PySem.W.AllAlike (bs.map key)) (hk : PySem.W.Sortable (bs.map key)) (hL : bs.length ≤ sizeLine) (hu : ∀ b, b ∈ bs → A.units + 2 + (key b).depth < cLine)
    (turn : ∀ v b, R v b → b ∈ bs → ∀ (h : Heap) (tk : Nat), Keeps' s.heap h → wpAny (model P w) A.in1.in1 (call (.ref f) [v]) (PySem.W.KeyPure (key b) { s with heap := h, toks := tk }) (fun _ _ => False) { s with heap := h, toks := tk })
    (h : ∀ out p c h' tk, Keeps' s.heap h' → s.heap.objs.size ≤ p → h'.get? p = some (seqObj "list" (List.toArray out) c) → PySem.W.EachIs R out (bs.mergeSort (PySem.W.dataLe false key)) → Q (.ref p) { s with heap := h', toks := tk }) :
    wpAny (model P w) A (call (.builtin "sorted") [x] [(Str.ofString "key", .ref f)]) Q E s := by
  apply call_function_entry_kw kind_sorted plain_sorted entry_sorted (ksk_s1 _ _)
  have hv : vs.length ≤ sizeLine := by rw [e.length]; exact hL
  unfold Builtin.«sorted»
  refine wpAny_bind (m := checkCount "sorted" 1 1 _) (wpAny_pure (wpAny_bind (hcol _ fun g hg kg => wpAny_bind (wpAny_newList ?_ hv))))
  have at_ : (g.push (seqObj "list" vs.toArray 0)).get? g.objs.size = some (seqObj "list" vs.toArray 0) := Heap.get?_push_size _ rfl
  have up : ∀ {g' : Heap}, PySem.W.KeepsBut g.objs.size (g.push (seqObj "list" vs.toArray 0)) g' → Keeps' s.heap g' := fun kp b o q => kp b o (Nat.ne_of_lt (Heap.lt_size (kg b o q))) (Heap.get?_push_of_some _ (kg b o q))
  refine wpAny_bind (wpAny_holding (wpAny_call_entry_kw slot_list_sort ⟨_, at_, rfl⟩ entry_list_sort ?_ (ksk_l1 _ _)))
  show wpAny _ _ (Builtin.«list.sort» ⟨[.ref g.objs.size], [(Str.ofString "key", .ref f)]⟩) _ _ _
  rw [ksk_t1]
  apply PySem.W.keyH_tree (kz := bs.map key) (s := { s with heap := g.push (seqObj "list" vs.toArray 0) }) at_ (by rw [List.length_map]; exact e.length.symm) hv hal hk (PySem.W.bound_map (A := A.in1.in1) hu) (PySem.W.keyH_turns (s := { s with heap := g.push (seqObj "list" vs.toArray 0) }) e fun v b hR hb h' tk kp => turn v b hR hb h' tk (up kp))
  intro h' tk out c kp hD ko
  exact ⟨_, rfl, wpAny_pure ⟨_, rfl, h out _ c h' tk (up kp) hg hD (PySem.W.keyedOut_each key ko e)⟩⟩
end DL

set_option maxRecDepth 100000
set_option maxHeartbeats 1000000
namespace DL
open PySem PySem.Spec PyProof.Rows L2
/-! ### sorted(xs, key=lambda ..), the key reading dicts that the lambda has caught -/
theorem rep_tab {M : Mm} {H : Hp} {h : Hh} {tb : Nat} {P c' : Addr} {q : Str} {ps more : Array Value} (rep : Rep M H h) (em : M.m[tb]? = some (some P)) (eh : h[tb]? = some (some (.tab q P))) (hP : H P = some (.tbl ps)) (nc : H c' = none) (ht : TriplesOk (ps ++ more).toList)
    (hq : ∀ pos cv, codeAmong pos (ps ++ more).toList = some cv → codeAmong pos ps.toList = some cv ∨ cv = .ref c') :
    Rep M (upd (upd H P (.tbl (ps ++ more))) c' (LamX.CodeO c' q)) h ∧ ExtE M M H (upd (upd H P (.tbl (ps ++ more))) c' (LamX.CodeO c' q)) := by
  have hne : P ≠ c' := ne_of_none hP nc
  have ec : upd (upd H P (.tbl (ps ++ more))) c' (LamX.CodeO c' q) = upd (upd H c' (LamX.CodeO c' q)) P (.tbl (ps ++ more)) := by
    funext b
    by_cases h1 : b = c'
    · subst h1
      rw [upd_same, upd_ne (Ne.symm hne), upd_same]
    · rw [upd_ne h1]
      by_cases h2 : b = P
      · subst h2; rw [upd_same, upd_same]
      · rw [upd_ne h2, upd_ne h2, upd_ne h1]
  have es : h.set tb (some (.tab q P)) = h := by
    apply List.ext_getElem?
    intro i
    by_cases hi : tb = i
    · subst hi
      rw [List.getElem?_set_self (lt_of_get eh), eh]
    · rw [List.getElem?_set_ne hi]
  have r1 := rep.upd_new (o := LamX.CodeO c' q) nc
  have x1 := ext_new (M := M) (o := LamX.CodeO c' q) nc
  obtain ⟨o, ho, ro⟩ := rep.at_ tb P em
  rw [eh] at ho
  cases ho
  obtain ⟨_, ps', hp', _, hold⟩ := ro
  rw [hP] at hp'
  cases hp'
  rw [ec]
  have r2 : Rep M (upd (upd H c' (LamX.CodeO c' q)) P (.tbl (ps ++ more))) (h.set tb (some (.tab q P))) := by
    refine r1.set em ⟨rfl, _, upd_same, ht, fun pos cv hcv => ?_⟩
    rcases hq pos cv hcv with z | rfl
    · obtain ⟨c, e1, n, e2⟩ := hold pos cv z
      refine ⟨c, e1, n, ?_⟩
      rw [upd_ne (fun z => ?_), upd_ne (ne_of_none e2 nc)]
      · exact e2
      · subst z
        rw [hP] at e2
        exact LamX.codeO_ne _ (Option.some.inj e2).symm
    · exact ⟨c', rfl, rep.new nc, by rw [upd_ne (Ne.symm hne), upd_same]⟩
  rw [es] at r2
  exact ⟨r2, x1.trans (ext_set em)⟩
section
variable {X : Cx} {pins : List (Addr × Obj)} {σ : L2.St} {H : Hp} {s : Shared} {M : Mm} {ρ : Env}
theorem clo_look {x : Str} {c : Addr} {cells : List (Str × Addr)} {names : List (Str × NameKind)} (hx : names.lookup x = some .free) (hc : cells.lookup x = some c) : (cloFrom cells names []).lookup x = some c := by
  obtain ⟨c2, h2⟩ := mem_lookup (cloFrom_has (cells := cells) (acc := []) (PySem.mem_of_lookup hx))
  rcases cloFrom_mem (PySem.mem_of_lookup h2) with hm | ⟨_, e⟩
  · cases hm
  · rw [hc] at e
    rw [h2, e]; rfl
/-- a caught dict -/
structure Cap (X : Cx) (scope : Scope) (s : Shared) (x : Str) (es : List (D × D)) : Prop where
  ex : ∃ (c a : Addr) (vs : List (Key × Value)), (cloFrom X.env.cells scope.names []).lookup x = some c ∧ s.heap.IsCell c (some (.ref a)) ∧ s.heap.DictOf (mixKind X.prog X.w) a vs ∧
    ∀ (z : Str) (d : D), getK es (.inr z) = some d → flatD d = true → (∃ i, d = .int i) ∨ (∃ y, d = .str y) → ∃ u, valueAt vs (.inr z) = some u ∧ SVal d u
theorem cap_of {scope : Scope} {x : Str} {i : Nat} {es : List (D × D)} (I : Inv X pins σ H s) (rs : RS M H ρ σ) (hN : X.N[i]? = some x) (hk : X.env.kindOf x = some .cell) (hf : scope.names.lookup x = some .free) (er : ρ[i]? = some (some (.dat (.dict es)))) (hT : isT es = false) : Cap X scope s x es := by
  obtain ⟨v, ev, rv⟩ := rs.2 i _ er
  obtain ⟨m, hn, hl⟩ := I.loc
  obtain ⟨u, ru, lk⟩ := hl i x v hN ev (.inr (.inl hk))
  rcases lk with ⟨hk', _⟩ | ⟨_, c, hc, hcell⟩
  · rw [hk] at hk'; cases hk'
  cases (show RD M H v _ from rv) with
  | dit n e r => cases hT
  | @dic a kvs _ n e r =>
    cases ru
    obtain ⟨_, _, vs, rel, dd⟩ := dk_rd I.hok (.inl e)
    refine ⟨c, _, vs, clo_look hf hc, hcell, dd, fun z d g fl sc => ?_⟩
    have h1 := r.val (.inr z)
    rw [g] at h1
    cases h2 : valV kvs (Sum.inr z) with
    | none => rw [h2] at h1; exact h1.elim
    | some v' =>
      rw [h2] at h1
      obtain ⟨u', e1, e2⟩ := RelO.some_of (v := v') (o := valueAt vs (.inr z)) (by rw [← h2]; exact rel.val _)
      refine ⟨u', e1, ?_⟩
      rcases sc with ⟨i, rfl⟩ | ⟨y, rfl⟩
      · cases (show RD M H v' _ from h1); exact e2
      · cases (show RD M H v' _ from h1); exact e2
/-- the keys of texts: a pair of ints, or an int -/
def okKey (t : Bool) : Option D → Bool
  | some (.tuple [.int _, .int _]) => t
  | some (.int _) => !t
  | _ => false
def isSt : D → Bool
  | .str _ => true
  | _ => false
noncomputable def sortBy (key : D → Option D) (ds : List D) : List D := ds.mergeSort (PySem.W.dataLe false fun d => (key d).getD .none)
noncomputable def sortKW (m t : Bool) (tb : Nat) (P : Addr) (q : Str) (key : D → Option D) (w : W) (h : Hh) : Option (W × Hh) := match h[tb]? with
  | some (some (.tab q' P')) => if (decide (q' = q) && decide (P' = P)) = true then (match deref h w with
    | some (.list ds) => if (ds.all fun d => isSt d && okKey t (key d)) = true then mkL m (sortBy key ds) h else none
    | some (.tuple ds) => if (ds.all fun d => isSt d && okKey t (key d)) = true then mkL m (sortBy key ds) h else none
    | _ => none) else none
  | _ => none
noncomputable def fSortK (m t : Bool) (tb : Nat) (P : Addr) (q : Str) (key : Env → D → Option D) (f : EM) : EM := fun ρ h => obnd (f ρ h) fun w h1 => sortKW m t tb P q (key ρ) w h1
/-- the lambda's body tells the key, whatever has been laid since -/
def KeyOk (X : Cx) (x : Str) (scope : Scope) (body : Expr) (key : Env → D → Option D) : Prop :=
  ∀ (pins : List (Addr × Obj)) (σ : L2.St) (H : Hp) (s : Shared) (M : Mm) (ρ : Env), Inv X pins σ H s → RS M H ρ σ →
    ∀ (A : Around) (L f c' : Addr) (h1 : Heap) (z : Str) (v : Value) (kd : D), key ρ (.str z) = some kd → (∃ t, v = .str z t) → h1.Ns L (fun y => [(x, v)].reverse.lookup y) → Keeps' s.heap h1 →
      Kb X.prog X.w A (PySem.W.envX (lamQ X) scope L f (.ref c') (cloFrom X.env.cells scope.names [])) h1 body kd
structure LamOk (scope : Scope) (x : Str) : Prop where
  kind : scope.kind = .function
  co : scope.isCoroutine = false
  gen : scope.isGenerator = false
  noc : ∀ y ∈ scope.names, y.2 ≠ .cell
  par : scope.names.lookup x = some .local
theorem okKey_two {t : Bool} {a b : Option D} (ha : okKey t a = true) (hb : okKey t b = true) : PySem.W.alike (a.getD .none) (b.getD .none) = true := by
  unfold okKey at ha hb
  split at ha
  · split at hb
    · rfl
    · rw [ha] at hb; cases hb
    · cases hb
  · split at hb
    · rw [hb] at ha; cases ha
    · rfl
    · cases hb
  · cases ha
theorem okKey_depth {t : Bool} {a : Option D} (ha : okKey t a = true) : (a.getD .none).depth ≤ 2 := by
  unfold okKey at ha
  split at ha
  · simp [PyData.depth, PyData.depthAll]
  · simp [PyData.depth]
  · cases ha
theorem d_sortK {k : Nat} (hr : RG (k + 1) X.A) (m t : Bool) (tb : Nat) {c P : Addr} {e : Expr} {f : EM} {x : Str} {params : Arguments} {body : Expr} {scope : Scope} {lpos kpos p pos : Pos} {key : Env → D → Option D} (hm : X.mg "sorted" = none) (TB : LamX.TabB X.base X.mg c P) (hcode : X.env.code = .ref c)
    (he : DE X e f) (hK : KeyOk X x scope body key) (S : LamOk scope x) (hdef : defaultsOf params X.env = ([], [])) (hfree : ∀ y ∈ scope.names, y.2 = .free → X.env.kindOf y.1 = some .cell ∨ X.env.kindOf y.1 = some .free)
    (hbind : ∀ (cl : List (Str × Addr)) (pm cv ctv v : Value), bindArgs (PySem.W.kla_fn "<lambda>" (lamQ X) params body scope cl pm cv ctv) ⟨[v], []⟩ = pure [(x, v)])
    (hg : Gl X "sorted" := by rfl) (h1 : backTo pos (starEach [e] X.env) = (false, eval e X.env) :: backTo pos (starEach [] X.env) := by rfl) (h2 : (backTo pos (starEach [e] X.env)).any (·.1) = false := by rfl) (h3 : starEach [e] X.env = (false, eval e X.env) :: starEach [] X.env := by rfl) :
    DE X (.Call (.Name "sorted" p) [e] [⟨some "key", .Lambda params body scope lpos, kpos⟩] pos) (fSortK m t tb P (lamQ X) key f) := by
  constructor
  intro pins s σ H Q I q
  obtain ⟨M, h, ρ, r, rs, cc⟩ := q
  obtain ⟨w, g1, e1, c1⟩ := Cont.bind (δ := Unit) cc
  apply wpAny_Call_Name_kw
  apply ld_blt (u := .builtin "sorted") I hg hm (by decide +kernel)
  refine PyProof.Rows.callWith_kw ?_ h1 h2 rfl rfl
  rw [h3]
  show wpAny _ _ (spliced ((false, eval e X.env) :: backTo pos (starEach [] X.env))) _ _ s
  apply Calls.spliced_cons
  refine thn (he.run pins s σ H (fun v H1 => ∃ M1, ExtE M M1 H H1 ∧ Rep M1 H1 g1 ∧ RV M1 H1 v w) I ⟨M, h, ρ, r, rs, w, g1, e1, fun M1 H1 v x1 r1 v1 => ⟨M1, x1, r1, v1⟩⟩) fun u s1 ⟨v, H1, I1, ru, M1, x1, r1, v1⟩ => ?_
  apply Calls.spliced_nil
  have c2 := c1 M1 H1 x1
  unfold sortKW at c2
  split at c2
  case h_2 => exact c2.no.elim
  rename_i q' P' eh
  split at c2
  case isFalse => exact c2.no.elim
  rename_i hqp
  simp only [Bool.and_eq_true, decide_eq_true_eq] at hqp
  obtain ⟨rfl, rfl⟩ := hqp
  obtain ⟨em, hPt⟩ : M1.m[tb]? = some (some P') ∧ RO M1 H1 P' (.tab (lamQ X) P') := by
    have hlt : tb < M1.m.length := by rw [r1.len]; exact lt_of_get eh
    cases em : M1.m[tb] with
    | none => have := r1.dead tb (by rw [List.getElem?_eq_getElem hlt, em]); rw [eh] at this; cases this
    | some a =>
      have em' : M1.m[tb]? = some (some a) := by rw [List.getElem?_eq_getElem hlt, em]
      obtain ⟨o, ho, ro⟩ := r1.at_ tb a em'
      rw [eh] at ho
      cases ho
      have ea := ro.1
      subst ea
      exact ⟨em', ro⟩
  obtain ⟨_, ps, hP, ht, hold⟩ := hPt
  have hfr : ∀ y ∈ scope.names, y.2 = .free → ∃ c, X.env.cells.lookup y.1 = some c := fun y hy e => I1.ok.has _ (hfree y hy e)
  show wpAny _ _ (evalAll [(do let v ← eval (.Lambda params body scope lpos) X.env; standAt pos; pure v)]) _ _ s1
  refine wpAny_evalAll_cons (wpAny_bind (lam_new I1 TB hcode hP ht (fun pos cv z => ?_) hdef hfr fun fa c' pm ctv H2 s2 I2 hco alt hf hfn => wpAny_bind (wpAny_standAt (wpAny_pure (wpAny_evalAll_nil ?_)))))
  · obtain ⟨c0, z1, _, z2⟩ := hold pos cv z
    exact ⟨c0, z1, z2⟩
  obtain ⟨r2, x2⟩ : Rep M1 H2 g1 ∧ ExtE M1 M1 H1 H2 := by
    rcases alt with rfl | ⟨more, nc, rfl, t1, t2⟩
    · exact ⟨r1, .refl _ _⟩
    · exact rep_tab r1 em eh hP nc t1 t2
  have rs2 := (rs.mono x1).mono x2
  have v2 := v1.mono x2
  have c3 : Cont RV (match deref g1 w with
    | some (.list ds) => if (ds.all fun d => isSt d && okKey t (key ρ d)) = true then mkL m (sortBy (key ρ) ds) g1 else none
    | some (.tuple ds) => if (ds.all fun d => isSt d && okKey t (key ρ d)) = true then mkL m (sortBy (key ρ) ds) g1 else none
    | _ => none) M1 H2 Q := by
    obtain ⟨w', h', e', q'⟩ := c2
    exact ⟨w', h', e', fun M' H' v x => q' M' H' v (x2.trans x)⟩
  show wpAny _ _ (call (.builtin "sorted") [u] [(Str.ofString "key", .ref fa)]) _ _ s2
  have main : ∀ (a : Addr) (xs : List V) (ds : List D), v = .ref a → (SqL X.K H2 a xs ∨ SqT X.K H2 a xs) → RDs M1 H2 xs ds → Cont RV (if (ds.all fun d => isSt d && okKey t (key ρ d)) = true then mkL m (sortBy (key ρ) ds) g1 else none) M1 H2 Q →
      wpAny (model X.prog X.w) X.A (call (.builtin "sorted") [u] [(Str.ofString "key", .ref fa)]) (EP X pins σ Q) X.xe s2 := by
    intro a xs ds ev hs qd c4
    subst ev
    obtain rfl : u = .ref a := ru
    split at c4
    case isFalse => exact c4.no.elim
    rename_i hall
    obtain ⟨bs, rfl, rfl, qb⟩ := rds_zip qd
    have hb : ∀ b ∈ bs, isSt b.2 = true ∧ okKey t (key ρ b.2) = true := fun b hb => by
      have := List.all_eq_true.mp hall b.2 (List.mem_map.mpr ⟨b, hb, rfl⟩)
      simpa using this
    obtain ⟨its, T, o, n, vl, ho, hc, hdat, hT, hz⟩ : ∃ (its : List Value) (T : String) (o : Obj) (n : Nat), Vals (bs.map (·.1)) its ∧ s2.heap.get? a = some o ∧ o.cls = .type T ∧ o.data = .seq its.toArray n ∧ (T = "list" ∨ T = "tuple") ∧ (bs.map (·.1)).length ≤ sizeLine := by
      rcases hs with hs | hs
      · obtain ⟨its, vl, ⟨o, n, y1, y2, _, y3⟩, hz⟩ := I2.list hs
        exact ⟨its, "list", o, n, vl, y1, y2, y3, .inl rfl, hz⟩
      · obtain ⟨its, vl, ⟨o, y1, y2, n, y3⟩, hz⟩ := I2.tuple hs
        exact ⟨its, "tuple", o, n, vl, y1, y2, y3, .inr rfl, hz⟩
    have hl : bs.length ≤ sizeLine := by rw [List.length_map] at hz; exact hz
    have ee : PySem.W.EachIs (fun (u : Value) (b : V × D) => RelV b.1 u) its bs := by
      clear hall hb c4 qb qd hs hz hl ho hdat
      induction bs generalizing its with
      | nil => cases vl; exact .nil
      | cons b bs ih => cases vl with | cons y1 y2 => exact .cons y1 (ih _ y2)
    apply sortedK_any (x := .ref a) (vs := its) (bs := bs) (key := fun b : V × D => (key ρ b.2).getD .none) (fun Q' k => collect_grown a hT ho hc hdat (by have := vl.length; simp only [List.size_toArray]; omega) fun h' hz kh => k h' hz kh) ee
    · intro d hd d' hd'
      obtain ⟨b, y1, rfl⟩ := List.mem_map.mp hd
      obtain ⟨b', y2, rfl⟩ := List.mem_map.mp hd'
      exact okKey_two (hb b y1).2 (hb b' y2).2
    · cases t with
      | true =>
        refine .inl fun d hd => ?_
        obtain ⟨b, y1, rfl⟩ := List.mem_map.mp hd
        have y2 := (hb b y1).2
        unfold okKey at y2
        split at y2
        · rename_i z; rw [z]; exact ⟨_, _, rfl⟩
        · cases y2
        · cases y2
      | false =>
        refine .inr fun d hd => ?_
        obtain ⟨b, y1, rfl⟩ := List.mem_map.mp hd
        have y2 := (hb b y1).2
        unfold okKey at y2
        split at y2
        · cases y2
        · rename_i z; rw [z]; exact ⟨nofun, nofun⟩
        · cases y2
    · exact hl
    · intro b y1
      have y2 := okKey_depth (hb b y1).2
      have y3 := hr.room.un
      show X.A.units + 2 + ((key ρ b.2).getD .none).depth < cLine
      omega
    · intro u b hR y1 h' tk kp
      obtain ⟨z, ez⟩ : ∃ z, b.2 = .str z := by
        have y2 := (hb b y1).1
        unfold isSt at y2
        split at y2
        · exact ⟨_, by assumption⟩
        · cases y2
      have rb := qb b y1
      rw [ez] at rb
      cases hv : b.1 with
      | str z' =>
        rw [hv] at rb hR
        cases rb
        obtain ⟨kd, ek⟩ : ∃ kd, key ρ (.str z) = some kd := by
          have y2 := (hb b y1).2
          rw [ez] at y2
          cases y3 : key ρ (.str z) with
          | none => rw [y3] at y2; cases y2
          | some kd => exact ⟨kd, rfl⟩
        show wpAny _ _ _ (PySem.W.KeyPure ((key ρ b.2).getD .none) _) _ _
        rw [ez, ek]
        have hrec : s2.heap.CodeRec (.ref c') (lamQ X) := by
          obtain ⟨⟨oc, vs, t, y3, y4, y5⟩, _, _⟩ := I2.hok c' _ hco
          exact ⟨c', oc, vs, t, rfl, y3, y4, y5⟩
        refine lam_call (x := x) (s := { s2 with heap := h', toks := tk }) ?_ (kp _ _ hf) ?_ (I2.nolimit.keeps kp) S.kind S.co S.gen S.noc S.par (hbind _ _ _ _ _) fun L h1 hns kp1 => hK pins σ H2 s2 M1 ρ I2 rs2 _ L fa c' h1 z u kd ek hR hns fun b o y => kp1 b o (kp b o y)
        · have := hr.room.dp; show X.A.depth < recursionLimit; omega
        · obtain ⟨c0, oc, vs, t, y2, y3, y4, y5⟩ := hrec
          exact ⟨c0, oc, vs, t, y2, kp _ _ y3, y4, y5⟩
      | _ => rw [hv] at rb; cases rb
    · intro out p cn h' tk kp hp hD eo
      have vo := each_vals eo
      have hlen : ((bs.mergeSort (PySem.W.dataLe false fun b : V × D => (key ρ b.2).getD .none)).map (·.1)).length ≤ sizeLine := by rw [List.length_map, List.length_mergeSort]; exact hl
      refine ⟨.ref p, _, I2.laid (t' := tk) (o := .lst ((bs.mergeSort (PySem.W.dataLe false fun b : V × D => (key ρ b.2).getD .none)).map (·.1))) kp hp ⟨hlen, out, cn, vo, hD⟩, rfl, ?_⟩
      have es : sortBy (key ρ) (bs.map (·.2)) = (bs.mergeSort (PySem.W.dataLe false fun b : V × D => (key ρ b.2).getD .none)).map (·.2) := (PySem.W.sort_maps (r := PySem.W.dataLe false fun b : V × D => (key ρ b.2).getD .none) (s := PySem.W.dataLe false fun d : D => (key ρ d).getD .none) (fun b : V × D => b.2) (l := bs) fun _ _ _ _ => rfl).symm
      rw [es] at c4
      exact mkL_fin r2 (I2.hok.fresh hp) (zip_rds fun b y1 => qb b ((List.mergeSort_perm bs _).mem_iff.mp y1)) c4
  split at c3
  · rename_i ds ed
    obtain ⟨a, xs, rfl, ha, qa⟩ := deref_rr r2 v2 ed
    exact main a xs ds rfl (.inl (.of ha)) qa c3
  · rename_i ds ed
    obtain ⟨a, xs, rfl, _, ha, qa⟩ := rr_tup (deref_rr r2 v2 ed)
    exact main a xs ds rfl (.inr ha.sq) qa c3
  · exact c3.no.elim
end
end DL

set_option maxRecDepth 100000
set_option maxHeartbeats 1000000
namespace DL
open PySem PySem.Spec PyProof.Rows L2
/-! ### the keys of this program -/
def keyA (ip it : Nat) (ρ : Env) (d : D) : Option D := match ρ[ip]?, ρ[it]?, d with
  | some (some (.dat (.dict pl))), some (some (.dat (.dict to))), .str z => if (isT pl || isT to) = true then none else match getK to (.inr z) with
    | some (.str y) => match getK pl (.inr y), getK pl (.inr z) with
      | some (.int i), some (.int j) => some (.tuple [.int i, .int j])
      | _, _ => none
    | _ => none
  | _, _, _ => none
def keyB (io : Nat) (ρ : Env) (d : D) : Option D := match ρ[io]?, d with
  | some (some (.dat (.dict od))), .str z => if isT od = true then none else match getK od (.inr z) with
    | some (.int i) => some (.int i)
    | _ => none
  | _, _ => none
section
variable {X : Cx}
theorem look1 {x : Str} {v : Value} : (fun y => [(x, v)].reverse.lookup y) x = some v := by
  show ([(x, v)] : List (Str × Value)).lookup x = some v
  rw [List.lookup_cons]
  simp
theorem pu_cap {scope : Scope} {s : Shared} {x : Str} {es : List (D × D)} {A : Around} {L f c' : Addr} {h1 : Heap} {e : Expr} {p1 pos : Pos} {z : Str} {d : D} (C : Cap X scope s x es) (kp : Keeps' s.heap h1) (hk : scope.kind = .function) (hf : scope.names.lookup x = some .free) (hz : getK es (.inr z) = some d)
    (sc : (∃ i, d = .int i) ∨ ∃ y, d = .str y) (he : Pu X.prog X.w A (PySem.W.envX (lamQ X) scope L f (.ref c') (cloFrom X.env.cells scope.names [])) h1 e (.str z)) (hs : PlainIx e)
    (hdb : (x == ("__debug__" : Str)) = false) (hcd : (x == ("__classdict__" : Str)) = false) : Pu X.prog X.w A (PySem.W.envX (lamQ X) scope L f (.ref c') (cloFrom X.env.cells scope.names [])) h1 (.Subscript (.Name x p1) e pos) d := by
  obtain ⟨c, a, vs, h2, ⟨o, h3, h4⟩, h5, h6⟩ := C.ex
  obtain ⟨u, h7, h8⟩ := h6 z d hz (by rcases sc with ⟨_, rfl⟩ | ⟨_, rfl⟩ <;> rfl) sc
  exact pu_sub (c := c) (a := a) hk hf h2 ⟨o, kp _ _ h3, h4⟩ (h5.at' fun o e => kp _ _ e) he h7 h8 hs hdb hcd
theorem keyA_ok {ip it : Nat} {x pn tn : Str} {scope : Scope} {x1} {p1 p2 p3 p4 p5 p6 p7 p8 p9 : Pos} (S : LamOk scope x) (hNp : X.N[ip]? = some pn) (hNt : X.N[it]? = some tn) (kp : X.env.kindOf pn = some .cell) (kt : X.env.kindOf tn = some .cell) (fp : scope.names.lookup pn = some .free) (ft : scope.names.lookup tn = some .free)
    (d1 : (pn == ("__debug__" : Str)) = false := by decide) (d2 : (pn == ("__classdict__" : Str)) = false := by decide) (d3 : (tn == ("__debug__" : Str)) = false := by decide) (d4 : (tn == ("__classdict__" : Str)) = false := by decide) (d5 : (x == ("__debug__" : Str)) = false := by decide) :
    KeyOk X x scope (.Tuple [.Subscript (.Name pn p1) (.Subscript (.Name tn p2) (.Name x p3) p4) p5, .Subscript (.Name pn p6) (.Name x p7) p8] x1 p9) (keyA ip it) := by
  intro pins σ H s M ρ I rs A L f c' h1 z v kd ek ev hns kk
  unfold keyA at ek
  split at ek
  case h_2 => cases ek
  rename_i pl to z' ep et ed
  cases ed
  split at ek
  case isTrue => cases ek
  rename_i hT
  simp only [Bool.or_eq_true, not_or, Bool.not_eq_true] at hT
  split at ek
  case h_2 => cases ek
  rename_i y ey
  split at ek
  case h_2 => cases ek
  rename_i i j ei ej
  cases ek
  have Cp := cap_of (scope := scope) I rs hNp kp fp ep hT.1
  have Ct := cap_of (scope := scope) I rs hNt kt ft et hT.2
  have pl : Pu X.prog X.w A (PySem.W.envX (lamQ X) scope L f (.ref c') (cloFrom X.env.cells scope.names [])) h1 (.Name x p3) (.str z) := pu_local S.kind S.par hns look1 ev d5
  have pl' : Pu X.prog X.w A (PySem.W.envX (lamQ X) scope L f (.ref c') (cloFrom X.env.cells scope.names [])) h1 (.Name x p7) (.str z) := pu_local S.kind S.par hns look1 ev d5
  exact kb_two (pu_cap Cp kk S.kind fp ei (.inl ⟨_, rfl⟩) (pu_cap Ct kk S.kind ft ey (.inr ⟨_, rfl⟩) pl (fun _ _ => rfl) d3 d4) (fun _ _ => rfl) d1 d2) (pu_cap Cp kk S.kind fp ej (.inl ⟨_, rfl⟩) pl' (fun _ _ => rfl) d1 d2)
theorem keyB_ok {io : Nat} {x on : Str} {scope : Scope} {p1 p2 p3 : Pos} (S : LamOk scope x) (hN : X.N[io]? = some on) (ko : X.env.kindOf on = some .cell) (fo : scope.names.lookup on = some .free)
    (d1 : (on == ("__debug__" : Str)) = false := by decide) (d2 : (on == ("__classdict__" : Str)) = false := by decide) (d5 : (x == ("__debug__" : Str)) = false := by decide) :
    KeyOk X x scope (.Subscript (.Name on p1) (.Name x p2) p3) (keyB io) := by
  intro pins σ H s M ρ I rs A L f c' h1 z v kd ek ev hns kk
  unfold keyB at ek
  split at ek
  case h_2 => cases ek
  rename_i od z' eo ed
  cases ed
  split at ek
  case isTrue => cases ek
  rename_i hT
  split at ek
  case h_2 => cases ek
  rename_i i ei
  cases ek
  have Co := cap_of (scope := scope) I rs hN ko fo eo (by simpa using hT)
  exact kb_one (pu_cap Co kk S.kind fo ei (.inl ⟨_, rfl⟩) (pu_local S.kind S.par hns look1 ev d5) (fun _ _ => rfl) d1 d2)
end
/-! ### defs that make lambdas -/
section
variable {P : Program} {w : World} {K : PySem.W.Frag} {mg : Str → Option Value} {base : Heap}
theorem gd_okC {x : Str} {st : Stmt} {f c : Addr} {fd : FuncData} {N ps : List Str} {k : Nat} {body : SM} (rm : Bool) (F : Fun K x x st f fd) (hm : mg x = some (.ref f)) (S : FnScope N ps (defScope st)) (hcd : fd.code = .ref c)
    (hb : ∀ (A : Around) (outer : List PySem.Env) (s : Shared) (H : Hp) (E : XK), RG k (A.deeper (envOfC x (defScope st) s.heap.objs.size f (.ref c))) → DSs (cxOf CX0 P w K mg base N x (defScope st) f (.ref c) A outer s H E).nox (defBody st) body) :
    GD P w K mg base (k + 1) x st ps (fnM rm ps.length N.length body) := ⟨f, fd, F, hm, fng_ok0 rm F S fun cdv ec A outer s H E hr => by
    obtain rfl : cdv = .ref c := ec.symm.trans hcd
    exact hb A outer s H E hr⟩
end
/-! ### the end, with tables -/
theorem law_gT {P : Program} {w : World} {K : PySem.W.Frag} {mg mb : Str → Option Value} {k : Nat} {fa a : Addr} {fd : FuncData} {x : Str} {sp : Sp} {s₁ : Shared} {vs : List Value} {ns : List Int} {cs : List (Addr × Addr)}
    (kx : K.In s₁.heap) (hns : s₁.heap.Ns mainGlobals mg) (hb : s₁.heap.Ns builtinsNs mb) (hbb : ∀ x : Str, x ≠ "__name__" → mb x = bootBuiltins x) (hlim : s₁.heap.NoLimit) (hg : s₁.gens = #[])
    (hT : ∀ p ∈ cs, PySem.W.CodeHd s₁.heap p.1 p.2 ∧ s₁.heap.get? p.2 = some { cls := .none, data := .fields #[] }) (nT : ∀ p ∈ cs, K.lookup p.2 = none)
    (hbm : ∃ (bm : Addr) (ob : Obj), mg "__builtins__" = some (.ref bm) ∧ bm ≠ builtinsNs ∧ s₁.heap.get? bm = some ob ∧ ob.cls = .type "module" ∧ ob.dict = some builtinsNs ∧ ob.data = .plain)
    (ha : s₁.heap.get? a = some { cls := .type "list", data := .seq vs.toArray }) (hi : IntsAre vs ns) (hl : ns.length ≤ sizeLine) (hr : Room k callerA)
    (F : ∀ base : Heap, K.In base → base.Ns mainGlobals mg → (∀ p ∈ cs, LamX.TabB base mg p.1 p.2) → FnG P w K mg base CX0 k fa fd [x] sp) (hbind : ∀ (s : Shared) (u : Value), BindsTo s fd ⟨[u], []⟩ [(x, u)])
    (hka : K.lookup a = none)
    (hsp : ∀ H : Hp, (∃ o, H a = some (.frz o (.lst (ns.map V.int)))) → (∀ p ∈ cs, H p.2 = some (.tbl #[])) → a ∉ cs.map (·.2) → sp [.ref a] H (fun v _ => v = .bl true) fun _ _ _ => False) :
    codeAny (model P w) callerA (.call (.ref fa) ⟨[.ref a], []⟩) (fun r s' => r = .ok (.ret (.bool true)) ∧ OldK s₁.heap s'.heap ∧ s'.os = s₁.os ∧ AllBare s'.gens) s₁ := by
  have rv := vals_ints hi
  let ob : Obj := { cls := .type "list", data := .seq vs.toArray }
  let H : Hp := fun b => if b = a then some (.frz ob (.lst (ns.map V.int))) else if b ∈ cs.map (·.2) then some (.tbl #[]) else none
  have tabs : ∀ b, b ∈ cs.map (·.2) → s₁.heap.get? b = some { cls := .none, data := .fields #[] } := fun b z => by
    obtain ⟨p, hp, rfl⟩ := List.mem_map.mp z
    exact (hT p hp).2
  have na : a ∉ cs.map (·.2) := fun z => by
    have y := tabs a z
    rw [ha] at y
    injection y with y
    injection y with _ _ y
    cases y
  have Ha : H a = some (.frz ob (.lst (ns.map V.int))) := if_pos rfl
  have Hc : ∀ b, b ∈ cs.map (·.2) → H b = some (.tbl #[]) := fun b z => by
    have h1 : b ≠ a := fun y => na (y ▸ z)
    show (if b = a then _ else if b ∈ cs.map (·.2) then _ else _) = _
    rw [if_neg h1, if_pos z]
  have Hn : ∀ b, b ≠ a → b ∉ cs.map (·.2) → H b = none := fun b h1 h2 => by
    show (if b = a then _ else if b ∈ cs.map (·.2) then _ else _) = _
    rw [if_neg h1, if_neg h2]
  have hok : HOk P w H s₁.heap := by
    intro b u e
    by_cases h : b = a
    · subst h
      rw [Ha] at e
      cases e
      exact ⟨ha, by rw [List.length_map]; exact hl, vs, _, rv, ha⟩
    · by_cases h2 : b ∈ cs.map (·.2)
      · rw [Hc b h2] at e
        cases e
        exact tabs b h2
      · rw [Hn b h h2] at e; cases e
  have hid : ∀ {b : Addr} {o : Obj}, s₁.heap.get? b = some o → H b = none → (hidT s₁.heap H).get? b = some o := fun e n => hidT_get e n
  have free : ∀ {b : Addr} {o : Obj}, s₁.heap.get? b = some o → (∀ vs n, o.data ≠ .seq vs n) → o.data ≠ .fields #[] → H b = none := by
    intro b o e h1 h2
    apply Hn
    · intro z
      subst z
      rw [ha] at e
      cases e
      exact h1 _ _ rfl
    · intro z
      rw [tabs b z] at e
      cases e
      exact h2 rfl
  have isd : ∀ {b : Addr} {o : Obj} {es : Array DictEntry} {ep : Nat}, s₁.heap.get? b = some o → o.data = .dict es ep → H b = none := by
    intro b o es ep e d
    apply free e
    · intro vs n z; rw [d] at z; cases z
    · intro z; rw [d] at z; cases z
  have nsk : ∀ {b : Addr} {m : Str → Option Value}, s₁.heap.Ns b m → (hidT s₁.heap H).Ns b m := fun {b m} q => by
    obtain ⟨o, es, ep, e, d, r⟩ := q
    exact ⟨o, es, ep, hid e (isd e d), d, r⟩
  have kb : K.In (hidT s₁.heap H) := by
    intro b o e
    apply hid (kx b o e)
    apply Hn
    · intro z
      subst z
      rw [hka] at e
      cases e
    · intro z
      obtain ⟨p, hp, rfl⟩ := List.mem_map.mp z
      rw [nT p hp] at e
      cases e
  have hM : Mod K mg (hidT s₁.heap H) := by
    refine ⟨kb, nsk hns, ⟨mb, nsk hb, hbb⟩, ?_⟩
    obtain ⟨mc, h1, h2⟩ := hlim
    exact ⟨mc, nsk h1, h2⟩
  have TB : ∀ p ∈ cs, LamX.TabB (hidT s₁.heap H) mg p.1 p.2 := by
    intro p hp
    obtain ⟨hc, ht⟩ := hT p hp
    constructor
    · obtain ⟨o, us, fi, tf, fl, tg, inF, tx, tt, e1, e2, e3, e4, r⟩ := hc
      refine ⟨o, us, fi, tf, fl, tg, inF, tx, tt, hid e1 (free e1 ?_ ?_), e2, e3, e4, r⟩
      · intro vs n z; rw [e3] at z; cases z
      · intro z
        rw [e3] at z
        injection z with z
        rw [z] at e4
        simp at e4
    · obtain ⟨bm, ob', b1, b2, b3, b4, b5, b6⟩ := hbm
      have n1 : bm ≠ mainGlobals := by
        intro z
        obtain ⟨o, es, ep, e, hd, _⟩ := hns
        rw [z, e] at b3
        cases b3
        rw [hd] at b6
        cases b6
      have n2 : bm ≠ p.2 := by
        intro z
        rw [z, ht] at b3
        cases b3
        cases b6
      refine ⟨bm, ob', b1, b2, n1, n2, hid b3 (free b3 ?_ ?_), b4, b5, b6⟩
      · intro vs n z; rw [b6] at z; cases z
      · intro z; rw [b6] at z; cases z
    · intro z
      obtain ⟨o, es, ep, e, hd, _⟩ := hns
      rw [z, ht] at e
      cases e
      cases hd
  have e0 : Env0 P w K mg (hidT s₁.heap H) callerA [] s₁ H := by
    refine ⟨rfl, hM, fun b o e => of_hidT e, Nat.le_of_eq (hidT_size _ _), trivial, fun b hb => ?_, hok, .of_eq hg⟩
    exact absurd (show b ∈ ([] : List Addr) from hb) (by simp)
  apply codeAny_mono ((F _ kb (nsk hns) TB).run callerA [] s₁ H ⟨[.ref a], []⟩ [.ref a] [.ref a] _ _ ⟨hr, rfl⟩ e0 (hbind s₁ (.ref a)) (.cons rfl .nil) (hsp H ⟨ob, Ha⟩ (fun p hp => Hc p.2 (List.mem_map.mpr ⟨p, hp, rfl⟩)) na))
  intro r s' h
  cases r with
  | error e => exact h.elim
  | ok fl => cases fl with
    | next => exact h.elim
    | brk => exact h.elim
    | cont => exact h.elim
    | ret u =>
      obtain ⟨v, H', os, bare, un, hok', r', q⟩ := h
      obtain rfl : v = .bl true := q
      obtain rfl : u = Value.bool true := r'
      have key : ∀ b o, b ∉ cs.map (·.2) → s₁.heap.get? b = some o → s'.heap.get? b = some o := by
        intro b o nb e
        by_cases hb' : b = a
        · subst hb'
          have z2 := un.frzs b ob _ Ha
          obtain ⟨e1, _⟩ := hok b _ Ha
          obtain ⟨e2, _⟩ := hok' b _ z2
          rw [e] at e1
          cases e1
          exact e2
        · exact un.keep b o e (Hn b hb' nb) (fun z => absurd (show b ∈ ([] : List Addr) from z) (by simp)) (by simp)
      have grown : ∀ p ∈ cs, ∃ more : Array Value, s'.heap.get? p.2 = some { cls := .none, data := .fields more } := by
        intro p hp
        obtain ⟨more, z⟩ := un.tbls p.2 #[] (Hc p.2 (List.mem_map.mpr ⟨p, hp, rfl⟩))
        exact ⟨_, hok' p.2 _ z⟩
      refine ⟨rfl, ⟨fun b o e => ?_, fun b o e => ?_⟩, os, bare⟩
      · by_cases hb' : b ∈ cs.map (·.2)
        · obtain ⟨p, hp, rfl⟩ := List.mem_map.mp hb'
          obtain ⟨more, hm⟩ := grown p hp
          rw [(hT p hp).2] at e
          cases e
          exact .inr (.inl ⟨((hT p hp).1.tab (hT p hp).2).isCodeTable, rfl, #[], more, rfl, by rw [Array.empty_append]; exact hm⟩)
        · exact .inl (key b o hb' e)
      · by_cases hb' : b ∈ cs.map (·.2)
        · obtain ⟨p, hp, rfl⟩ := List.mem_map.mp hb'
          obtain ⟨more, hm⟩ := grown p hp
          exact ⟨_, hm⟩
        · exact ⟨o, key b o hb' e⟩
/-- the law's first lists: its tables -/
def tabs0 (ts : List (Str × Addr × Addr)) : Hh := ts.map fun t => some (.tab t.1 t.2.2)
theorem walk_gT {l : PySem.W.OpenLaw} {k : Nat} {q : Program} {loose : List Str} {XP : (Str → Option Value) → Heap → Prop} {YP : World → Heap → Prop} {d : DefRec} {K : Params → PySem.W.Frag} {x : Str} {xs : List Str}
    (hn : l.most = some 63) (hdf : d.params.defaults = []) (hr : Room k callerA)
    (hY : ∀ (w : World) (h : Heap), YP w h → (K w.params).In h) (hnl : ∀ w : World, noList (K w.params) = true) (hrec : ∀ x ∈ xs, ((recsOf q).find? fun e => e.name == x).isSome = true)
    (F : ∀ (w : World) (mg : Str → Option Value) (fa : Addr) (h : Heap), (K w.params).In h → h.Ns mainGlobals mg → mg d.name = some (.ref fa) →
      ∃ (fd : FuncData) (ts : List (Str × Addr × Addr)) (m : FM), (∀ (s : Shared) (u : Value), BindsTo s fd ⟨[u], []⟩ [(x, u)]) ∧ (∀ t ∈ ts, (∃ y ∈ xs, PySem.W.tabIn (K w.params) y = some (t.2.1, t.2.2)) ∧ (K w.params).lookup t.2.2 = none) ∧ (ts.map (·.2.2)).Nodup ∧
        (∀ base : Heap, (K w.params).In base → base.Ns mainGlobals mg → (∀ t ∈ ts, LamX.TabB base mg t.2.1 t.2.2) → FnG l.prog w (K w.params) mg base CX0 k fa fd [x] (spD m)) ∧
        ∀ ns : List Int, ns.length ≤ 63 → ∃ h', m [.scr ns] (tabs0 ts) = some (.dat (.bool true), h')) :
    PySem.W.WalkO q loose XP YP l.row.toRowW d [] (fun f vs => PySem.call f vs) := by
  apply Att.attach_call hn hdf
  intro w s₀ s₁ mg mb fa o pm cd doc a vs ns G Y ho hd hcd hmg hobj hints hlen hg
  have KX := hY w _ Y
  obtain ⟨fd, ts, m, hb, hts, hnd, hF, hm⟩ := F w mg fa _ KX G.T.g hmg
  have hka : (K w.params).lookup a = none := by
    cases e : (K w.params).lookup a with
    | none => rfl
    | some u =>
      exfalso
      have e1 := KX a u e
      rw [hobj] at e1
      cases e1
      have := List.all_eq_true.mp (hnl w) _ (lookup_mem e)
      cases this
  have hT : ∀ p ∈ ts.map (·.2), PySem.W.CodeHd s₁.heap p.1 p.2 ∧ s₁.heap.get? p.2 = some { cls := .none, data := .fields #[] } := by
    intro p hp
    obtain ⟨t, ht, rfl⟩ := List.mem_map.mp hp
    obtain ⟨⟨y, hy, e⟩, _⟩ := hts t ht
    obtain ⟨dr, hdr⟩ := Option.isSome_iff_exists.mp (hrec y hy)
    exact PySem.W.tab_of G.T KX hdr e
  have nT : ∀ p ∈ ts.map (·.2), (K w.params).lookup p.2 = none := by
    intro p hp
    obtain ⟨t, ht, rfl⟩ := List.mem_map.mp hp
    exact (hts t ht).2
  refine law_gT (sp := spD m) (cs := ts.map (·.2)) KX G.T.g G.T.b G.T.builtins G.T.nolimit hg hT nT G.T.bmain hobj hints (Nat.le_trans hlen (by decide)) hr (fun base kb nb TB => hF base kb nb fun t ht => TB t.2 (List.mem_map.mpr ⟨t, ht, rfl⟩)) hb hka ?_
  intro H ha hH hna
  obtain ⟨ob, ha⟩ := ha
  obtain ⟨h', e⟩ := hm ns hlen
  have at_ : ∀ (i : Nat) (b : Addr), (ts.map fun t => some t.2.2)[i]? = some (some b) → ∃ t, ts[i]? = some t ∧ t.2.2 = b := by
    intro i b z
    rw [List.getElem?_map] at z
    cases y : ts[i]? with
    | none => rw [y] at z; cases z
    | some t => rw [y] at z; simp at z; exact ⟨t, rfl, z⟩
  have rep : Rep ⟨[], ts.map fun t => some t.2.2⟩ H (tabs0 ts) := by
    refine ⟨fun a z => (by cases z), by simp [tabs0], fun i j b z1 z2 => ?_, fun i b z => ?_, fun i z => ?_⟩
    · obtain ⟨t1, y1, e1⟩ := at_ i b z1
      obtain ⟨t2, y2, e2⟩ := at_ j b z2
      have l1 : i < (ts.map (·.2.2)).length := by rw [List.length_map]; exact lt_of_get y1
      apply (List.getElem?_inj l1 hnd).mp
      rw [List.getElem?_map, List.getElem?_map, y1, y2]
      simp [e1, e2]
    · obtain ⟨t, y, rfl⟩ := at_ i b z
      refine ⟨.tab t.1 t.2.2, by simp [tabs0, y], rfl, #[], hH t.2 (List.mem_map.mpr ⟨t, List.mem_of_getElem? y, rfl⟩), trivial, fun pos cv hc => ?_⟩
      have z : codeAmong pos [] = some cv := hc
      simp [codeAmong] at z
    · have z' : (ts.map fun t => some t.2.2)[i]? = some none := z
      rw [List.getElem?_map] at z'
      cases y : ts[i]? with
      | none => rw [y] at z'; cases z'
      | some t => rw [y] at z'; cases z'
  have nh : ¬ Mm.Has ⟨[], ts.map fun t => some t.2.2⟩ a := fun z => by
    rcases z with z | z
    · cases z
    · obtain ⟨t, ht, e⟩ := List.mem_map.mp (show some a ∈ ts.map fun t => some t.2.2 from z)
      apply hna
      rw [List.map_map]
      exact List.mem_map.mpr ⟨t, ht, Option.some.inj e⟩
  refine ⟨_, tabs0 ts, [.scr ns], rep, .cons ⟨a, ob, rfl, nh, ha⟩ .nil, .dat (.bool true), h', e, fun M' H' v _ _ r => ?_⟩
  cases (show RD M' H' v _ from r)
  rfl
end DL

set_option maxRecDepth 100000
set_option maxHeartbeats 1000000
namespace DL
open PySem PySem.Spec PyProof.Rows L2
/-! ### constants of the module; a lambda's scope -/
abbrev lamN (x : Str) : Str := (x ++ ".<locals>.") ++ "<lambda>"
section
variable {X : Cx}
theorem d_gint {x : Str} {i : Int} {p : Pos} (hm : ∃ t, X.mg x = some (.int i t)) (hg : Gl X x := by rfl) (hd : (x == ("__debug__" : Str)) = false := by decide) : DE X (.Name x p) (fC (.int i)) := by
  obtain ⟨t, hm⟩ := hm
  exact (pe_glob (v := .int i) hg hm ⟨t, rfl⟩ hd).weak fun σ H Q => by
    rintro ⟨M, h, ρ, r, rs, c⟩
    exact c.fin (.refl _ _) r (.int _)
theorem d_gstr {x z : Str} {p : Pos} (hm : ∃ t, X.mg x = some (.str z t)) (hg : Gl X x := by rfl) (hd : (x == ("__debug__" : Str)) = false := by decide) : DE X (.Name x p) (fC (.str z)) := by
  obtain ⟨t, hm⟩ := hm
  exact (pe_glob (v := .str z) hg hm ⟨t, rfl⟩ hd).weak fun σ H Q => by
    rintro ⟨M, h, ρ, r, rs, c⟩
    exact c.fin (.refl _ _) r (.str _)
theorem free_by {sc scope : Scope} (h : (scope.names.all fun y => !decide (y.2 = .free) || decide (sc.names.lookup y.1 = some .cell) || decide (sc.names.lookup y.1 = some .free)) = true) (e : X.env.scope = sc) : ∀ y ∈ scope.names, y.2 = .free → X.env.kindOf y.1 = some .cell ∨ X.env.kindOf y.1 = some .free := by
  intro y hy hf
  have q := List.all_eq_true.mp h y hy
  simp only [Bool.or_eq_true, Bool.not_eq_true', decide_eq_true_eq, decide_eq_false_iff_not] at q
  show X.env.scope.names.lookup y.1 = _ ∨ X.env.scope.names.lookup y.1 = _
  rw [e]
  rcases q with (q | q) | q
  · exact absurd hf q
  · exact .inl q
  · exact .inr q
theorem lam_by {scope : Scope} {x : Str} (h : (decide (scope.kind = .function) && !scope.isCoroutine && !scope.isGenerator && (scope.names.all fun y => !decide (y.2 = .cell)) && decide (scope.names.lookup x = some .local)) = true) : LamOk scope x := by
  simp only [Bool.and_eq_true, Bool.not_eq_true', decide_eq_true_eq, List.all_eq_true, decide_eq_false_iff_not] at h
  obtain ⟨⟨⟨⟨h1, h2⟩, h3⟩, h4⟩, h5⟩ := h
  exact ⟨h1, h2, h3, h4, h5⟩
end
theorem tab_mk {K : PySem.W.Frag} {x : Str} {f c P : Addr} {oc vc : Value} {od vd : Option Addr} {fd : FuncData} {sl vs : Array (Option Value)} {va : Array Value} (a : PySem.W.nsIn K mainGlobals x = some (some (.ref f))) (l : K.lookup f = some ⟨oc, od, .func fd, sl⟩) (e : fd.code = .ref c)
    (v : K.lookup c = some ⟨vc, vd, .fields va, vs⟩) (w : va[11]? = some (.ref P)) : PySem.W.tabIn K x = some (c, P) := by
  unfold PySem.W.tabIn
  rw [a]
  simp only [l, e, v, w]
end DL

set_option maxRecDepth 100000
set_option maxHeartbeats 1000000
namespace DL
open PySem PySem.Spec PyProof.Rows L2
/-! ### t.index(x), xs.index(x): texts -/
section
variable {X : Cx}
theorem rowS_map : ∀ {ds : List D} {l : List Str}, rowS ds = some l → ds = l.map .str
  | [], _, e => by cases e; rfl
  | d :: ds, l, e => by
    unfold rowS at e
    split at e
    · rename_i q; cases q
    · rename_i a ds' q
      cases q
      simp only [Option.map_eq_some_iff] at e
      obtain ⟨l', e1, rfl⟩ := e
      rw [rowS_map e1]; rfl
    · cases e
theorem rowS_strs : ∀ l : List Str, rowS (l.map .str) = some l
  | [] => rfl
  | a :: l => by
    show (rowS (l.map .str)).map (a :: ·) = _
    rw [rowS_strs l]; rfl
theorem rds_strs {M : Mm} {H : Hp} : ∀ {xs : List V} {l : List Str}, RDs M H xs (l.map .str) → xs = l.map V.str
  | _, [], .nil => rfl
  | _, a :: l, .cons r t => by cases r; rw [rds_strs t]; rfl
/-- the first place of a text -/
theorem first_at {l : List Str} {z : Str} (h : z ∈ l) : l[l.idxOf z]? = some z ∧ ∀ m : Nat, m < l.idxOf z → l[m]? ≠ some z := by
  have h1 := List.idxOf_lt_length_of_mem h
  refine ⟨by rw [List.getElem?_eq_getElem h1, List.getElem_idxOf h1], fun m hm e => ?_⟩
  obtain ⟨h2, e2⟩ := List.getElem?_eq_some_iff.mp e
  have := List.not_of_lt_findIdx (p := (· == z)) (xs := l) (i := m) hm
  simp [e2] at this
def isTp (w : W) (h : Hh) : Bool := match deref h w with
  | some (.tuple ds) => rowD ds
  | _ => false
def indexT (w : W) (ws : List W) (h : Hh) : Option (W × Hh) := match deref h w, ws with
  | some (.tuple ds), [.dat (.str z)] => match rowS ds with
    | some l => if z ∈ l then ok (.int (l.idxOf z)) h else none
    | none => none
  | _, _ => none
/-- x.m(..), x a tuple of unlike texts: it has no dict of its own -/
def tBT (r : V → List V → Hp → VK → Prop) (to : TE) (t : TA) : TE := fun σ H Q => to σ H fun x H1 => (∃ (a : Addr) (o : Obj) (xs : List V), x = .ref a ∧ o.dict = none ∧ H1 a = some (.frz o (.tup xs))) ∧ t σ H1 fun vs H2 => r x vs H2 Q
theorem pe_bt {o e : Expr} {to : TE} {t : TA} {name : Str} {apos cpos : Pos} {id : String} {r : V → List V → Hp → VK → Prop} (slot : Slot "tuple" name id) (hty : typeOf (.builtin id) = pure (.type "method_descriptor")) (hm : MtR X id r) (ho : PE X o to) (ha : PA X [e] t)
    (hb : attributeBase o name X.env (eval o X.env) = eval o X.env := by rfl) (hf : ((backTo cpos (starEach [e] X.env)).all (fun x => !x.1) && (backToKw cpos (keywordEach [] X.env)).all (fun x => x.1.isSome) && decide (([e] : List Expr).length + ([] : List Keyword).length + (if ([] : List Keyword).isEmpty then 0 else 1) < 30)) = true := by rfl)
    (hl : (apos.endLine == cpos.line) = true := by rfl) (hs : starEach [e] X.env = [(false, eval e X.env)] := by rfl) : PE X (.Call (.Attribute o name apos) [e] [] cpos) (tBT r to t) := by
  constructor
  rintro pins s σ H Q I h
  apply wpAny_Call_method_late hb hf hl rfl
  refine thn (ho.run pins s σ H _ I h) fun v s1 ⟨x, H1, I1, r1, ⟨a, ob, xs, ex, od, oa⟩, q1⟩ => ?_
  subst ex
  cases r1
  obtain ⟨g1, _, its, _, o', g2, hc, _⟩ := (show ObjOk X.prog X.w H1 s1.heap a (.frz ob (.tup xs)) from I1.hok a _ oa)
  rw [g1] at g2
  cases g2
  refine ⟨"tuple", id, PySem.F.plainAttrs_tuple, slot, hty, ⟨ob, g1, hc⟩, fun c e => by cases e; exact ⟨ob, g1, od⟩, ?_⟩
  have hA := ha.run cpos pins s1 σ H1 _ I1 q1
  rw [hs] at hA ⊢
  exact Calls.callWith_builtin (by rfl) (Calls.evalArgs_plain (thn hA fun us s2 ⟨vs, H2, I2, r2, q2⟩ => hm pins s2 σ H2 (.ref a) vs _ us Q I2 rfl r2 q2))
def rIxT (K : PySem.W.Frag) : V → List V → Hp → VK → Prop := fun x xs H Q => ∃ p, ∃ ys : List Str, ∃ z j, x = .ref p ∧ xs = [.str z] ∧ SqT K H p (ys.map V.str) ∧ ys[j]? = some z ∧ (∀ m, m < j → ys[m]? ≠ some z) ∧ Q (.int (j : Nat)) H
theorem rowD_call {ds : List D} (h : rowD ds = true) : callD ds = true := by unfold callD; rw [h, Bool.or_true]
theorem d_indexT {o e : Expr} {apos cpos : Pos} {f : EM} {g : AM} (ho : DE X o f) (ha : DA X [e] g) (hb : attributeBase o "index" X.env (eval o X.env) = eval o X.env := by rfl)
    (hf : ((backTo cpos (starEach [e] X.env)).all (fun x => !x.1) && (backToKw cpos (keywordEach [] X.env)).all (fun x => x.1.isSome) && decide (([e] : List Expr).length + ([] : List Keyword).length + (if ([] : List Keyword).isEmpty then 0 else 1) < 30)) = true := by rfl)
    (hl : (apos.endLine == cpos.line) = true := by rfl) (hs : starEach [e] X.env = [(false, eval e X.env)] := by rfl) : DE X (.Call (.Attribute o "index" apos) [e] [] cpos) (fM isTp indexT f g) :=
  (pe_bt (r := rIxT X.K) PySem.F.slot_tuple_index PySem.F.type_tuple_index mt_tup_index ho ha hb hf hl hs).weak fun σ H Q => by
    rintro ⟨M, h, ρ, r, rs, c⟩
    obtain ⟨w, h1, e1, c1⟩ := Cont.bind (δ := Unit) c
    refine ⟨M, h, ρ, r, rs, w, h1, e1, fun M1 H1 v x1 r1 v1 => ?_⟩
    have c2 := c1 M1 H1 x1
    split at c2
    · rename_i ht
      have ht' : ∃ ds, deref h1 w = some (.tuple ds) ∧ rowD ds = true := by
        unfold isTp at ht
        split at ht
        · rename_i ds q; exact ⟨ds, q, ht⟩
        · cases ht
      obtain ⟨ds, q, hd⟩ := ht'
      obtain ⟨a, xs, rfl, na, hta, qa⟩ := rr_tup (deref_rr r1 v1 q)
      have hfz : ∃ ob : Obj, ob.dict = none ∧ H1 a = some (.frz ob (.tup xs)) := by
        rcases hta with ⟨hn, _⟩ | ⟨_, z⟩
        · rw [rowD_call hd] at hn; cases hn
        · exact z
      obtain ⟨ob, z1, z2⟩ := hfz
      refine ⟨⟨a, ob, xs, rfl, z1, z2⟩, M1, h1, ρ, r1, rs.mono x1, ?_⟩
      obtain ⟨w2, h2, e2, c3⟩ := Cont.bind (δ := Unit) c2
      refine ⟨w2, h2, e2, fun M2 H2 v2 x2 r2 q2 => ?_⟩
      have c4 := c3 M2 H2 x2
      have v2' := v1.mono x2
      unfold indexT at c4
      split at c4
      · rename_i ds' wz z hq
        obtain ⟨b, ys, e3, nb, hb', qb⟩ := rr_tup (deref_rr r2 v2' hq)
        cases e3
        obtain ⟨y, rfl, ry⟩ := rvs1 q2
        split at c4
        · rename_i l hl'
          split at c4
          · rename_i hm
            have := rowS_map hl'
            subst this
            have := rds_strs qb
            subst this
            obtain ⟨f1, f2⟩ := first_at hm
            cases (show RD M2 H2 y (.str z) from ry)
            exact ⟨a, l, z, _, rfl, rfl, hb'.sq, f1, f2, c4.here r2 (.int _)⟩
          · exact c4.no.elim
        · exact c4.no.elim
      · exact c4.no.elim
    · exact c2.no.elim
end
end DL

set_option maxRecDepth 100000
set_option maxHeartbeats 1000000
namespace DL
open PySem PySem.Spec PyProof.Rows L2
/-! ### dicts that are made by and by: {}, d[k] = v, d.get(k, x), sorted(d) -/
section
variable {X : Cx}
def fDn (m : Bool) : EM := fun _ h => mkK m [] h
theorem d_dnew (m : Bool) {pos : Pos} : DE X (.Dict [] [] pos) (fDn m) := pe_dnewK.weak fun σ H Q => by
  rintro ⟨M, h, ρ, r, rs, c⟩
  exact fun p np => mkK_fin r np .nil c
def dicAt (h : Hh) (n : Nat) : Option (List (D × D)) := match h[n]? with
  | some (some (.dic es)) => some es
  | _ => none
theorem dicAt_ok {M : Mm} {H : Hp} {h : Hh} {n : Nat} {es : List (D × D)} {a : Addr} (rep : Rep M H h) (e : dicAt h n = some es) (ea : M.m[n]? = some (some a)) : ∃ kvs, H a = some (.dK kvs) ∧ RDk M H kvs es := by
  obtain ⟨o, ho, ro⟩ := rep.at_ n a ea
  unfold dicAt at e
  rw [ho] at e
  cases o with
  | lst _ => cases e
  | dic es' => cases e; exact ro
  | dit _ => cases e
  | tab _ _ => cases e
theorem rdk_len {M : Mm} {H : Hp} : ∀ {kvs : List (Key × V)} {es : List (D × D)}, RDk M H kvs es → kvs.length = es.length
  | _, _, .nil => rfl
  | _, _, .cons _ t => congrArg (· + 1) (rdk_len t)
def putW (o i w : W) (h : Hh) : Option Hh := match o, i, w with
  | .ref n, .dat k, .dat d => match dicAt h n, dKey k with
    | some es, some k' => if es.length < sizeLine then some (h.set n (some (.dic (putK' es k' d)))) else none
    | _, _ => none
  | _, _, _ => none
def sPut (f o i : EM) : SM := fun ρ h => sbnd (f ρ h) fun w h1 => sbnd (o ρ h1) fun a h2 => sbnd (i ρ h2) fun b h3 => match putW a b w h3 with
  | some h4 => some (.nx ρ, h4)
  | none => none
theorem put_imp {f o i : EM} : ∀ D σ H, tS (sPut f o i) D σ H → tAsg (tE f) (gSub (tE o) (tE i) rSetD) D σ H := fun D σ H => by
  rintro ⟨M, h, ρ, r, rs, p⟩
  obtain ⟨w, h1, e1, p1⟩ := p.bind
  refine ⟨M, h, ρ, r, rs, w, h1, e1, fun M1 H1 v x1 r1 v1 => ?_⟩
  obtain ⟨a, h2, e2, p2⟩ := p1.bind
  refine ⟨M1, h1, ρ, r1, rs.mono x1, a, h2, e2, fun M2 H2 v' x2 r2 v2 => ?_⟩
  obtain ⟨b, h3, e3, p3⟩ := p2.bind
  refine ⟨M2, h2, ρ, r2, (rs.mono x1).mono x2, b, h3, e3, fun M3 H3 v'' x3 r3 v3 => ?_⟩
  have ra := v2.mono x3
  have rw' := (v1.mono x2).mono x3
  unfold putW at p3
  split at p3
  · rename_i h4 e4
    split at e4
    · rename_i n k d
      obtain ⟨ad, ea, rfl⟩ := ra
      split at e4
      · rename_i es k' el ek
        obtain ⟨kvs, hx, q⟩ := dicAt_ok r3 el ea
        split at e4
        · rename_i hz
          cases e4
          have := kP_dKey ek
          subst this
          obtain rfl := rd_kP (show RD M3 H3 v'' (kP k') from v3)
          refine ⟨ad, _, rfl, DPut.k hx (by rw [rdk_len q]; exact hz), ?_⟩
          have x4 := ext_set (H := H3) (o := .dK (putK kvs k' v)) ea
          have xx := ((x1.trans x2).trans x3).trans x4
          exact p3 M3 _ σ xx.same xx.ext (r3.set ea ⟨_, upd_same, (q.put k' rw').mono x4.ext⟩) (rs.mono xx)
        · cases e4
      · cases e4
    · cases e4
  · exact p3.elim
theorem ds_put {k : Nat} (hr : RG k X.A) {o i e : Expr} {pos tpos : Pos} {f fo fi : EM} (he : DE X e f) (ho : DE X o fo) (hi : DE X i fi) (h : X.A.units + 1 < cLine → PS X (.Assign [.Subscript o i tpos] e pos) (tAsg (tE f) (gSub (tE fo) (tE fi) rSetD))) : DS X (.Assign [.Subscript o i tpos] e pos) (sPut f fo fi) :=
  (h (by have := hr.room.un; omega)).weak put_imp
def isDc (w : W) (h : Hh) : Bool := match deref h w with
  | some (.dict _) => true
  | _ => false
def getW (w k x : W) (h : Hh) : Option (W × Hh) := match deref h w, k, x with
  | some (.dict es), .dat kd, .dat xd => match getD es kd with
    | some o => ok (o.getD xd) h
    | none => none
  | _, _, _ => none
def fGet (fd fk fx : EM) : EM := fun ρ h => obnd (fd ρ h) fun w h1 => if isDc w h1 = true then obnd (fk ρ h1) fun k h2 => obnd (fx ρ h2) fun x h3 => getW w k x h3 else none
theorem RDo.getD_ {M : Mm} {H : Hp} {o : Option V} {p : Option D} {v : V} {d : D} (r : RDo M H o p) (q : RD M H v d) : RD M H (o.getD v) (p.getD d) := by
  cases o <;> cases p <;> first | exact q | exact r | exact r.elim
theorem d_dget {k : Nat} (hr : RG k X.A) {o e f : Expr} {apos cpos : Pos} {fd fk fx : EM} (ho : DE X o fd) (he : DE X e fk) (hf : DE X f fx) (m : M2 X o "get" apos e f cpos) : DE X (.Call (.Attribute o "get" apos) [e, f] [] cpos) (fGet fd fk fx) :=
  (pe_dget2 (by have := hr.room.un; omega) ho he hf m).weak fun σ H Q => by
    rintro ⟨M, h, ρ, r, rs, c⟩
    obtain ⟨w, h1, e1, c1⟩ := Cont.bind (δ := Unit) c
    refine ⟨M, h, ρ, r, rs, w, h1, e1, fun M1 H1 v x1 r1 v1 => ?_⟩
    have c2 := c1 M1 H1 x1
    split at c2
    · rename_i hd
      have hd' : ∃ es, deref h1 w = some (.dict es) := by
        unfold isDc at hd
        split at hd
        · exact ⟨_, ‹_›⟩
        · cases hd
      obtain ⟨es, q⟩ := hd'
      have hI : ∃ a, v = .ref a ∧ IsD H1 a := by
        rcases deref_rr r1 v1 q with ⟨a, kvs, rfl, ha, _⟩ | ⟨a, kvs, es', rfl, rfl, ha, _⟩
        · exact ⟨a, rfl, .inl ⟨kvs, .inl ha⟩⟩
        · exact ⟨a, rfl, .inr ⟨kvs, .inl ha⟩⟩
      obtain ⟨a, rfl, hI⟩ := hI
      refine ⟨a, rfl, hI, M1, h1, ρ, r1, rs.mono x1, ?_⟩
      obtain ⟨w2, h2, e2, c3⟩ := Cont.bind (δ := Unit) c2
      refine ⟨w2, h2, e2, fun M2 H2 v2 x2 r2 q2 => ⟨M2, h2, ρ, r2, (rs.mono x1).mono x2, ?_⟩⟩
      obtain ⟨w3, h3, e3, c4⟩ := Cont.bind (δ := Unit) (c3 M2 H2 x2)
      refine ⟨w3, h3, e3, fun M3 H3 v3 x3 r3 q3 => ?_⟩
      have c5 := c4 M3 H3 x3
      have va := (v1.mono x2).mono x3
      have vk := q2.mono x3
      unfold getW at c5
      split at c5
      · rename_i es' kd xd hq
        split at c5
        · rename_i oo eo
          obtain ⟨a', ov, ea, g, ro⟩ := get_ok (deref_rr r3 va hq) (show RD M3 H3 v2 kd from vk) eo
          cases ea
          exact ⟨ov, g, c5.here r3 (RDo.getD_ ro (show RD M3 H3 v3 xd from q3))⟩
        · exact c5.no.elim
      · exact c5.no.elim
    · exact c2.no.elim
/-- the texts that are a dict's keys -/
def keyS : List (D × D) → Option (List Str)
  | [] => some []
  | (.str s, _) :: es => (keyS es).map (s :: ·)
  | _ :: _ => none
theorem keyS_ok {M : Mm} {H : Hp} : ∀ {kvs : List (Key × V)} {es : List (D × D)} {l : List Str}, RDk M H kvs es → keyS es = some l → kvs.map (·.1) = l.map Sum.inr
  | _, _, l, .nil, e => by cases e; rfl
  | _, _, l, .cons (k := k) (es := es) r t, e => by
    cases k with
    | inl i => cases e
    | inr s =>
      have e' : (keyS es).map (s :: ·) = some l := e
      rw [Option.map_eq_some_iff] at e'
      obtain ⟨l', e1, rfl⟩ := e'
      rw [List.map_cons, keyS_ok t e1]; rfl
def leT (a b : Str) : Bool := decide (a.cps.toList ≤ b.cps.toList)
noncomputable def sortDW (m : Bool) (ws : List W) (h : Hh) : Option (W × Hh) := match ws with
  | [w] => match deref h w with
    | some (.dict es) => if isT es = true then none else match keyS es with
      | some l => if l.length < 64 then mkL m ((l.mergeSort leT).map .str) h else none
      | none => none
    | _ => none
  | _ => none
theorem leT_trans (a b c : Str) (h1 : leT a b = true) (h2 : leT b c = true) : leT a c = true := by
  unfold leT at *
  simp only [decide_eq_true_eq] at *
  exact List.le_trans h1 h2
theorem leT_total (a b : Str) : (leT a b || leT b a) = true := by
  unfold leT
  simp only [Bool.or_eq_true, decide_eq_true_eq]
  exact List.le_total _ _
theorem leT_anti {a b : Str} (h1 : leT a b = true) (h2 : leT b a = true) : a = b := by
  unfold leT at *
  simp only [decide_eq_true_eq] at *
  have e := List.le_antisymm h1 h2
  obtain ⟨⟨x⟩⟩ := a
  obtain ⟨⟨y⟩⟩ := b
  simp at e
  rw [e]
theorem leT_not {a b : Str} (h : ltCps b.cps.toList a.cps.toList = false) : leT a b = true := by
  rw [ltCps_eq] at h
  unfold leT
  simp only [decide_eq_false_iff_not, decide_eq_true_eq] at h ⊢
  exact h
theorem rising_pw : ∀ (p : Str) (l : List Str), risingS p l = true → (p :: l).Pairwise fun a b => leT a b = true
  | p, [], _ => by simp
  | p, x :: r, h => by
    rw [risingS, Bool.and_eq_true] at h
    have ih := rising_pw x r h.2
    have h1 : leT p x = true := leT_not (by simpa using h.1)
    rw [List.pairwise_cons]
    refine ⟨fun b hb => ?_, ih⟩
    rcases List.mem_cons.mp hb with rfl | hb
    · exact h1
    · exact leT_trans _ _ _ h1 ((List.pairwise_cons.mp ih).1 b hb)
theorem sorted_pw : ∀ l : List Str, sortedS l = true → l.Pairwise fun a b => leT a b = true
  | [], _ => .nil
  | x :: r, h => rising_pw x r h
theorem sort_one {ys ks : List Str} (p : ys.Perm ks) (h : sortedS ys = true) : ys = ks.mergeSort leT :=
  List.Perm.eq_of_pairwise (fun x y _ _ h1 h2 => leT_anti h1 h2) (sorted_pw ys h) (List.pairwise_mergeSort leT_trans leT_total ks) (p.trans (List.mergeSort_perm _ _).symm)
theorem rds_ofS {M : Mm} {H : Hp} : ∀ l : List Str, RDs M H (l.map V.str) (l.map .str)
  | [] => .nil
  | a :: l => .cons (.str a) (rds_ofS l)
theorem s_sortD (m : Bool) : SemA (fun xs H Q => ∃ (a : Addr) (kvs : List (Key × V)) (ks : List Str), xs = [.ref a] ∧ Rd H a (.dK kvs) ∧ kvs.map (·.1) = ks.map Sum.inr ∧ ks.length < 64 ∧ ∀ ys p, ys.Perm ks → sortedS ys = true → H p = none → Q (.ref p) (upd H p (.lst (ys.map V.str)))) (sortDW m) := by
  intro M H h vs ws Q rep rv c
  unfold sortDW at c
  split at c
  · obtain ⟨v, rfl, r⟩ := rvs1 rv
    split at c
    · rename_i es e
      split at c
      · exact c.no.elim
      · rename_i ht
        split at c
        · rename_i l el
          split at c
          · rename_i hz
            rcases deref_rr rep r e with ⟨a, kvs, rfl, ha, q⟩ | ⟨a, kvs, es', rfl, rfl, ha, q⟩
            · refine ⟨a, kvs, l, rfl, .inl ha, keyS_ok q el, hz, fun ys p pm hs np => ?_⟩
              rw [sort_one pm hs]
              exact mkL_fin rep np (rds_ofS _) c
            · exact absurd rfl ht
          · exact c.no.elim
        · exact c.no.elim
    · exact c.no.elim
  · exact c.no.elim
theorem d_sortD (hcalm : X.calm = true) (m : Bool) (hm : X.mg "sorted" = none) {e : Expr} {p pos : Pos} {g : AM} (ha : DA X [e] g) (hg : Gl X "sorted" := by rfl) (he : starEach [e] X.env = (false, eval e X.env) :: starEach [] X.env := by rfl) (hpl : (backTo pos (starEach [] X.env)).any (·.1) = false := by rfl) : DE X (.Call (.Name "sorted" p) [e] [] pos) (fA (sortDW m) g) :=
  d_callB (call_sortedD hcalm) (s_sortD m) hm (by decide +kernel) ha hg (by decide) (by decide) he hpl
end
end DL

set_option maxRecDepth 100000
set_option maxHeartbeats 4000000
namespace DL
open PySem PySem.Spec PyProof.Rows L2
/-! ### sorted(set(xs)), xs a list of unlike texts -/
section
variable {P : Program} {w : World}
/-- the payload of a set that holds the texts l, walked in the order of its table -/
structure TxR (P : Program) (w : World) (B : Froz.SD) (l : List Str) : Prop where
  ok : Froz.TxOk P w B l
  ris : Ris B.2.2.place.toList
  led : w.params.followText "set-order" = true ∨ B.2.2.led = true
theorem tail_ris {ep : Nat} {es : Array (Int × Value)} {t : SetTable} {b : Bool} (r : Ris t.place.toList) : Ris (Froz.tailTx ep es t b).2.2.place.toList := by
  unfold Froz.tailTx
  split
  · exact relayAll_ris _ _ _
  · exact r
theorem tail_led {ep : Nat} {es : Array (Int × Value)} {t : SetTable} {b : Bool} : (Froz.tailTx ep es t b).2.2.led = t.led := by
  unfold Froz.tailTx
  split
  · exact relayAll_led _ _ _
  · rfl
theorem TxR.add {B : Froz.SD} {l : List Str} {k : Str} (u : Tok) (F : TxR P w B l) : TxR P w (Froz.addTx (hashStr w k) (.str k u) B) (k :: l) := by
  refine ⟨Froz.add_ok u F.ok, ?_, ?_⟩
  · have r1 := layNew_ris B.2.2 B.1 (hashStr w k) (.str k u) F.ris
    unfold Froz.addTx
    apply tail_ris
    split
    · exact r1
    · exact r1
  · have l1 := layNew_led B.2.2 B.1 (hashStr w k) (.str k u)
    rcases F.led with q | q
    · exact .inl q
    · right
      unfold Froz.addTx
      rw [tail_led]
      split
      · exact l1.trans q
      · exact l1.trans q
/-- a set of these texts stands at a -/
def TxAt (P : Program) (w : World) (h : Heap) (a : Addr) (l : List Str) : Prop := ∃ B, h.get? a = some (Froz.sObj "set" B) ∧ TxR P w B l
theorem TxAt.at {h h' : Heap} {a : Addr} {l : List Str} (x : TxAt P w h a l) (k : ∀ o, h.get? a = some o → h'.get? a = some o) : TxAt P w h' a l := by
  obtain ⟨B, e, r⟩ := x
  exact ⟨B, k _ e, r⟩
end
section
variable {P : Program} {w : World} {A : Around} {R : Result → Shared → Prop} {I : Addr} {fp wr : List Addr} {G : Array GenState → Array GenState → Prop} {n : Nat} {Pv : Nat → Value → Prop} {St : Nat → Shared → Prop}
theorem txs_loop (W : WalksS P w A.in1 I fp wr G n Pv St) (a : Addr) (hf : a ∉ fp) (xs : List Str) (nd : xs.Nodup) (hn : xs.length = n) (hb : n + 1 < scanBound) (hv : ∀ i v, Pv i v → ∃ (y : Str) (t : Tok), xs[i]? = some y ∧ v = .str y t) :
    ∀ (k i : Nat) (s : Shared), i + k = n → St i s → TxAt P w s.heap a (xs.take i).reverse → (∀ s', Moved (a :: wr) G s s' → TxAt P w s'.heap a xs.reverse → R (.ok (.ret .none)) s') → codeAny (model P w) A (.builtin "set.update.loop" ⟨[.ref a, .ref I], []⟩) R s
  | 0, i, s, e, st, x, hR => by
    have hi : i = n := by omega
    subst hi
    apply codeAny_builtin PyProof.Rows.F.entry_set_update_loop
    rw [Around.under_plainId PyProof.Rows.F.plain_set_update_loop _]
    show wpAny _ A.in1 (pyNext (.ref I) >>= _) _ _ s
    apply wpAny_bind
    refine W.done s _ _ st fun s1 m => ?_
    show wpAny _ A.in1 (ret Value.none) _ _ s1
    refine wpAny_pure (hR s1 (m.mono fun b hb => List.mem_cons_of_mem _ hb) ?_)
    have x' := x.at fun o q => m.heap a o (fun z => hf (W.sub _ z)) q
    rwa [← hn, List.take_length] at x'
  | k + 1, i, s, e, st, x, hR => by
    apply codeAny_builtin PyProof.Rows.F.entry_set_update_loop
    rw [Around.under_plainId PyProof.Rows.F.plain_set_update_loop _]
    show wpAny _ A.in1 (pyNext (.ref I) >>= _) _ _ s
    apply wpAny_bind
    refine W.item i s _ _ (by omega) st fun v s1 pv st1 m => ?_
    obtain ⟨y, t, ey, rfl⟩ := hv i v pv
    obtain ⟨B, eB, rB⟩ := x.at fun o q => m.heap a o (fun z => hf (W.sub _ z)) q
    show wpAny _ A.in1 (holding [Value.str y t] (setAdd a (.str y t)) >>= _) _ _ s1
    apply wpAny_bind
    apply wpAny_holding
    unfold setAdd
    apply wpAny_holding
    apply wpAny_bind
    refine (PySem.strKind P w).pyHash (k := y) (strKind_is _ _ _ _) ?_
    have hnew : y ∉ (xs.take i).reverse := fun z => by
      have z := List.mem_reverse.mp z
      obtain ⟨j, hj, ej⟩ := List.mem_take_iff_getElem.mp z
      obtain ⟨hi, ei⟩ := List.getElem?_eq_some_iff.mp ey
      have := (List.pairwise_iff_getElem.mp nd) j i (by omega) hi (by omega)
      exact this (by rw [ej, ei])
    refine Froz.add_x (s := { s1 with toks := s1.toks + 1 }) eB rB.ok hnew (by rw [List.length_reverse, List.length_take]; omega) ?_
    have e2 := Froz.get_upd (h := s1.heap) (Froz.sObj "set" (Froz.addTx (hashStr w y) (.str y t) B)) eB rfl
    have oth : ∀ b o, b ≠ a → s1.heap.get? b = some o → (s1.heap.update a (fun _ => Froz.sObj "set" (Froz.addTx (hashStr w y) (.str y t) B))).get? b = some o := fun b o nb q => (Heap.get?_update_other _ _ (Ne.symm nb)).trans q
    refine wpAny_pure ⟨plainId_quiet PyProof.Rows.F.plain_set_update_loop _, txs_loop W a hf xs nd hn hb hv k (i + 1) _ (by omega) (W.frame _ s1 _ _ st1 (Nat.le_succ _) fun b hb o q => oth b o (fun z => hf (z ▸ hb)) q) ⟨_, e2, ?_⟩ fun s2 m2 x2 => ?_⟩
    · rw [List.take_add_one, ey]
      simp only [Option.toList_some, List.reverse_append, List.reverse_cons, List.reverse_nil, List.nil_append, List.singleton_append]
      exact rB.add t
    · exact hR s2 (Moved.trans W.gtrans ((m.mono fun b hb => List.mem_cons_of_mem _ hb).then_heap (Nat.le_succ _) fun b o nb q => oth b o (fun z => nb (by rw [z]; exact List.mem_cons_self)) q) m2) x2
end
section
variable {P : Program} {w : World} {A : Around} {E : Value → Shared → Prop} {s : Shared}
/-- the new set's object -/
abbrev nSet (w : World) : Obj := { cls := .type "set", dict := none, data := .set #[] 0 (.fresh 0 0 (!w.params.followText "set-order")) }
theorem nSet_txs {h : Heap} {a : Addr} (e : h.get? a = some (nSet w)) : TxAt P w h a [] := by
  refine ⟨(#[], 0, .fresh 0 0 (!w.params.followText "set-order")), e, Froz.TxOk.nil rfl, List.Pairwise.nil, ?_⟩
  show _ ∨ (!w.params.followText "set-order") = true
  cases w.params.followText "set-order" with
  | false => exact .inr rfl
  | true => exact .inl rfl
set_option maxHeartbeats 3200000 in
theorem call_set_txs {l : Addr} {its : Array Value} {xs : List Str} {Q : Value → Shared → Prop} (hh : A.handled = none) (hl : s.heap.IsList l its) (hi : StrsAre its.toList xs) (nd : xs.Nodup) (hb : xs.length + 1 < scanBound)
    (h : ∀ h' tk, TxAt P w h' s.heap.objs.size xs.reverse → (∀ b o, s.heap.get? b = some o → h'.get? b = some o) → Q (.ref s.heap.objs.size) { s with heap := h', toks := tk }) : wpAny (model P w) A (call (.type "set") [.ref l]) Q E s := by
  obtain ⟨c0, c1, k1⟩ := F.called_set.mro
  have k2 := F.called_set.made
  have k3 := F.called_set.sub
  apply wpAny_call
  apply codeAny_of_tree
  show wpAny _ _ (callAny (.type "set") _) _ _ _
  refine wpAny_pure ⟨Code.quiet_builtin _ (by decide +kernel), ?_⟩
  apply codeAny_builtin F.entry_type_call
  rw [Around.under_plain (weight_type_call_type "set" [.ref l] []) rfl]
  have k4 := F.called_set.notType
  have k5 := F.called_set.canCreate
  have k6 := F.typeCall_set_1 (.ref l)
  repeat (any_goals (first | assumption | wp_step))
  refine codeAny_mono (code_set_led1 (.ref l) (E := E) (Q₁ := fun o s1 => o = .ref s.heap.objs.size ∧ s1 = { s with heap := s.heap.push (nSet w) }) ⟨rfl, rfl⟩) fun q s1 hq => ?_
  cases q with
  | error _ => exact hq
  | ok f =>
    cases f with
    | ret o =>
      obtain ⟨rfl, rfl⟩ := hq
      have at1 : (s.heap.push (nSet w)).get? s.heap.objs.size = some (nSet w) := Heap.get?_push_size _ rfl
      have ty1 : Shared.TypeIs { s with heap := s.heap.push (nSet w) } (.ref s.heap.objs.size) "set" := ⟨_, at1, rfl⟩
      have k7 := F.called_set.init.lookup
      have k8 := F.called_set.init.bind (.ref s.heap.objs.size)
      repeat (any_goals (first | assumption | wp_step))
      refine codeAny_mono (codeAny_call_builtin (R := wants (fun z s2 => z = .none ∧ ∃ h' tk, s2 = { s with heap := h', toks := tk } ∧ TxAt P w h' s.heap.objs.size xs.reverse ∧ ∀ b o, s.heap.get? b = some o → h'.get? b = some o) E) F.called_set.init.plain F.entry_set_init (check_set_init_1 ty1 ?_)) fun q2 s2 hq2 => ?_
      · obtain ⟨⟨oc, od, odt, os⟩, ho, hoc, m, hod⟩ := hl
        simp only at hoc hod
        subst hoc
        subst hod
        have ho' : (s.heap.push (nSet w)).get? l = some { cls := .type "list", dict := od, data := .seq its m, slots := os } := Heap.get?_push_of_some _ ho
        have f1 := F.sub_list_set
        have f2 := F.sub_list_frozenset
        have f3 : (Value.type "list" == Value.type "dict") = false := by decide
        have hl' : (s.heap.push (nSet w)).IsList l its := ⟨_, ho', rfl, m, rfl⟩
        unfold Builtin.«set.__init__» noKeywords Builtin.Frozenset.updateFrom
        generalize eI : pyIter = pI
        wp_walk
        subst eI
        apply wpAny_pyIter_list hl'
        apply wpAny_bind
        apply wpAny_runValue
        have lt : l < s.heap.objs.size := Heap.lt_size ho
        have zs : (s.heap.push (nSet w)).objs.size = s.heap.objs.size + 1 := Heap.size_push ..
        have n1 : l ≠ (s.heap.push (nSet w)).objs.size := by rw [zs]; exact Nat.ne_of_lt (Nat.lt_succ_of_lt lt)
        have n2 : s.heap.objs.size ∉ [(s.heap.push (nSet w)).objs.size, l] := by
          rw [zs]
          simp only [List.mem_cons, List.not_mem_nil, or_false, not_or]
          exact ⟨Nat.ne_of_lt (Nat.lt_succ_self _), Nat.ne_of_gt lt⟩
        have len : xs.length = its.size := by rw [← StrsAre.len_eq hi, Array.length_toList]
        have val : ∀ (i : Nat) (v : Value), its[i]? = some v → ∃ (y : Str) (t : Tok), xs[i]? = some y ∧ v = .str y t := fun i v hv => by
          have hv' : its.toList[i]? = some v := by rw [Array.getElem?_toList]; exact hv
          obtain ⟨t, e⟩ := SS.strs_at hi i v hv'
          have hlt : i < xs.length := by have := (List.getElem?_eq_some_iff.mp hv').1; rw [Array.length_toList] at this; omega
          exact ⟨xs[i], t, List.getElem?_eq_getElem hlt, by rw [e, List.getD_eq_getElem?_getD, List.getElem?_eq_getElem hlt]; rfl⟩
        refine txs_loop ((Walks.list (by simp [hh]) _ l n1 its).toS) s.heap.objs.size n2 xs nd len (by rw [← len]; exact hb) val its.size 0 _ (by omega) ⟨⟨_, Heap.get?_push_size _ rfl, rfl, rfl⟩, hl'.push _⟩ ?_ ?_
        · rw [List.take_zero, List.reverse_nil]
          exact nSet_txs (Heap.get?_push_of_some _ at1)
        · intro s3 mv x3
          obtain ⟨h3, g3, d3, t3, o3⟩ := s3
          have q1 : g3 = s.gens := mv.gens
          have q2 : d3 = s.drawn := mv.drawn
          have q3 : o3 = s.os := mv.os
          subst q1
          subst q2
          subst q3
          show wpAny _ _ _ _ _ _
          apply wpAny_pure
          show wpAny _ _ (ret Value.none) _ _ _
          refine wpAny_pure ⟨rfl, h3, t3, rfl, x3, fun b o e => mv.heap b o (fun z => ?_) (Heap.get?_push_of_some _ (Heap.get?_push_of_some _ e))⟩
          have lb := Heap.lt_size e
          simp only [List.mem_cons, List.not_mem_nil, or_false, zs] at z
          rcases z with z | z
          · exact absurd lb (by rw [z]; exact Nat.lt_irrefl _)
          · exact absurd lb (by rw [z]; exact Nat.not_lt_of_le (Nat.le_succ _))
      · cases q2 with
        | error _ => exact hq2
        | ok f2 =>
          cases f2 with
          | ret z =>
            obtain ⟨rfl, h', tk, rfl, x', k'⟩ := hq2
            repeat (any_goals (first | assumption | wp_step))
            exact h _ _ x' k'
          | _ => exact hq2.elim
    | _ => exact hq.elim
end
end DL

set_option maxRecDepth 100000
set_option maxHeartbeats 1000000
namespace DL
open PySem PySem.Spec PyProof.Rows L2
section
variable {P : Program} {w : World} {A : Around} {E : Value → Shared → Prop} {s : Shared}
/-- a text's own value -/
abbrev IsTx (v : Value) (k : Str) : Prop := ∃ t, v = .str k t
def txV : Value → Str
  | .str k _ => k
  | _ => Str.empty
theorem each_tx : ∀ {vs : List Value}, (∀ v ∈ vs, ∃ k, IsTx v k) → PySem.W.EachIs IsTx vs (vs.map txV)
  | [], _ => .nil
  | v :: vs, h => by
    obtain ⟨k, t, rfl⟩ := h v List.mem_cons_self
    exact .cons ⟨t, rfl⟩ (each_tx fun u hu => h u (List.mem_cons_of_mem _ hu))
theorem vals_tx : ∀ {vs : List Value} {l : List Str}, PySem.W.EachIs IsTx vs l → Vals (l.map V.str) vs
  | _, _, .nil => .nil
  | _, _, .cons a t => .cons a (vals_tx t)
theorem perm_cover : ∀ {l m : List Str}, l.Nodup → l.length = m.length → (∀ k ∈ l, k ∈ m) → l.Perm m
  | [], m, _, e, _ => by
    have : m = [] := List.length_eq_zero_iff.mp e.symm
    rw [this]
  | a :: l, m, nd, e, h => by
    have pe := List.perm_cons_erase (h a List.mem_cons_self)
    have hl := pe.length_eq
    rw [List.length_cons] at hl e
    obtain ⟨n1, n2⟩ := List.nodup_cons.mp nd
    have ih := perm_cover (l := l) (m := m.erase a) n2 (by omega) fun k hk => by
      have ne : k ≠ a := fun z => by subst z; exact n1 hk
      exact (List.mem_erase_of_ne ne).mpr (h k (List.mem_cons_of_mem _ hk))
    exact (List.Perm.cons a ih).trans pe.symm
theorem leT_data : PySem.W.dataLe false (fun k : Str => (PyData.str k)) = leT := PySem.W.dataLe_str fun k => k
theorem sorted_txs {a : Addr} {l : List Str} {Q : Value → Shared → Prop} (x : TxAt P w s.heap a l) (nd : l.Nodup) (hb : l.length < scanBound) (hz : l.length ≤ sizeLine) (hh : A.handled = none) (hu : A.units + 2 < cLine)
    (hQ : ∀ s' p out c, (∀ b o, s.heap.get? b = some o → s'.heap.get? b = some o) → s'.gens = s.gens → s'.os = s.os → s.heap.objs.size ≤ p → s'.heap.get? p = some (seqObj "list" (List.toArray out) c) → Vals ((l.mergeSort leT).map V.str) out → Q (.ref p) s') :
    wpAny (model P w) A (call (.builtin "sorted") [.ref a]) Q E s := by
  obtain ⟨⟨es, ep, t⟩, ho, F, ris, led⟩ := x
  have fz : es.size = l.length := F.sz
  refine call_function_entry_kw kind_sorted plain_sorted entry_sorted (args_sorted1 _) ?_
  unfold Builtin.«sorted»
  refine wpAny_bind (m := checkCount "sorted" 1 1 _) (wpAny_pure (wpAny_bind (collect_set (A := A.in1) hh ⟨_, ho, rfl, rfl⟩ F.fit (by rw [fz]; exact hb) ris led fun s1 vs k1 hs g1 o1 pm => ?_)))
  have el : ∀ v ∈ vs, ∃ k, IsTx v k := fun v hv => by
    obtain ⟨e, he, rfl⟩ := List.mem_map.mp (pm.mem_iff.mp hv)
    obtain ⟨⟨k, hk, _⟩, _⟩ := F.el e he
    exact ⟨k, Value.isStrOf_shape hk⟩
  have vl : vs.length = l.length := by rw [pm.length_eq, List.length_map, Array.length_toList]; exact fz
  have pl : l.Perm (vs.map txV) := perm_cover nd (by rw [List.length_map, vl]) fun k hk => by
    obtain ⟨e, he, q⟩ := (F.mem k).mp hk
    obtain ⟨u, eu⟩ := Value.isStrOf_shape q
    refine List.mem_map.mpr ⟨e.2, pm.mem_iff.mpr (List.mem_map.mpr ⟨e, he, rfl⟩), ?_⟩
    rw [eu]; rfl
  have ev := each_tx el
  have hv : vs.length ≤ sizeLine := by rw [vl]; exact hz
  apply wpAny_bind
  refine wpAny_newList ?_ hv
  have at_ : (s1.heap.push (seqObj "list" vs.toArray 0)).get? s1.heap.objs.size = some (seqObj "list" vs.toArray 0) := Heap.get?_push_size _ rfl
  have er' : PySem.W.EachIs (fun v b => ∃ as, Reads (PySem.W.sortingHeap (s1.heap.push (seqObj "list" vs.toArray 0)) s1.heap.objs.size vs) v (PyData.str b) as) vs (vs.map txV) := ev.mono fun v b ⟨u, e⟩ => by
    subst e
    exact ⟨[], .str b u⟩
  have hal : PySem.W.AllAlike ((vs.map txV).map PyData.str) := fun d hd e he => by
    obtain ⟨x, _, rfl⟩ := List.mem_map.mp hd
    obtain ⟨y, _, rfl⟩ := List.mem_map.mp he
    rfl
  have hk : PySem.W.Sortable ((vs.map txV).map PyData.str) := .inr fun d hd => by
    obtain ⟨x, _, rfl⟩ := List.mem_map.mp hd
    exact ⟨fun z => (by cases z), fun xs z => (by cases z)⟩
  refine wpAny_bind (wpAny_holding (wpAny_call_entry_kw slot_list_sort ⟨_, at_, rfl⟩ entry_list_sort ?_ (args_list_sort _)))
  refine PySem.W.list_sort_vals (s := { s1 with heap := s1.heap.push (seqObj "list" vs.toArray 0) }) at_ (PySem.W.SortsAt.data (s := { s1 with heap := PySem.W.sortingHeap (s1.heap.push (seqObj "list" vs.toArray 0)) s1.heap.objs.size vs }) (PySem.W.each_map (R := fun v d => ∃ as, Reads (PySem.W.sortingHeap (s1.heap.push (seqObj "list" vs.toArray 0)) s1.heap.objs.size vs) v d as) PyData.str er') hal hk (PySem.W.bound_map (A := A.in1.in1) fun b _ => ?_)) hv ?_
  · have e : PyData.depth (.str b) = 0 := rfl
    rw [e]
    exact hu
  · refine ⟨_, rfl, wpAny_pure ⟨_, rfl, ?_⟩⟩
    obtain ⟨c, hc⟩ := sortedHeap_at (vs := vs) (out := (PySem.W.sortVals (PySem.W.dataKind (PySem.W.sortingHeap (s1.heap.push (seqObj "list" vs.toArray 0)) s1.heap.objs.size vs) ((vs.map txV).map PyData.str)) false vs vs).toArray) at_
    have eo := PySem.W.sortVals_data false ev er' hal
    rw [leT_data] at eo
    have es' : (vs.map txV).mergeSort leT = l.mergeSort leT := List.Perm.eq_of_pairwise (fun x y _ _ h1 h2 => leT_anti h1 h2) (List.pairwise_mergeSort leT_trans leT_total _) (List.pairwise_mergeSort leT_trans leT_total _) ((List.mergeSort_perm _ _).trans (pl.symm.trans (List.mergeSort_perm _ _).symm))
    rw [es'] at eo
    refine hQ _ _ _ c (fun b o q => ?_) g1 o1 hs hc (vals_tx eo)
    have q1 := k1 b o q
    have lb := Heap.lt_size q1
    show (sortedHeap _ _ _ _).get? b = some o
    rw [sortedHeap_old (Nat.ne_of_lt lb) (by rw [size_push']; exact Nat.lt_succ_of_lt lb)]
    exact Heap.get?_push_of_some _ q1
end
section
variable {X : Cx}
/-- a set of texts -/
def SetX (P : Program) (w : World) (a : Addr) (l : List Str) : HO := .ext fun h => TxAt P w h a l
theorem setX_new {P : Program} {w : World} {H : Hp} {h : Heap} {a : Addr} {l : List Str} (x : TxAt P w h a l) : ObjOk P w H h a (SetX P w a l) := by
  have ⟨B, e, _⟩ := x
  exact ⟨x, ⟨_, e⟩, fun h1 h2 p k => TxAt.at p k⟩
def rSetX (K : PySem.W.Frag) (P : Program) (w : World) : List V → Hp → VK → Prop := fun xs H Q => ∃ (a : Addr) (l : List Str), xs = [.ref a] ∧ SqL K H a (l.map V.str) ∧ l.Nodup ∧ l.length + 1 < scanBound ∧ ∀ p, H p = none → Q (.ref p) (upd H p (SetX P w p l.reverse))
theorem cr_setX (hc : X.calm = true) : CallR X (.type "set") (rSetX X.K X.prog X.w) := by
  rintro pins s σ H xs us Q I r ⟨a, l, rfl, hl, nd, hb, q⟩
  rw [Vals.ref1 r]
  obtain ⟨its, rv, pl, hz⟩ := I.list hl
  refine call_set_txs (P := X.prog) (w := X.w) (its := its.toArray) (xs := l) (I.ok.hd hc) pl.isList rv.strs nd hb fun h' tk x k => ?_
  exact ⟨.ref s.heap.objs.size, _, I.laid (t' := tk) (o := SetX X.prog X.w s.heap.objs.size l.reverse) k (Nat.le_refl _) (setX_new x), rfl, q _ (I.hok.fresh (Nat.le_refl _))⟩
def rSortX (P : Program) (w : World) : List V → Hp → VK → Prop := fun xs H Q => ∃ (a : Addr) (l : List Str), xs = [.ref a] ∧ H a = some (SetX P w a l) ∧ l.Nodup ∧ l.length < scanBound ∧ l.length ≤ sizeLine ∧ ∀ p, H p = none → Q (.ref p) (upd H p (.lst ((l.mergeSort leT).map V.str)))
theorem cr_sortX {k : Nat} (hr : Room k X.A) (hc : X.calm = true) : CallR X (.builtin "sorted") (rSortX X.prog X.w) := by
  rintro pins s σ H xs us Q I r ⟨a, l, rfl, ha, nd, hb, hz, q⟩
  rw [Vals.ref1 r]
  have x : TxAt X.prog X.w s.heap a l := (I.hok a _ ha).1
  refine sorted_txs x nd hb hz (I.ok.hd hc) (by have := hr.un; omega) fun s' p out c k g o hp hg hv => ?_
  have hlen : ((l.mergeSort leT).map V.str).length ≤ sizeLine := by rw [List.length_map, List.length_mergeSort]; exact hz
  have hn : H p = none := I.hok.fresh hp
  have J : Inv X pins σ (upd H p (.lst ((l.mergeSort leT).map V.str))) { s with heap := s'.heap, gens := s'.gens, drawn := s'.drawn, toks := s'.toks } :=
    I.call (ch := []) (Un.laid k hp hn) (I.hok.laid k hp ⟨hlen, out, c, hv, hg⟩) (by rw [g]; exact I.bare) (fun _ z => nomatch z)
  have e : s' = { s with heap := s'.heap, gens := s'.gens, drawn := s'.drawn, toks := s'.toks } := by
    cases s'
    cases s
    cases o
    rfl
  rw [e]
  exact ⟨.ref p, _, J, rfl, q p hn⟩
/-- sorted(set(xs)) -/
noncomputable def sortSW (m : Bool) (ws : List W) (h : Hh) : Option (W × Hh) := match ws with
  | [w] => match deref h w with
    | some (.list ds) => match rowS ds with
      | some l => if (decide l.Nodup && decide (l.length < 1000)) = true then mkL m ((l.mergeSort leT).map .str) h else none
      | none => none
    | _ => none
  | _ => none
theorem sort_rev (l : List Str) : l.reverse.mergeSort leT = l.mergeSort leT :=
  List.Perm.eq_of_pairwise (fun x y _ _ h1 h2 => leT_anti h1 h2) (List.pairwise_mergeSort leT_trans leT_total _) (List.pairwise_mergeSort leT_trans leT_total _) ((List.mergeSort_perm _ _).trans ((List.reverse_perm l).trans (List.mergeSort_perm _ _).symm))
theorem d_sortS {k : Nat} (hr : RG k X.A) (hc : X.calm = true) (m : Bool) (hm : X.mg "sorted" = none) (hm2 : X.mg "set" = none) {e : Expr} {p p2 q pos : Pos} {g : AM} (ha : DA X [e] g) (hg : Gl X "sorted" := by rfl) (hg2 : Gl X "set" := by rfl)
    (he : starEach [.Call (.Name "set" p2) [e] [] q] X.env = (false, eval (.Call (.Name "set" p2) [e] [] q) X.env) :: starEach [] X.env := by rfl) (hpl : (backTo pos (starEach [] X.env)).any (·.1) = false := by rfl) (he2 : starEach [e] X.env = (false, eval e X.env) :: starEach [] X.env := by rfl) (hpl2 : (backTo q (starEach [] X.env)).any (·.1) = false := by rfl) :
    DE X (.Call (.Name "sorted" p) [.Call (.Name "set" p2) [e] [] q] [] pos) (fA (sortSW m) g) :=
  (pe_callB (cr_sortX hr.room hc) hg hm (by decide +kernel) (pa_cons (pe_callTy (cr_setX hc) hg2 hm2 (by decide +kernel) ha (by decide) (by decide) he2 hpl2) pa_nil) (by decide) (by decide) he hpl).weak fun σ H Q => by
    rintro ⟨M, h, ρ, r, rs, c⟩
    obtain ⟨w, h1, e1, c1⟩ := Cont.bind (δ := Unit) c
    refine ⟨M, h, ρ, r, rs, w, h1, e1, fun M1 H1 v x1 r1 v1 => ?_⟩
    have c2 := c1 M1 H1 x1
    unfold sortSW at c2
    split at c2
    · obtain ⟨v, rfl, rv⟩ := rvs1 v1
      split at c2
      · rename_i ds ed
        obtain ⟨a, xs, rfl, ha, qa⟩ := deref_rr r1 rv ed
        split at c2
        · rename_i l el
          split at c2
          · rename_i hz
            rw [Bool.and_eq_true, decide_eq_true_eq, decide_eq_true_eq] at hz
            have := rowS_map el
            subst this
            have := rds_strs qa
            subst this
            have sb : l.length + 1 < scanBound := by have : scanBound = 4096 := rfl; omega
            refine ⟨a, l, rfl, .of ha, hz.1, sb, fun p np => ?_⟩
            refine ⟨p, l.reverse, rfl, upd_same, (List.reverse_perm l).nodup_iff.mpr hz.1, by rw [List.length_reverse]; omega, by rw [List.length_reverse, sizeLine_eq]; omega, fun p' np' => ?_⟩
            rw [sort_rev]
            have x2 := ext_new (M := M1) (o := SetX X.prog X.w p l.reverse) np
            have c3 : Cont RV (mkL m ((l.mergeSort leT).map .str) h1) M1 (upd H1 p (SetX X.prog X.w p l.reverse)) Q := by
              obtain ⟨w', h', ee, kk⟩ := c2
              exact ⟨w', h', ee, fun M' H' v' xx => kk M' H' v' (x2.trans xx)⟩
            exact mkL_fin (r1.upd_new np) np' (rds_ofS _) c3
          · exact c2.no.elim
        · exact c2.no.elim
      · exact c2.no.elim
    · exact c2.no.elim
/-! ### sep.join(xs) -/
def isS : W → Bool
  | .dat (.str _) => true
  | _ => false
def joinW (x y : W) (h : Hh) : Option (W × Hh) := match x, deref h y with
  | .dat (.str a), some (.list ds) => match rowS ds with
    | some l => if (l.map (·.length)).sum + l.length * a.length ≤ 16777216 then ok (.str (Txt.join a l)) h else none
    | none => none
  | _, _ => none
def fJoin (fo fe : EM) : EM := fun ρ h => obnd (fo ρ h) fun x h1 => if isS x = true then obnd (fe ρ h1) fun y h2 => joinW x y h2 else none
theorem d_join {o e : Expr} {apos pos : Pos} {fo fe : EM} (ho : DE X o fo) (he : DE X e fe) (hs : starEach [e] X.env = [(false, eval e X.env)] := by rfl) (hb : attributeBase o "join" X.env (eval o X.env) = eval o X.env := by rfl) (hl : (apos.endLine == pos.line) = true := by rfl) :
    DE X (.Call (.Attribute o "join" apos) [e] [] pos) (fJoin fo fe) := (pe_join ho he hs hb hl).weak fun σ H Q => by
  rintro ⟨M, h, ρ, r, rs, c⟩
  obtain ⟨w, h1, e1, c1⟩ := Cont.bind (δ := Unit) c
  refine ⟨M, h, ρ, r, rs, w, h1, e1, fun M1 H1 v x1 r1 v1 => ?_⟩
  have c2 := c1 M1 H1 x1
  split at c2
  · rename_i ht
    have hw : ∃ a, w = .dat (.str a) := by
      unfold isS at ht
      split at ht
      · exact ⟨_, rfl⟩
      · cases ht
    obtain ⟨a, rfl⟩ := hw
    cases (show RD M1 H1 v (.str a) from v1)
    refine ⟨⟨a, rfl⟩, M1, h1, ρ, r1, rs.mono x1, ?_⟩
    obtain ⟨w2, h2, e2, c3⟩ := Cont.bind (δ := Unit) c2
    refine ⟨w2, h2, e2, fun M2 H2 v2 x2 r2 q2 => ?_⟩
    have c4 := c3 M2 H2 x2
    unfold joinW at c4
    split at c4
    · rename_i a' ds ea ed
      cases ea
      obtain ⟨p, xs, rfl, hp, qp⟩ := deref_rr r2 q2 ed
      split at c4
      · rename_i l el
        split at c4
        · rename_i hz
          have := rowS_map el
          subst this
          have := rds_strs qp
          subst this
          exact ⟨a, p, l, rfl, rfl, .inl (.of hp), hz, c4.here r2 (.str _)⟩
        · exact c4.no.elim
      · exact c4.no.elim
    · exact c4.no.elim
  · exact c2.no.elim
end
end DL

set_option maxRecDepth 100000
set_option maxHeartbeats 1000000
namespace DL
open PySem PySem.Spec PyProof.Rows L2
/-! ### {k: v, ..} of variables; sorted(d.values()); xs.index(x) -/
section
variable {P : Program} {w : World} {A : Around} {E : Value → Shared → Prop} {s : Shared}
/-- sorted(x), where x's items are texts, in some order -/
theorem sorted_from {x : Value} {l : List Str} {Q : Value → Shared → Prop} (hz : l.length ≤ sizeLine) (hu : A.units + 2 < cLine)
    (hcol : ∀ Q' : List Value → Shared → Prop, (∀ s1 vs, (∀ b o, s.heap.get? b = some o → s1.heap.get? b = some o) → s.heap.objs.size ≤ s1.heap.objs.size → s1.gens = s.gens → s1.os = s.os → (∀ v ∈ vs, ∃ k, IsTx v k) → (vs.map txV).Perm l → Q' vs s1) → wpAny (model P w) A.in1 (collect x) Q' E s)
    (hQ : ∀ s' p out c, (∀ b o, s.heap.get? b = some o → s'.heap.get? b = some o) → s'.gens = s.gens → s'.os = s.os → s.heap.objs.size ≤ p → s'.heap.get? p = some (seqObj "list" (List.toArray out) c) → Vals ((l.mergeSort leT).map V.str) out → Q (.ref p) s') :
    wpAny (model P w) A (call (.builtin "sorted") [x]) Q E s := by
  refine call_function_entry_kw kind_sorted plain_sorted entry_sorted (args_sorted1 _) ?_
  unfold Builtin.«sorted»
  refine wpAny_bind (m := checkCount "sorted" 1 1 _) (wpAny_pure (wpAny_bind (hcol _ fun s1 vs k1 hs g1 o1 el pl => ?_)))
  have ev := each_tx el
  have hv : vs.length ≤ sizeLine := by
    have := pl.length_eq
    rw [List.length_map] at this
    omega
  apply wpAny_bind
  refine wpAny_newList ?_ hv
  have at_ : (s1.heap.push (seqObj "list" vs.toArray 0)).get? s1.heap.objs.size = some (seqObj "list" vs.toArray 0) := Heap.get?_push_size _ rfl
  have er' : PySem.W.EachIs (fun v b => ∃ as, Reads (PySem.W.sortingHeap (s1.heap.push (seqObj "list" vs.toArray 0)) s1.heap.objs.size vs) v (PyData.str b) as) vs (vs.map txV) := ev.mono fun v b ⟨u, e⟩ => by
    subst e
    exact ⟨[], .str b u⟩
  have hal : PySem.W.AllAlike ((vs.map txV).map PyData.str) := fun d hd e he => by
    obtain ⟨x, _, rfl⟩ := List.mem_map.mp hd
    obtain ⟨y, _, rfl⟩ := List.mem_map.mp he
    rfl
  have hk : PySem.W.Sortable ((vs.map txV).map PyData.str) := .inr fun d hd => by
    obtain ⟨x, _, rfl⟩ := List.mem_map.mp hd
    exact ⟨fun z => (by cases z), fun xs z => (by cases z)⟩
  refine wpAny_bind (wpAny_holding (wpAny_call_entry_kw slot_list_sort ⟨_, at_, rfl⟩ entry_list_sort ?_ (args_list_sort _)))
  refine PySem.W.list_sort_vals (s := { s1 with heap := s1.heap.push (seqObj "list" vs.toArray 0) }) at_ (PySem.W.SortsAt.data (s := { s1 with heap := PySem.W.sortingHeap (s1.heap.push (seqObj "list" vs.toArray 0)) s1.heap.objs.size vs }) (PySem.W.each_map (R := fun v d => ∃ as, Reads (PySem.W.sortingHeap (s1.heap.push (seqObj "list" vs.toArray 0)) s1.heap.objs.size vs) v d as) PyData.str er') hal hk (PySem.W.bound_map (A := A.in1.in1) fun b _ => ?_)) hv ?_
  · have e : PyData.depth (.str b) = 0 := rfl
    rw [e]
    exact hu
  · refine ⟨_, rfl, wpAny_pure ⟨_, rfl, ?_⟩⟩
    obtain ⟨c, hc⟩ := sortedHeap_at (vs := vs) (out := (PySem.W.sortVals (PySem.W.dataKind (PySem.W.sortingHeap (s1.heap.push (seqObj "list" vs.toArray 0)) s1.heap.objs.size vs) ((vs.map txV).map PyData.str)) false vs vs).toArray) at_
    have eo := PySem.W.sortVals_data false ev er' hal
    rw [leT_data] at eo
    have es' : (vs.map txV).mergeSort leT = l.mergeSort leT := List.Perm.eq_of_pairwise (fun x y _ _ h1 h2 => leT_anti h1 h2) (List.pairwise_mergeSort leT_trans leT_total _) (List.pairwise_mergeSort leT_trans leT_total _) ((List.mergeSort_perm _ _).trans (pl.trans (List.mergeSort_perm _ _).symm))
    rw [es'] at eo
    refine hQ _ _ _ c (fun b o q => ?_) g1 o1 hs hc (vals_tx eo)
    have q1 := k1 b o q
    have lb := Heap.lt_size q1
    show (sortedHeap _ _ _ _).get? b = some o
    rw [sortedHeap_old (Nat.ne_of_lt lb) (by rw [size_push']; exact Nat.lt_succ_of_lt lb)]
    exact Heap.get?_push_of_some _ q1
end
section
variable {X : Cx}
theorem inv_moved {pins : List (Addr × Obj)} {σ : L2.St} {H : Hp} {s s' : Shared} {p : Addr} {out : List Value} {c : Nat} {l : List V} (I : Inv X pins σ H s) (hlen : l.length ≤ sizeLine) (k : ∀ b o, s.heap.get? b = some o → s'.heap.get? b = some o) (g : s'.gens = s.gens) (o : s'.os = s.os) (hp : s.heap.objs.size ≤ p) (hg : s'.heap.get? p = some (seqObj "list" (List.toArray out) c)) (hv : Vals l out) : Inv X pins σ (upd H p (.lst l)) s' := by
  have hn : H p = none := I.hok.fresh hp
  have J : Inv X pins σ (upd H p (.lst l)) { s with heap := s'.heap, gens := s'.gens, drawn := s'.drawn, toks := s'.toks } :=
    I.call (ch := []) (Un.laid k hp hn) (I.hok.laid k hp ⟨hlen, out, c, hv, hg⟩) (by rw [g]; exact I.bare) (fun _ z => nomatch z)
  have e : s' = { s with heap := s'.heap, gens := s'.gens, drawn := s'.drawn, toks := s'.toks } := by
    cases s'
    cases s
    cases o
    rfl
  rw [e]
  exact J
/-- sorted(o.values()), the values texts -/
def tSortV (td : TE) : TE := fun σ H Q => td σ H fun x H1 => ∃ (a : Addr) (kvs : List (Key × V)) (l : List Str), x = .ref a ∧ H1 a = some (.dK kvs) ∧ kvs.map (·.2) = l.map V.str ∧ ∀ p, H1 p = none → Q (.ref p) (upd H1 p (.lst ((l.mergeSort leT).map V.str)))
theorem items_txs {kvs : List (Key × V)} {vs : List (Key × Value)} {l : List Str} {acc : Array Value} (rel : KV kvs vs) (hv : kvs.map (·.2) = l.map V.str) (ha : ItemsOf (fun i v => ∃ k, vs[i]? = some (k, v)) acc vs.length) : (∀ v ∈ acc.toList, ∃ k, IsTx v k) ∧ acc.toList.map txV = l := by
  have at_ : ∀ (i : Nat) (v : Value), acc.toList[i]? = some v → ∃ y, l[i]? = some y ∧ IsTx v y := fun i v e => by
    have e' : acc[i]? = some v := by rw [← Array.getElem?_toList]; exact e
    obtain ⟨k, hk⟩ := ha.2 i v e'
    obtain ⟨x, h1, h2⟩ := KV.at' rel hk
    have e1 : (kvs.map (·.2))[i]? = some x := by rw [List.getElem?_map, h1]; rfl
    rw [hv, List.getElem?_map] at e1
    obtain ⟨y, hy, rfl⟩ := Option.map_eq_some_iff.mp e1
    exact ⟨y, hy, h2⟩
  constructor
  · intro v hv'
    obtain ⟨i, hi, rfl⟩ := List.getElem_of_mem hv'
    obtain ⟨y, _, q⟩ := at_ i _ (List.getElem?_eq_getElem hi)
    exact ⟨y, q⟩
  · apply List.ext_getElem?
    intro i
    rw [List.getElem?_map]
    have len : acc.toList.length = l.length := by
      have e1 := congrArg List.length hv
      rw [List.length_map, List.length_map] at e1
      rw [Array.length_toList, ha.1, ← e1]
      exact (KV.length rel).symm
    cases q : acc.toList[i]? with
    | none =>
      have := List.getElem?_eq_none_iff.mp q
      rw [List.getElem?_eq_none (by omega)]
      rfl
    | some v =>
      obtain ⟨y, hy, t, rfl⟩ := at_ i v q
      rw [hy]
      rfl
theorem pe_sortV {k : Nat} (hr : Room k X.A) (hc : X.calm = true) {o : Expr} {p pos apos mpos : Pos} {td : TE} (hg : Gl X "sorted") (hm : X.mg "sorted" = none) (hd : PE X o td) (hb : attributeBase o "values" X.env (eval o X.env) = eval o X.env := by rfl) (hl : (apos.endLine == mpos.line) = true := by rfl)
    (hs : starEach [Expr.Call (.Attribute o "values" apos) [] [] mpos] X.env = [(false, eval (Expr.Call (.Attribute o "values" apos) [] [] mpos) X.env)] := by rfl) : PE X (.Call (.Name "sorted" p) [.Call (.Attribute o "values" apos) [] [] mpos] [] pos) (tSortV td) := by
  constructor
  intro pins s σ H Q I h
  refine wpAny_Call_Name_kw (ld_blt I hg hm (u := .builtin "sorted") (by decide +kernel) ?_ (by decide) (by decide))
  rw [hs]
  apply PySem.callWith_builtin1
  apply wpAny_Call_method0_late hb hl
  refine thn (hd.run pins s σ H _ I h) fun v s1 ⟨x, H1, I1, r1, a, kvs, l, ex, ha, hv, q⟩ => ?_
  subst ex
  obtain rfl : v = Value.ref a := r1
  obtain ⟨hz, hsys, vs, rel, dof⟩ := dk_of I1.hok ha
  obtain ⟨ep, dat⟩ := dof.dictAt
  have ⟨ob, es, ho, exd, _⟩ := dat
  have hlen : kvs.length = l.length := by
    have e1 := congrArg List.length hv
    rwa [List.length_map, List.length_map] at e1
  have hlv : vs.length = l.length := (KV.length rel).symm.trans hlen
  refine ⟨"dict", "dict.values", F.plainAttrs_dict, F.slot_dict_values, F.type_dict_values, ⟨ob, ho, exd.1⟩, fun b e => by cases e; exact ⟨ob, ho, exd.2.1⟩, Calls.callWith_builtin rfl (PySem.evalArgs_none ?_)⟩
  refine call_meetsIn F.slot_dict_values ⟨ob, ho, exd.1⟩ F.entry_dict_values (F.args_dict_values_1 _) (meets_dict_values (mixKind X.prog X.w) a hsys) ⟨⟨vs, dof⟩, ?_⟩
  have k1 : ∀ b u, s1.heap.get? b = some u → (s1.heap.push { cls := .type "dict_values", data := .fields #[.ref a] }).get? b = some u := fun b u e => Heap.get?_push_of_some _ e
  have I2 : Inv X pins σ H1 { s1 with heap := s1.heap.push { cls := .type "dict_values", data := .fields #[.ref a] } } := I1.kept (t' := s1.toks) k1
  have vw : (s1.heap.push { cls := .type "dict_values", data := .fields #[.ref a] }).get? s1.heap.objs.size = some { cls := .type "dict_values", data := .fields #[.ref a] } := Heap.get?_push_size _ rfl
  refine sorted_from (s := { s1 with heap := s1.heap.push { cls := .type "dict_values", data := .fields #[.ref a] } }) (l := l) (by rw [← hlen]; exact hz) (by have := hr.un; omega) (fun Q' k => ?_) fun s' p' out c kp g o hp hg' hvs => ?_
  · refine PySem.W.kdu_collect (A := X.A.in1) (s := { s1 with heap := s1.heap.push { cls := .type "dict_values", data := .fields #[.ref a] } }) (PySem.W.kdl_values (knd := mixKind X.prog X.w) (r := s1.heap.objs.size) (d := a) (kvs := vs) (ep := ep)) (I.ok.hd hc) ⟨⟨_, vw, rfl, rfl⟩, dat.keep k1⟩ (by rw [hlv, ← hlen]; exact hz) fun h' tk acc kk ii => ?_
    obtain ⟨t1, t2⟩ := items_txs rel hv ii
    refine k _ _ kk ?_ rfl rfl t1 (by rw [t2])
    have := Heap.lt_size (kk _ _ vw)
    show (s1.heap.push _).objs.size ≤ _
    rw [Heap.size_push]
    exact this
  · refine ⟨.ref p', _, inv_moved I2 (by rw [List.length_map, List.length_mergeSort, ← hlen]; exact hz) kp g o hp hg' hvs, rfl, q _ (I2.hok.fresh hp)⟩
end
end DL

set_option maxRecDepth 100000
set_option maxHeartbeats 1000000
namespace DL
open PySem PySem.Spec PyProof.Rows L2
section
variable {X : Cx}
/-- the texts that are a dict's values -/
def valS : List (D × D) → Option (List Str)
  | [] => some []
  | (_, .str s) :: es => (valS es).map (s :: ·)
  | _ :: _ => none
theorem valS_ok {M : Mm} {H : Hp} : ∀ {kvs : List (Key × V)} {es : List (D × D)} {l : List Str}, RDk M H kvs es → valS es = some l → kvs.map (·.2) = l.map V.str
  | _, _, l, .nil, e => by cases e; rfl
  | _, _, l, .cons (v := v) (d := d) (es := es) r t, e => by
    cases d with
    | str s =>
      have e' : (valS es).map (s :: ·) = some l := e
      rw [Option.map_eq_some_iff] at e'
      obtain ⟨l', e1, rfl⟩ := e'
      cases r
      rw [List.map_cons, valS_ok t e1]; rfl
    | _ => cases e
noncomputable def sortVW (m : Bool) (w : W) (h : Hh) : Option (W × Hh) := match deref h w with
  | some (.dict es) => if isT es = true then none else match valS es with
    | some l => mkL m ((l.mergeSort leT).map .str) h
    | none => none
  | _ => none
noncomputable def fSortV (m : Bool) (f : EM) : EM := fun ρ h => obnd (f ρ h) fun w h1 => sortVW m w h1
theorem d_sortV {k : Nat} (hr : RG k X.A) (hc : X.calm = true) (m : Bool) {o : Expr} {p pos apos mpos : Pos} {f : EM} (hm : X.mg "sorted" = none) (hd : DE X o f) (hg : Gl X "sorted" := by rfl) (hb : attributeBase o "values" X.env (eval o X.env) = eval o X.env := by rfl) (hl : (apos.endLine == mpos.line) = true := by rfl)
    (hs : starEach [Expr.Call (.Attribute o "values" apos) [] [] mpos] X.env = [(false, eval (Expr.Call (.Attribute o "values" apos) [] [] mpos) X.env)] := by rfl) : DE X (.Call (.Name "sorted" p) [.Call (.Attribute o "values" apos) [] [] mpos] [] pos) (fSortV m f) :=
  (pe_sortV hr.room hc hg hm hd hb hl hs).weak fun σ H Q => by
    rintro ⟨M, h, ρ, r, rs, c⟩
    obtain ⟨w, h1, e1, c1⟩ := Cont.bind (δ := Unit) c
    refine ⟨M, h, ρ, r, rs, w, h1, e1, fun M1 H1 v x1 r1 v1 => ?_⟩
    have c2 := c1 M1 H1 x1
    unfold sortVW at c2
    split at c2
    · rename_i es e
      split at c2
      · exact c2.no.elim
      · rename_i ht
        split at c2
        · rename_i l el
          rcases deref_rr r1 v1 e with ⟨a, kvs, rfl, ha, q⟩ | ⟨a, kvs, es', rfl, rfl, ha, q⟩
          · exact ⟨a, kvs, l, rfl, ha, valS_ok q el, fun p np => mkL_fin r1 np (rds_ofS _) c2⟩
          · exact absurd rfl ht
        · exact c2.no.elim
    · exact c2.no.elim
/-! {x: y, ..}, variables alone -/
def dvW (ρ : Env) : List (Nat × Nat) → Option (List (Key × D))
  | [] => some []
  | (i, j) :: r => match ρ[i]?, ρ[j]?, dvW ρ r with
    | some (some (.dat kd)), some (some (.dat vd)), some q => (dKey kd).map fun k => (k, vd) :: q
    | _, _, _ => none
def fDv (m : Bool) (ps : List (Nat × Nat)) : EM := fun ρ h => match dvW ρ ps with
  | some q => if q.length ≤ 15 then mkK m (mergeD [] q) h else none
  | none => none
def trV (ps : List (Nat × Nat)) : List (TE × TE) := ps.map fun p => (tVar p.1, tVar p.2)
theorem dv_pairs {M : Mm} {H : Hp} {σ : L2.St} {ρ : Env} (rs : RS M H ρ σ) : ∀ {ps : List (Nat × Nat)} {q : List (Key × D)} {G : Hp} {R : List (V × V) → Hp → Prop}, dvW ρ ps = some q → (∀ kvs : List (Key × V), Paired (fun (a : Key × V) (b : Key × D) => a.1 = b.1 ∧ RD M H a.2 b.2) kvs q → R (kvs.map fun kv => (kV kv.1, kv.2)) G) → tPairs (trV ps) σ G R
  | [], q, G, R, e, hR => by
    cases e
    exact hR [] .nil
  | (i, j) :: ps, q, G, R, e, hR => by
    unfold dvW at e
    split at e
    · rename_i kd vd q' ei ej eq
      rw [Option.map_eq_some_iff] at e
      obtain ⟨k, ek, rfl⟩ := e
      obtain ⟨v1, s1, r1⟩ := rs.2 i _ ei
      obtain ⟨v2, s2, r2⟩ := rs.2 j _ ej
      have := kP_dKey ek
      subst this
      obtain rfl := rd_kP (show RD M H v1 (kP k) from r1)
      refine ⟨_, s1, _, s2, dv_pairs rs eq fun kvs pk => ?_⟩
      exact hR ((k, v2) :: kvs) (.cons ⟨rfl, r2⟩ pk)
    · cases e
theorem paired_len {α β : Type} {R : α → β → Prop} : ∀ {xs : List α} {ys : List β}, Paired R xs ys → xs.length = ys.length
  | _, _, .nil => rfl
  | _, _, .cons _ t => congrArg (· + 1) (paired_len t)
theorem d_dv (m : Bool) {ps : List (Nat × Nat)} {keys : List (Option Expr)} {values : List Expr} {pos : Pos} (h : PPs X pos keys values (trV ps)) (hall : keys.all (·.isSome) = true) (hl : keys.length = values.length) (h0 : keys ≠ []) (h15 : keys.length ≤ 15) : DE X (.Dict keys values pos) (fDv m ps) :=
  (pe_disp h hall hl h0 h15).weak fun σ H Q => by
    rintro ⟨M, h, ρ, r, rs, c⟩ p np
    unfold fDv at c
    split at c
    · rename_i q eq
      split at c
      · rename_i hz
        refine dv_pairs rs eq fun kvs pk => ⟨upd_same, kvs, rfl, by rw [paired_len pk]; exact hz, ?_⟩
        rw [upd_upd]
        exact mkK_fin r np (RDk.merge pk .nil) c
      · exact c.no.elim
    · exact c.no.elim
/-! xs.index(x) -/
def indexL (w : W) (ws : List W) (h : Hh) : Option (W × Hh) := match deref h w, ws with
  | some (.list ds), [.dat (.str z)] => match rowS ds with
    | some l => if z ∈ l then ok (.int (l.idxOf z)) h else none
    | none => none
  | _, _ => none
theorem s_indexL : SemM (rIndex X.K) indexL := by
  intro M H h x w vs ws Q rep rx rv c
  unfold indexL at c
  split at c
  · rename_i ds wz z e
    obtain ⟨a, xs, rfl, ha, q⟩ := deref_rr rep rx e
    obtain ⟨y, rfl, ry⟩ := rvs1 rv
    cases (show RD M H y (.str z) from ry)
    split at c
    · rename_i l el
      split at c
      · rename_i hm
        have := rowS_map el
        subst this
        have := rds_strs q
        subst this
        obtain ⟨f1, f2⟩ := first_at hm
        refine ⟨a, _, _, l.idxOf z, .str z, rfl, rfl, .of ha, rfl, flat_strs l, by rw [List.getElem?_map, f1]; rfl, by simp [eqV], fun m z' hm' ez => ?_, c.here rep (.int _)⟩
        rw [List.getElem?_map] at ez
        obtain ⟨s, es, rfl⟩ := Option.map_eq_some_iff.mp ez
        have ne : s ≠ z := fun q => f2 m hm' (by rw [es, q])
        simp [eqV, ne]
      · exact c.no.elim
    · exact c.no.elim
  · exact c.no.elim
end
end DL

set_option maxRecDepth 100000
set_option maxHeartbeats 4000000
namespace DL
open PySem PySem.Spec PyProof.Rows L2
/-! ### set(xs), xs a list of texts -/
def insT (acc : List Str) (y : Str) : List Str := if y ∈ acc then acc else y :: acc
/-- the texts of a list, each once -/
def uq (l : List Str) : List Str := l.foldl insT []
theorem uq_snoc (l : List Str) (y : Str) : uq (l ++ [y]) = insT (uq l) y := by
  unfold uq
  rw [List.foldl_append]
  rfl
theorem ins_nodup {acc : List Str} (y : Str) (h : acc.Nodup) : (insT acc y).Nodup := by
  unfold insT
  split
  · exact h
  · rename_i c; exact List.nodup_cons.mpr ⟨c, h⟩
theorem ins_mem {acc : List Str} {x y : Str} : x ∈ insT acc y ↔ x = y ∨ x ∈ acc := by
  unfold insT
  split
  · rename_i c
    exact ⟨.inr, fun z => z.elim (fun e => e ▸ c) id⟩
  · exact List.mem_cons
theorem ins_len (acc : List Str) (y : Str) : (insT acc y).length ≤ acc.length + 1 := by
  unfold insT
  split
  · omega
  · exact Nat.le_refl _
theorem fold_nodup : ∀ (l : List Str) {acc : List Str}, acc.Nodup → (l.foldl insT acc).Nodup
  | [], _, h => h
  | y :: l, _, h => fold_nodup l (ins_nodup y h)
theorem fold_mem : ∀ (l : List Str) {acc : List Str} {x : Str}, x ∈ l.foldl insT acc ↔ x ∈ l ∨ x ∈ acc
  | [], _, _ => by simp
  | y :: l, acc, x => by
    rw [List.foldl_cons, fold_mem l, ins_mem, List.mem_cons]
    constructor
    · rintro (h | h | h)
      · exact .inl (.inr h)
      · exact .inl (.inl h)
      · exact .inr h
    · rintro ((h | h) | h)
      · exact .inr (.inl h)
      · exact .inl h
      · exact .inr (.inr h)
theorem fold_len : ∀ (l : List Str) {acc : List Str}, (l.foldl insT acc).length ≤ acc.length + l.length
  | [], _ => Nat.le_refl _
  | y :: l, acc => by
    have h1 := fold_len l (acc := insT acc y)
    have h2 := ins_len acc y
    rw [List.foldl_cons, List.length_cons]
    omega
theorem uq_nodup (l : List Str) : (uq l).Nodup := fold_nodup l List.nodup_nil
theorem uq_mem {l : List Str} {x : Str} : x ∈ uq l ↔ x ∈ l := by
  unfold uq
  rw [fold_mem]
  simp
theorem uq_len (l : List Str) : (uq l).length ≤ l.length := by
  have := fold_len l (acc := [])
  rw [List.length_nil, Nat.zero_add] at this
  exact this
section
variable {P : Program} {w : World} {A : Around} {E : Value → Shared → Prop} {s : Shared}
/-- a text that is there already -/
theorem old_x {a : Addr} {T : String} {D : Froz.SD} {l : List Str} {k : Str} {u : Tok} {Q : Bool → Shared → Prop} (ho : s.heap.get? a = some (Froz.sObj T D)) (F : Froz.TxOk P w D l) (hk : k ∈ l) (hb : l.length < scanBound)
    (h : Q false s) : wpAny (model P w) A (setAddHashed a (.str k u) (hashStr w k)) Q E s := by
  obtain ⟨es, ep, t⟩ := D
  have hd : (Froz.sObj T (es, ep, t)).data = .set es ep t := rfl
  have hf : t.fits es.size = true := F.fit
  have hel : ElemsOf (strKind P w) es.toList := F.el
  have hsz : es.size = l.length := F.sz
  have hb0 : es.size < scanBound := by omega
  have hkey : (strKind P w).is k (.str k u) = true := Froz.is_str k u
  unfold setAddHashed setAddHashedIn
  refine wpAny_holding (wpAny_bind (wpAny_setState_of ho hd hf ?_))
  dsimp only
  rw [byScan_of rfl hb0 hel]
  simp only [↓reduceIte]
  unfold setAddByScan
  refine wpAny_bind ?_
  refine wpAny_bind (wpAny_rule ?_)
  refine wpAny_bind (wpAny_setScan_of (knd := strKind P w) (k := k) hkey ho hd hf hel ?_)
  cases hfi : List.findIdx? (fun e => (strKind P w).is k e.2) es.toList with
  | some j => exact wpAny_pure (wpAny_pure h)
  | none =>
    obtain ⟨e, he, q⟩ := (F.mem k).mp hk
    have c := List.findIdx?_eq_none_iff.mp hfi e he
    rw [q] at c
    cases c
end
section
variable {P : Program} {w : World} {A : Around} {R : Result → Shared → Prop} {I : Addr} {fp wr : List Addr} {G : Array GenState → Array GenState → Prop} {n : Nat} {Pv : Nat → Value → Prop} {St : Nat → Shared → Prop}
theorem txs_loopU (W : WalksS P w A.in1 I fp wr G n Pv St) (a : Addr) (hf : a ∉ fp) (xs : List Str) (hn : xs.length = n) (hb : n + 1 < scanBound) (hv : ∀ i v, Pv i v → ∃ (y : Str) (t : Tok), xs[i]? = some y ∧ v = .str y t) :
    ∀ (k i : Nat) (s : Shared), i + k = n → St i s → TxAt P w s.heap a (uq (xs.take i)) → (∀ s', Moved (a :: wr) G s s' → TxAt P w s'.heap a (uq xs) → R (.ok (.ret .none)) s') → codeAny (model P w) A (.builtin "set.update.loop" ⟨[.ref a, .ref I], []⟩) R s
  | 0, i, s, e, st, x, hR => by
    have hi : i = n := by omega
    subst hi
    apply codeAny_builtin PyProof.Rows.F.entry_set_update_loop
    rw [Around.under_plainId PyProof.Rows.F.plain_set_update_loop _]
    show wpAny _ A.in1 (pyNext (.ref I) >>= _) _ _ s
    apply wpAny_bind
    refine W.done s _ _ st fun s1 m => ?_
    show wpAny _ A.in1 (ret Value.none) _ _ s1
    refine wpAny_pure (hR s1 (m.mono fun b hb => List.mem_cons_of_mem _ hb) ?_)
    have x' := x.at fun o q => m.heap a o (fun z => hf (W.sub _ z)) q
    rwa [← hn, List.take_length] at x'
  | k + 1, i, s, e, st, x, hR => by
    apply codeAny_builtin PyProof.Rows.F.entry_set_update_loop
    rw [Around.under_plainId PyProof.Rows.F.plain_set_update_loop _]
    show wpAny _ A.in1 (pyNext (.ref I) >>= _) _ _ s
    apply wpAny_bind
    refine W.item i s _ _ (by omega) st fun v s1 pv st1 m => ?_
    obtain ⟨y, t, ey, rfl⟩ := hv i v pv
    obtain ⟨B, eB, rB⟩ := x.at fun o q => m.heap a o (fun z => hf (W.sub _ z)) q
    show wpAny _ A.in1 (holding [Value.str y t] (setAdd a (.str y t)) >>= _) _ _ s1
    apply wpAny_bind
    apply wpAny_holding
    unfold setAdd
    apply wpAny_holding
    apply wpAny_bind
    refine (PySem.strKind P w).pyHash (k := y) (strKind_is _ _ _ _) ?_
    have hlen : (uq (xs.take i)).length + 1 < scanBound := by
      have := uq_len (xs.take i)
      rw [List.length_take] at this
      omega
    have ht : xs.take (i + 1) = xs.take i ++ [y] := by rw [List.take_add_one, ey]; rfl
    by_cases hy : y ∈ uq (xs.take i)
    · refine old_x (s := { s1 with toks := s1.toks + 1 }) eB rB.ok hy (by omega) ?_
      refine wpAny_pure ⟨plainId_quiet PyProof.Rows.F.plain_set_update_loop _, txs_loopU W a hf xs hn hb hv k (i + 1) _ (by omega) (W.frame _ s1 _ _ st1 (Nat.le_succ _) fun b hb o q => q) ⟨_, eB, ?_⟩ fun s2 m2 x2 => ?_⟩
      · rw [ht, uq_snoc, insT, if_pos hy]
        exact rB
      · exact hR s2 (Moved.trans W.gtrans ((m.mono fun b hb => List.mem_cons_of_mem _ hb).then_heap (Nat.le_succ _) fun b o nb q => q) m2) x2
    refine Froz.add_x (s := { s1 with toks := s1.toks + 1 }) eB rB.ok hy hlen ?_
    have e2 := Froz.get_upd (h := s1.heap) (Froz.sObj "set" (Froz.addTx (hashStr w y) (.str y t) B)) eB rfl
    have oth : ∀ b o, b ≠ a → s1.heap.get? b = some o → (s1.heap.update a (fun _ => Froz.sObj "set" (Froz.addTx (hashStr w y) (.str y t) B))).get? b = some o := fun b o nb q => (Heap.get?_update_other _ _ (Ne.symm nb)).trans q
    refine wpAny_pure ⟨plainId_quiet PyProof.Rows.F.plain_set_update_loop _, txs_loopU W a hf xs hn hb hv k (i + 1) _ (by omega) (W.frame _ s1 _ _ st1 (Nat.le_succ _) fun b hb o q => oth b o (fun z => hf (z ▸ hb)) q) ⟨_, e2, ?_⟩ fun s2 m2 x2 => ?_⟩
    · rw [ht, uq_snoc, insT, if_neg hy]
      exact rB.add t
    · exact hR s2 (Moved.trans W.gtrans ((m.mono fun b hb => List.mem_cons_of_mem _ hb).then_heap (Nat.le_succ _) fun b o nb q => oth b o (fun z => nb (by rw [z]; exact List.mem_cons_self)) q) m2) x2
end
section
variable {P : Program} {w : World} {A : Around} {E : Value → Shared → Prop} {s : Shared}
set_option maxHeartbeats 3200000 in
theorem call_set_txsU {l : Addr} {its : Array Value} {xs : List Str} {Q : Value → Shared → Prop} (hh : A.handled = none) (hl : s.heap.IsList l its) (hi : StrsAre its.toList xs) (hb : xs.length + 1 < scanBound)
    (h : ∀ h' tk, TxAt P w h' s.heap.objs.size (uq xs) → (∀ b o, s.heap.get? b = some o → h'.get? b = some o) → Q (.ref s.heap.objs.size) { s with heap := h', toks := tk }) : wpAny (model P w) A (call (.type "set") [.ref l]) Q E s := by
  obtain ⟨c0, c1, k1⟩ := F.called_set.mro
  have k2 := F.called_set.made
  have k3 := F.called_set.sub
  apply wpAny_call
  apply codeAny_of_tree
  show wpAny _ _ (callAny (.type "set") _) _ _ _
  refine wpAny_pure ⟨Code.quiet_builtin _ (by decide +kernel), ?_⟩
  apply codeAny_builtin F.entry_type_call
  rw [Around.under_plain (weight_type_call_type "set" [.ref l] []) rfl]
  have k4 := F.called_set.notType
  have k5 := F.called_set.canCreate
  have k6 := F.typeCall_set_1 (.ref l)
  repeat (any_goals (first | assumption | wp_step))
  refine codeAny_mono (code_set_led1 (.ref l) (E := E) (Q₁ := fun o s1 => o = .ref s.heap.objs.size ∧ s1 = { s with heap := s.heap.push (nSet w) }) ⟨rfl, rfl⟩) fun q s1 hq => ?_
  cases q with
  | error _ => exact hq
  | ok f =>
    cases f with
    | ret o =>
      obtain ⟨rfl, rfl⟩ := hq
      have at1 : (s.heap.push (nSet w)).get? s.heap.objs.size = some (nSet w) := Heap.get?_push_size _ rfl
      have ty1 : Shared.TypeIs { s with heap := s.heap.push (nSet w) } (.ref s.heap.objs.size) "set" := ⟨_, at1, rfl⟩
      have k7 := F.called_set.init.lookup
      have k8 := F.called_set.init.bind (.ref s.heap.objs.size)
      repeat (any_goals (first | assumption | wp_step))
      refine codeAny_mono (codeAny_call_builtin (R := wants (fun z s2 => z = .none ∧ ∃ h' tk, s2 = { s with heap := h', toks := tk } ∧ TxAt P w h' s.heap.objs.size (uq xs) ∧ ∀ b o, s.heap.get? b = some o → h'.get? b = some o) E) F.called_set.init.plain F.entry_set_init (check_set_init_1 ty1 ?_)) fun q2 s2 hq2 => ?_
      · obtain ⟨⟨oc, od, odt, os⟩, ho, hoc, m, hod⟩ := hl
        simp only at hoc hod
        subst hoc
        subst hod
        have ho' : (s.heap.push (nSet w)).get? l = some { cls := .type "list", dict := od, data := .seq its m, slots := os } := Heap.get?_push_of_some _ ho
        have f1 := F.sub_list_set
        have f2 := F.sub_list_frozenset
        have f3 : (Value.type "list" == Value.type "dict") = false := by decide
        have hl' : (s.heap.push (nSet w)).IsList l its := ⟨_, ho', rfl, m, rfl⟩
        unfold Builtin.«set.__init__» noKeywords Builtin.Frozenset.updateFrom
        generalize eI : pyIter = pI
        wp_walk
        subst eI
        apply wpAny_pyIter_list hl'
        apply wpAny_bind
        apply wpAny_runValue
        have lt : l < s.heap.objs.size := Heap.lt_size ho
        have zs : (s.heap.push (nSet w)).objs.size = s.heap.objs.size + 1 := Heap.size_push ..
        have n1 : l ≠ (s.heap.push (nSet w)).objs.size := by rw [zs]; exact Nat.ne_of_lt (Nat.lt_succ_of_lt lt)
        have n2 : s.heap.objs.size ∉ [(s.heap.push (nSet w)).objs.size, l] := by
          rw [zs]
          simp only [List.mem_cons, List.not_mem_nil, or_false, not_or]
          exact ⟨Nat.ne_of_lt (Nat.lt_succ_self _), Nat.ne_of_gt lt⟩
        have len : xs.length = its.size := by rw [← StrsAre.len_eq hi, Array.length_toList]
        have val : ∀ (i : Nat) (v : Value), its[i]? = some v → ∃ (y : Str) (t : Tok), xs[i]? = some y ∧ v = .str y t := fun i v hv => by
          have hv' : its.toList[i]? = some v := by rw [Array.getElem?_toList]; exact hv
          obtain ⟨t, e⟩ := SS.strs_at hi i v hv'
          have hlt : i < xs.length := by have := (List.getElem?_eq_some_iff.mp hv').1; rw [Array.length_toList] at this; omega
          exact ⟨xs[i], t, List.getElem?_eq_getElem hlt, by rw [e, List.getD_eq_getElem?_getD, List.getElem?_eq_getElem hlt]; rfl⟩
        refine txs_loopU ((Walks.list (by simp [hh]) _ l n1 its).toS) s.heap.objs.size n2 xs len (by rw [← len]; exact hb) val its.size 0 _ (by omega) ⟨⟨_, Heap.get?_push_size _ rfl, rfl, rfl⟩, hl'.push _⟩ ?_ ?_
        · rw [List.take_zero]
          exact nSet_txs (Heap.get?_push_of_some _ at1)
        · intro s3 mv x3
          obtain ⟨h3, g3, d3, t3, o3⟩ := s3
          have q1 : g3 = s.gens := mv.gens
          have q2 : d3 = s.drawn := mv.drawn
          have q3 : o3 = s.os := mv.os
          subst q1
          subst q2
          subst q3
          show wpAny _ _ _ _ _ _
          apply wpAny_pure
          show wpAny _ _ (ret Value.none) _ _ _
          refine wpAny_pure ⟨rfl, h3, t3, rfl, x3, fun b o e => mv.heap b o (fun z => ?_) (Heap.get?_push_of_some _ (Heap.get?_push_of_some _ e))⟩
          have lb := Heap.lt_size e
          simp only [List.mem_cons, List.not_mem_nil, or_false, zs] at z
          rcases z with z | z
          · exact absurd lb (by rw [z]; exact Nat.lt_irrefl _)
          · exact absurd lb (by rw [z]; exact Nat.not_lt_of_le (Nat.le_succ _))
      · cases q2 with
        | error _ => exact hq2
        | ok f2 =>
          cases f2 with
          | ret z =>
            obtain ⟨rfl, h', tk, rfl, x', k'⟩ := hq2
            repeat (any_goals (first | assumption | wp_step))
            exact h _ _ x' k'
          | _ => exact hq2.elim
    | _ => exact hq.elim
end
section
variable {X : Cx}
def rSetU (K : PySem.W.Frag) (P : Program) (w : World) : List V → Hp → VK → Prop := fun xs H Q => ∃ (a : Addr) (l : List Str), xs = [.ref a] ∧ SqL K H a (l.map V.str) ∧ l.length + 1 < scanBound ∧ ∀ p, H p = none → Q (.ref p) (upd H p (SetX P w p (uq l)))
theorem cr_setU (hc : X.calm = true) : CallR X (.type "set") (rSetU X.K X.prog X.w) := by
  rintro pins s σ H xs us Q I r ⟨a, l, rfl, hl, hb, q⟩
  rw [Vals.ref1 r]
  obtain ⟨its, rv, pl, hz⟩ := I.list hl
  refine call_set_txsU (P := X.prog) (w := X.w) (its := its.toArray) (xs := l) (I.ok.hd hc) pl.isList rv.strs hb fun h' tk x k => ?_
  exact ⟨.ref s.heap.objs.size, _, I.laid (t' := tk) (o := SetX X.prog X.w s.heap.objs.size (uq l)) k (Nat.le_refl _) (setX_new x), rfl, q _ (I.hok.fresh (Nat.le_refl _))⟩
/-- len of a set of texts -/
def rLenX (P : Program) (w : World) : List V → Hp → VK → Prop := fun xs H Q => ∃ (a : Addr) (l : List Str), xs = [.ref a] ∧ H a = some (SetX P w a l) ∧ l.length < scanBound ∧ Q (.int l.length) H
theorem cr_lenX : CallR X (.builtin "len") (rLenX X.prog X.w) := by
  rintro pins s σ H xs us Q I r ⟨a, l, rfl, ha, hb, q⟩
  rw [Vals.ref1 r]
  obtain ⟨⟨es, ep, t⟩, ho, F, ris, led⟩ : TxAt X.prog X.w s.heap a l := (I.hok a _ ha).1
  have fz : es.size = l.length := F.sz
  have sb : scanBound = 4096 := rfl
  refine call_len_set ho ⟨rfl, rfl, rfl⟩ rfl F.fit (by rw [fz]; omega) ⟨.int l.length, H, I.tok _, ⟨_, by rw [fz]⟩, q⟩
/-- len(set(xs)) -/
def lenSW (ws : List W) (h : Hh) : Option (W × Hh) := match ws with
  | [w] => match deref h w with
    | some (.list ds) => match rowS ds with
      | some l => if l.length < 1000 then ok (.int ((uq l).length : Nat)) h else none
      | none => none
    | _ => none
  | _ => none
theorem d_lenS (hc : X.calm = true) (hm : X.mg "len" = none) (hm2 : X.mg "set" = none) {e : Expr} {p p2 q pos : Pos} {g : AM} (ha : DA X [e] g) (hg : Gl X "len" := by rfl) (hg2 : Gl X "set" := by rfl)
    (he : starEach [.Call (.Name "set" p2) [e] [] q] X.env = (false, eval (.Call (.Name "set" p2) [e] [] q) X.env) :: starEach [] X.env := by rfl) (hpl : (backTo pos (starEach [] X.env)).any (·.1) = false := by rfl) (he2 : starEach [e] X.env = (false, eval e X.env) :: starEach [] X.env := by rfl) (hpl2 : (backTo q (starEach [] X.env)).any (·.1) = false := by rfl) :
    DE X (.Call (.Name "len" p) [.Call (.Name "set" p2) [e] [] q] [] pos) (fA lenSW g) :=
  (pe_callB cr_lenX hg hm (by decide +kernel) (pa_cons (pe_callTy (cr_setU hc) hg2 hm2 (by decide +kernel) ha (by decide) (by decide) he2 hpl2) pa_nil) (by decide) (by decide) he hpl).weak fun σ H Q => by
    rintro ⟨M, h, ρ, r, rs, c⟩
    obtain ⟨w, h1, e1, c1⟩ := Cont.bind (δ := Unit) c
    refine ⟨M, h, ρ, r, rs, w, h1, e1, fun M1 H1 v x1 r1 v1 => ?_⟩
    have c2 := c1 M1 H1 x1
    unfold lenSW at c2
    split at c2
    · obtain ⟨v, rfl, rv⟩ := rvs1 v1
      split at c2
      · rename_i ds ed
        obtain ⟨a, xs, rfl, ha, qa⟩ := deref_rr r1 rv ed
        split at c2
        · rename_i l el
          split at c2
          · rename_i hz
            have := rowS_map el
            subst this
            have := rds_strs qa
            subst this
            have sb : l.length + 1 < scanBound := by have : scanBound = 4096 := rfl; omega
            have ul := uq_len l
            refine ⟨a, l, rfl, .of ha, sb, fun p np => ?_⟩
            refine ⟨p, uq l, rfl, upd_same, by omega, ?_⟩
            have x2 := ext_new (M := M1) (o := SetX X.prog X.w p (uq l)) np
            have c3 : Cont RV (ok (.int ((uq l).length : Nat)) h1) M1 (upd H1 p (SetX X.prog X.w p (uq l))) Q := by
              obtain ⟨w', h', ee, kk⟩ := c2
              exact ⟨w', h', ee, fun M' H' v' xx => kk M' H' v' (x2.trans xx)⟩
            exact c3.here (r1.upd_new np) (.int _)
          · exact c2.no.elim
        · exact c2.no.elim
      · exact c2.no.elim
    · exact c2.no.elim
/-- sorted(set(xs)), texts that may be alike -/
noncomputable def sortUW (m : Bool) (ws : List W) (h : Hh) : Option (W × Hh) := match ws with
  | [w] => match deref h w with
    | some (.list ds) => match rowS ds with
      | some l => if l.length < 1000 then mkL m (((uq l).mergeSort leT).map .str) h else none
      | none => none
    | _ => none
  | _ => none
theorem d_sortU {k : Nat} (hr : RG k X.A) (hc : X.calm = true) (m : Bool) (hm : X.mg "sorted" = none) (hm2 : X.mg "set" = none) {e : Expr} {p p2 q pos : Pos} {g : AM} (ha : DA X [e] g) (hg : Gl X "sorted" := by rfl) (hg2 : Gl X "set" := by rfl)
    (he : starEach [.Call (.Name "set" p2) [e] [] q] X.env = (false, eval (.Call (.Name "set" p2) [e] [] q) X.env) :: starEach [] X.env := by rfl) (hpl : (backTo pos (starEach [] X.env)).any (·.1) = false := by rfl) (he2 : starEach [e] X.env = (false, eval e X.env) :: starEach [] X.env := by rfl) (hpl2 : (backTo q (starEach [] X.env)).any (·.1) = false := by rfl) :
    DE X (.Call (.Name "sorted" p) [.Call (.Name "set" p2) [e] [] q] [] pos) (fA (sortUW m) g) :=
  (pe_callB (cr_sortX hr.room hc) hg hm (by decide +kernel) (pa_cons (pe_callTy (cr_setU hc) hg2 hm2 (by decide +kernel) ha (by decide) (by decide) he2 hpl2) pa_nil) (by decide) (by decide) he hpl).weak fun σ H Q => by
    rintro ⟨M, h, ρ, r, rs, c⟩
    obtain ⟨w, h1, e1, c1⟩ := Cont.bind (δ := Unit) c
    refine ⟨M, h, ρ, r, rs, w, h1, e1, fun M1 H1 v x1 r1 v1 => ?_⟩
    have c2 := c1 M1 H1 x1
    unfold sortUW at c2
    split at c2
    · obtain ⟨v, rfl, rv⟩ := rvs1 v1
      split at c2
      · rename_i ds ed
        obtain ⟨a, xs, rfl, ha, qa⟩ := deref_rr r1 rv ed
        split at c2
        · rename_i l el
          split at c2
          · rename_i hz
            have := rowS_map el
            subst this
            have := rds_strs qa
            subst this
            have sb : l.length + 1 < scanBound := by have : scanBound = 4096 := rfl; omega
            have ul := uq_len l
            refine ⟨a, l, rfl, .of ha, sb, fun p np => ?_⟩
            refine ⟨p, uq l, rfl, upd_same, uq_nodup l, by omega, by rw [sizeLine_eq]; omega, fun p' np' => ?_⟩
            have x2 := ext_new (M := M1) (o := SetX X.prog X.w p (uq l)) np
            have c3 : Cont RV (mkL m (((uq l).mergeSort leT).map .str) h1) M1 (upd H1 p (SetX X.prog X.w p (uq l))) Q := by
              obtain ⟨w', h', ee, kk⟩ := c2
              exact ⟨w', h', ee, fun M' H' v' xx => kk M' H' v' (x2.trans xx)⟩
            exact mkL_fin (r1.upd_new np) np' (rds_ofS _) c3
          · exact c2.no.elim
        · exact c2.no.elim
      · exact c2.no.elim
    · exact c2.no.elim
/-! ### x += y, x *= y: ints -/
def gAdd (i j : Int) : Option Int := some (i + j)
def gSub (i j : Int) : Option Int := some (i - j)
def gMul (i j : Int) : Option Int := if ((-18446744073709551616 < i && i < 18446744073709551616) || (-18446744073709551616 < j && j < 18446744073709551616)) = true then some (i * j) else none
def ipG (g : Int → Int → Option Int) : TIp := fun x y H Q => ∃ i j k, x = .int i ∧ y = .int j ∧ g i j = some k ∧ Q (.int k) H
theorem ip_gAdd : PIp X .Add (ipG gAdd) := by
  rintro pins s σ H x y v u Q I r1 r2 ⟨i, j, k, rfl, rfl, e, q⟩
  cases e
  exact ip_add pins s σ H _ _ v u Q I r1 r2 ⟨i, j, rfl, rfl, q⟩
theorem ip_gSub : PIp X .Sub (ipG gSub) := by
  rintro pins s σ H x y v u Q I r1 r2 ⟨i, j, k, rfl, rfl, e, q⟩
  cases e
  exact ip_sub pins s σ H _ _ v u Q I r1 r2 ⟨i, j, rfl, rfl, q⟩
theorem ip_gMul : PIp X .Mult (ipG gMul) := by
  rintro pins s σ H x y v u Q I r1 r2 ⟨i, j, k, rfl, rfl, e, q⟩
  obtain ⟨t, rfl⟩ := r1
  obtain ⟨t', rfl⟩ := r2
  unfold gMul at e
  split at e
  · rename_i hc
    cases e
    refine PySem.AutoIntOps.imul_0 ⟨.int _, H, I.tok _, ⟨_, rfl⟩, q⟩ (CMul.ok ?_)
    simp only [Bool.or_eq_true, Bool.and_eq_true, decide_eq_true_eq] at hc
    exact hc
  · cases e
def sAug (g : Int → Int → Option Int) (i : Nat) (f : EM) : SM := fun ρ h => match ρ[i]? with
  | some (some (.dat (.int a))) => sbnd (f ρ h) fun w h1 => match w with
    | .dat (.int b) => match g a b with
      | some c => some (.nx (ρ.set i (some (.dat (.int c)))), h1)
      | none => none
    | _ => none
  | _ => none
theorem ds_aug {g : Int → Int → Option Int} {i : Nat} {x : Str} {e : Expr} {op : Operator} {pos pos' : Pos} {f : EM} (h : PS X (.AugAssign (.Name x pos') op e pos) (tAug i (tE f) (ipG g))) : DS X (.AugAssign (.Name x pos') op e pos) (sAug g i f) := h.weak fun D σ H => by
  rintro ⟨M, h, ρ, r, rs, p⟩
  unfold sAug at p
  split at p
  · rename_i a ea
    obtain ⟨v, ev, rv⟩ := rs.2 i _ ea
    cases (show RD M H v (.int a) from rv)
    refine ⟨_, ev, ?_⟩
    obtain ⟨w, h1, e1, p1⟩ := p.bind
    refine ⟨M, h, ρ, r, rs, w, h1, e1, fun M1 H1 v x1 r1 v1 => ?_⟩
    split at p1
    · rename_i b
      split at p1
      · rename_i c ec
        cases (show RD M1 H1 v (.int b) from v1)
        exact ⟨a, b, c, rfl, rfl, ec, p1 M1 H1 _ x1.same x1.ext r1 ((rs.mono x1).set (.int c))⟩
      · exact p1.elim
    · exact p1.elim
  · exact p.elim
end
end DL

set_option maxRecDepth 100000
set_option maxHeartbeats 1000000
namespace DL
open PySem PySem.Spec PyProof.Rows L2
section
variable {X : Cx}
/-! ### max(xs), min(xs): ints -/
def mxI (ns : List Int) : Int := match ns with
  | [] => 0
  | n :: ns => ns.foldl max n
def mnI (ns : List Int) : Int := match ns with
  | [] => 0
  | n :: ns => ns.foldl min n
theorem fold_max : ∀ (ns : List Int) (n : Int), (ns.foldl max n = n ∨ ns.foldl max n ∈ ns) ∧ n ≤ ns.foldl max n ∧ ∀ y ∈ ns, y ≤ ns.foldl max n
  | [], n => ⟨.inl rfl, Int.le_refl _, fun y h => by cases h⟩
  | a :: ns, n => by
    obtain ⟨h1, h2, h3⟩ := fold_max ns (max n a)
    rw [List.foldl_cons]
    refine ⟨?_, by omega, fun y hy => ?_⟩
    · rcases h1 with h1 | h1
      · rw [h1]
        rcases Int.le_total n a with c | c
        · right; rw [Int.max_eq_right c]; exact List.mem_cons_self
        · left; exact Int.max_eq_left c
      · exact .inr (List.mem_cons_of_mem _ h1)
    · rcases List.mem_cons.mp hy with rfl | hy
      · omega
      · exact h3 y hy
theorem fold_min : ∀ (ns : List Int) (n : Int), (ns.foldl min n = n ∨ ns.foldl min n ∈ ns) ∧ ns.foldl min n ≤ n ∧ ∀ y ∈ ns, ns.foldl min n ≤ y
  | [], n => ⟨.inl rfl, Int.le_refl _, fun y h => by cases h⟩
  | a :: ns, n => by
    obtain ⟨h1, h2, h3⟩ := fold_min ns (min n a)
    rw [List.foldl_cons]
    refine ⟨?_, by omega, fun y hy => ?_⟩
    · rcases h1 with h1 | h1
      · rw [h1]
        rcases Int.le_total n a with c | c
        · left; exact Int.min_eq_left c
        · right; rw [Int.min_eq_right c]; exact List.mem_cons_self
      · exact .inr (List.mem_cons_of_mem _ h1)
    · rcases List.mem_cons.mp hy with rfl | hy
      · omega
      · exact h3 y hy
theorem mx_spec {ns : List Int} (h : 0 < ns.length) {m : Int} (hm : m ∈ ns) (hl : ∀ y ∈ ns, y ≤ m) : m = mxI ns := by
  cases ns with
  | nil => cases hm
  | cons n ns =>
    obtain ⟨h1, h2, h3⟩ := fold_max ns n
    have hmem : ns.foldl max n ∈ n :: ns := h1.elim (fun e => by rw [e]; exact List.mem_cons_self) fun e => List.mem_cons_of_mem _ e
    have a1 := hl _ hmem
    have a2 : m ≤ ns.foldl max n := (List.mem_cons.mp hm).elim (fun e => e ▸ h2) fun e => h3 m e
    show m = ns.foldl max n
    omega
theorem mn_spec {ns : List Int} (h : 0 < ns.length) {m : Int} (hm : m ∈ ns) (hl : ∀ y ∈ ns, m ≤ y) : m = mnI ns := by
  cases ns with
  | nil => cases hm
  | cons n ns =>
    obtain ⟨h1, h2, h3⟩ := fold_min ns n
    have hmem : ns.foldl min n ∈ n :: ns := h1.elim (fun e => by rw [e]; exact List.mem_cons_self) fun e => List.mem_cons_of_mem _ e
    have a1 := hl _ hmem
    have a2 : ns.foldl min n ≤ m := (List.mem_cons.mp hm).elim (fun e => e ▸ h2) fun e => h3 m e
    show m = ns.foldl min n
    omega
def mxW (g : List Int → Int) (ws : List W) (h : Hh) : Option (W × Hh) := match ws with
  | [w] => match deref h w with
    | some (.list ds) => match intsD ds with
      | some ns => if 0 < ns.length then ok (.int (g ns)) h else none
      | none => none
    | _ => none
  | _ => none
theorem s_maxL : SemA (rMax X.K) (mxW mxI) := by
  intro M H h vs ws Q rep rv c
  unfold mxW at c
  split at c
  · obtain ⟨v, rfl, r⟩ := rvs1 rv
    split at c
    · rename_i ds e
      obtain ⟨a, xs, rfl, ha, q⟩ := deref_rr rep r e
      split at c
      · rename_i ns e2
        split at c
        · rename_i hz
          have e3 := rds_ints q e2
          subst e3
          exact ⟨a, ns, rfl, .of ha, hz, fun m hm hl => by rw [mx_spec hz hm hl]; exact c.here rep (.int _)⟩
        · exact c.no.elim
      · exact c.no.elim
    · exact c.no.elim
  · exact c.no.elim
theorem s_minL : SemA (rMin X.K) (mxW mnI) := by
  intro M H h vs ws Q rep rv c
  unfold mxW at c
  split at c
  · obtain ⟨v, rfl, r⟩ := rvs1 rv
    split at c
    · rename_i ds e
      obtain ⟨a, xs, rfl, ha, q⟩ := deref_rr rep r e
      split at c
      · rename_i ns e2
        split at c
        · rename_i hz
          have e3 := rds_ints q e2
          subst e3
          exact ⟨a, ns, rfl, .of ha, hz, fun m hm hl => by rw [mn_spec hz hm hl]; exact c.here rep (.int _)⟩
        · exact c.no.elim
      · exact c.no.elim
    · exact c.no.elim
  · exact c.no.elim
theorem d_maxL {e : Expr} {p pos : Pos} {g : AM} (hc : X.calm = true) (hm : X.mg "max" = none) (ha : DA X [e] g) (hg : Gl X "max" := by rfl) (he : starEach [e] X.env = (false, eval e X.env) :: starEach [] X.env := by rfl) (hpl : (backTo pos (starEach [] X.env)).any (·.1) = false := by rfl) : DE X (.Call (.Name "max" p) [e] [] pos) (fA (mxW mxI) g) :=
  d_callB (cr_max hc) s_maxL hm (by decide +kernel) ha hg (by decide) (by decide) he hpl
theorem d_minL {e : Expr} {p pos : Pos} {g : AM} (hc : X.calm = true) (hm : X.mg "min" = none) (ha : DA X [e] g) (hg : Gl X "min" := by rfl) (he : starEach [e] X.env = (false, eval e X.env) :: starEach [] X.env := by rfl) (hpl : (backTo pos (starEach [] X.env)).any (·.1) = false := by rfl) : DE X (.Call (.Name "min" p) [e] [] pos) (fA (mxW mnI) g) :=
  d_callB (cr_min hc) s_minL hm (by decide +kernel) ha hg (by decide) (by decide) he hpl
end
end DL

set_option maxRecDepth 100000
set_option maxHeartbeats 400000
namespace DL
open PySem PySem.Spec PyProof.Rows L2
/-! ### lists of lists that may change -/
mutual
def noL : D → Bool
  | .tuple ds => noLs ds
  | .list _ => false
  | .dict _ => false
  | _ => true
def noLs : List D → Bool
  | [] => true
  | d :: ds => noL d && noLs ds
end
def okM : Option MO → Bool
  | some (.lst ds) => noLs ds
  | some (.tab _ _) => true
  | none => true
  | _ => false
mutual
theorem RD.thaw {M M' : Mm} {H : Hp} (x : ∀ a, M.Has a → M'.Has a ∨ ∃ xs, H a = some (.lst xs)) : ∀ {v : V} {d : D}, RD M' H v d → noL d = true → RD M H v d
  | _, _, .non, _ => .non
  | _, _, .bl b, _ => .bl b
  | _, _, .int i, _ => .int i
  | _, _, .str s, _ => .str s
  | _, _, .tup n e r, h => .tup (fun z => (x _ z).elim n fun ⟨xs, q⟩ => by rcases e with ⟨_, e⟩ | ⟨_, o, _, e⟩ <;> rw [q] at e <;> cases e) e (RDs.thaw x r (by simpa [noL] using h))
  | _, _, .lst n e r, h => by simp [noL] at h
  | _, _, .dic n e r, h => by simp [noL] at h
  | _, _, .dit n e r, h => by simp [noL] at h
theorem RDs.thaw {M M' : Mm} {H : Hp} (x : ∀ a, M.Has a → M'.Has a ∨ ∃ xs, H a = some (.lst xs)) : ∀ {v : List V} {d : List D}, RDs M' H v d → noLs d = true → RDs M H v d
  | _, _, .nil, _ => .nil
  | _, _, .cons a r, h => by
    simp only [noLs, Bool.and_eq_true] at h
    exact .cons (RD.thaw x a h.1) (RDs.thaw x r h.2)
end
theorem RO.thaw {M M' : Mm} {H : Hp} {a : Addr} {o : MO} (x : ∀ a, M.Has a → M'.Has a ∨ ∃ xs, H a = some (.lst xs)) (r : RO M' H a o) (h : okM (some o) = true) : RO M H a o := by
  cases o with
  | lst ds => obtain ⟨xs, e, q⟩ := r; exact ⟨xs, e, q.thaw x h⟩
  | dic ds => cases h
  | dit ds => cases h
  | tab q P =>
    obtain ⟨z, ps, e, t, r⟩ := r
    refine ⟨z, ps, e, t, fun pos cv hc => ?_⟩
    obtain ⟨c, e1, n, e2⟩ := r pos cv hc
    refine ⟨c, e1, fun z => (x c z).elim n fun w => ?_, e2⟩
    obtain ⟨xs, e3⟩ := w
    rw [e2] at e3
    cases e3
/-- some entries taken out -/
def killG {α : Type} (ns : List Nat) (l : List (Option α)) : List (Option α) := ns.foldl (fun l n => l.set n none) l
theorem killG_len {α : Type} : ∀ (ns : List Nat) (l : List (Option α)), (killG ns l).length = l.length
  | [], l => rfl
  | n :: ns, l => by show (killG ns (l.set n none)).length = _; rw [killG_len ns]; simp
theorem killG_get {α : Type} : ∀ (ns : List Nat) (l : List (Option α)) (i : Nat), i < l.length → (killG ns l)[i]? = if i ∈ ns then some none else l[i]?
  | [], l, i, h => by simp [killG]
  | n :: ns, l, i, h => by
    show (killG ns (l.set n none))[i]? = _
    rw [killG_get ns _ i (by simpa using h)]
    by_cases hi : i ∈ ns
    · simp [hi]
    · by_cases hn : n = i
      · subst hn; simp [hi, List.getElem?_set_self h]
      · simp [hi, Ne.symm hn, List.getElem?_set_ne hn]
/-- and put back -/
def backG {α : Type} (ns : List Nat) (l l1 : List (Option α)) : List (Option α) := ns.foldl (fun g n => g.set n ((l[n]?).getD none)) l1
theorem backG_len {α : Type} (l : List (Option α)) : ∀ (ns : List Nat) (l1 : List (Option α)), (backG ns l l1).length = l1.length
  | [], l1 => rfl
  | n :: ns, l1 => by show (backG ns l (l1.set n _)).length = _; rw [backG_len l ns]; simp
theorem backG_get {α : Type} (l : List (Option α)) : ∀ (ns : List Nat) (l1 : List (Option α)) (i : Nat), i < l1.length → l1.length = l.length → (backG ns l l1)[i]? = if i ∈ ns then l[i]? else l1[i]?
  | [], l1, i, h, e => by simp [backG]
  | n :: ns, l1, i, h, e => by
    show (backG ns l (l1.set n ((l[n]?).getD none)))[i]? = _
    rw [backG_get l ns _ i (by simpa using h) (by simpa using e)]
    by_cases hi : i ∈ ns
    · simp [hi]
    · by_cases hn : n = i
      · subst hn
        have hl : n < l.length := by omega
        simp [hi, List.getElem?_set_self h, List.getElem?_eq_getElem hl]
      · simp [hi, Ne.symm hn, List.getElem?_set_ne hn]
/-- what they hold, by value, and where they lie -/
def openP (h : Hh) : List (Sum Nat D) → Option (List D × List Nat)
  | [] => some ([], [])
  | .inr d :: its => match openP h its with
    | some (ds, ns) => some (d :: ds, ns)
    | none => none
  | .inl n :: its => match h[n]?, openP h its with
    | some (some (.lst l)), some (ds, ns) => some (.list l :: ds, n :: ns)
    | _, _ => none
def bThaw (i : Nat) (f : BM) : BM := fun ρ h => match ρ[i]? with
  | some (some (.pack its)) => match openP h its with
    | some (ds, ns) => if ns.any (fun n => (ρ.set i none).any (isR n)) = true then none else
      match f (ρ.set i (some (.dat (.list ds)))) (killG ns h) with
      | some (b, h1) => if h1.length = h.length ∧ h1.all okM = true then some (b, backG ns h h1) else none
      | none => none
    | none => none
  | _ => none
section
variable {M : Mm} {H : Hp} {h : Hh}
theorem openP_in : ∀ {its : List (Sum Nat D)} {xs : List V} {ds : List D} {ns : List Nat}, RPs M H xs its → openP h its = some (ds, ns) → (∀ n, (.inl n) ∈ its → n ∈ ns) ∧ ∀ n ∈ ns, ∃ l a, h[n]? = some (some (.lst l)) ∧ M.m[n]? = some (some a)
  | _, _, _, _, .nil, e => by cases e; exact ⟨fun n z => (by cases z), fun n z => (by cases z)⟩
  | _, _, _, _, .dat (ds := its) q r, e => by
    simp only [openP] at e
    split at e
    · rename_i ds ns e1
      cases e
      have ih := openP_in r e1
      exact ⟨fun n z => ih.1 n (by simpa using z), ih.2⟩
    · cases e
  | _, _, _, _, .ref (ds := its) q r, e => by
    simp only [openP] at e
    split at e
    · rename_i l ds ns e0 e1
      cases e
      have ih := openP_in r e1
      refine ⟨fun m z => ?_, fun m z => ?_⟩
      · rcases List.mem_cons.mp z with z | z
        · cases z; simp
        · exact List.mem_cons_of_mem _ (ih.1 m z)
      · rcases List.mem_cons.mp z with rfl | z
        · exact ⟨l, _, e0, q⟩
        · exact ih.2 m z
    · cases e
theorem killM_has {ns : List Nat} : ∀ b, Mm.Has ⟨M.u, killG ns M.m⟩ b → M.Has b := fun b z => by
  rcases z with z | z
  · exact .inl z
  · obtain ⟨i, hi, q⟩ := List.getElem_of_mem z
    have hi' : i < M.m.length := by simpa [killG_len] using hi
    have q' : (killG ns M.m)[i]? = some (some b) := by rw [List.getElem?_eq_getElem hi]; exact congrArg some q
    rw [killG_get ns M.m i hi'] at q'
    split at q'
    · cases q'
    · exact .inr (List.mem_of_getElem? q')
theorem killM_get {ns : List Nat} {i : Nat} {a : Addr} (q : (killG ns M.m)[i]? = some (some a)) : i ∉ ns ∧ M.m[i]? = some (some a) := by
  have hi : i < M.m.length := by have := lt_of_get q; rwa [killG_len] at this
  rw [killG_get ns M.m i hi] at q
  split at q
  · cases q
  · rename_i hn; exact ⟨hn, q⟩
theorem Rep.kill (rep : Rep M H h) (ns : List Nat) : Rep ⟨M.u, killG ns M.m⟩ H (killG ns h) := by
  refine ⟨fun b z => ⟨fun y => ?_, (rep.us b z).2⟩, by rw [killG_len, killG_len]; exact rep.len, fun i j b q1 q2 => ?_, fun i b q => ?_, fun i q => ?_⟩
  · obtain ⟨i, hi, q⟩ := List.getElem_of_mem y
    have q' : (killG ns M.m)[i]? = some (some b) := by rw [List.getElem?_eq_getElem hi]; exact congrArg some q
    exact (rep.us b z).1 (List.mem_of_getElem? (killM_get q').2)
  · exact rep.inj i j b (killM_get q1).2 (killM_get q2).2
  · obtain ⟨hn, q'⟩ := killM_get q
    obtain ⟨o, ho, ro⟩ := rep.at_ i b q'
    refine ⟨o, ?_, ro.sub killM_has⟩
    rw [killG_get ns h i (by rw [← rep.len]; exact lt_of_get q'), if_neg hn]
    exact ho
  · have q' : (killG ns M.m)[i]? = some none := q
    have hi : i < M.m.length := by have := lt_of_get q'; rwa [killG_len] at this
    rw [killG_get ns h i (by rw [← rep.len]; exact hi)]
    rw [killG_get ns M.m i hi] at q'
    split at q'
    · rename_i hn; rw [if_pos hn]
    · rename_i hn; rw [if_neg hn]; exact rep.dead i q'
theorem killM_not (rep : Rep M H h) {ns : List Nat} {n : Nat} {a : Addr} (hn : n ∈ ns) (q : M.m[n]? = some (some a)) : ¬ Mm.Has ⟨M.u, killG ns M.m⟩ a := fun z => by
  rcases z with z | z
  · exact (rep.us a z).1 (List.mem_of_getElem? q)
  · obtain ⟨i, hi, e⟩ := List.getElem_of_mem z
    have q' : (killG ns M.m)[i]? = some (some a) := by rw [List.getElem?_eq_getElem hi]; exact congrArg some e
    obtain ⟨h1, h2⟩ := killM_get q'
    exact h1 (rep.inj i n a h2 q ▸ hn)
theorem openP_rds (rep : Rep M H h) {ns0 : List Nat} : ∀ {its : List (Sum Nat D)} {xs : List V} {ds : List D} {ns : List Nat}, RPs M H xs its → openP h its = some (ds, ns) → (∀ n ∈ ns, n ∈ ns0) → RDs ⟨M.u, killG ns0 M.m⟩ H xs ds
  | _, _, _, _, .nil, e, _ => by cases e; exact .nil
  | _, _, _, _, .dat (ds := its) q r, e, hs => by
    simp only [openP] at e
    split at e
    · rename_i ds ns e1
      cases e
      exact .cons (q.sub killM_has) (openP_rds rep r e1 hs)
    · cases e
  | _, _, _, _, .ref (ds := its) q r, e, hs => by
    simp only [openP] at e
    split at e
    · rename_i l ds ns e0 e1
      cases e
      obtain ⟨o, ho, ro⟩ := rep.at_ _ _ q
      rw [e0] at ho
      cases ho
      obtain ⟨xs, hx, rx⟩ := ro
      exact .cons (.lst (killM_not rep (hs _ (by simp)) q) hx (rx.sub killM_has)) (openP_rds rep r e1 fun n z => hs n (List.mem_cons_of_mem _ z))
    · cases e
theorem RS.kill {ρ : Env} {σ : L2.St} {i : Nat} {its : List (Sum Nat D)} {ds : List D} {ns : List Nat} (rep : Rep M H h) (rs : RS M H ρ σ) (er : ρ[i]? = some (some (.pack its))) (eo : openP h its = some (ds, ns)) (hn : ¬ ns.any (fun n => (ρ.set i none).any (isR n)) = true) (h0 : ns ≠ []) :
    RS ⟨M.u, killG ns M.m⟩ H (ρ.set i (some (.dat (.list ds)))) σ := by
  refine ⟨by simp [rs.1], fun j w q => ?_⟩
  by_cases hj : i = j
  · subst hj
    rw [List.getElem?_set_self (lt_of_get er)] at q
    cases q
    obtain ⟨v, ev, a, xs, rfl, na, ha, rp⟩ := rs.2 i _ er
    exact ⟨_, ev, RD.lst (fun z => na (killM_has _ z)) ha (openP_rds rep rp eo fun _ z => z)⟩
  · rw [List.getElem?_set_ne hj] at q
    obtain ⟨v, ev, rv⟩ := rs.2 j w q
    refine ⟨v, ev, ?_⟩
    have hm : some w ∈ ρ.set i none := List.mem_of_getElem? (i := j) (by rw [List.getElem?_set_ne hj]; exact q)
    cases w with
    | dat d => exact RD.sub killM_has rv
    | scr ns =>
      obtain ⟨b, u, e1, n1, q1⟩ := rv
      exact ⟨b, u, e1, fun z => n1 (killM_has b z), q1⟩
    | pack its' =>
      obtain ⟨n, hn0⟩ := List.exists_mem_of_ne_nil _ h0
      exact absurd (List.any_eq_true.mpr ⟨n, hn0, List.any_eq_true.mpr ⟨_, hm, rfl⟩⟩) hn
    | ref k =>
      obtain ⟨b, eb, rfl⟩ := rv
      have hk : k ∉ ns := fun z => hn (List.any_eq_true.mpr ⟨k, z, List.any_eq_true.mpr ⟨_, hm, by simp [isR]⟩⟩)
      exact ⟨b, by show (killG ns M.m)[k]? = _; rw [killG_get ns M.m k (lt_of_get eb), if_neg hk]; exact eb, rfl⟩
/-- behind it all is as it was -/
theorem thaw_rep {M1 : Mm} {H1 : Hp} {h1 : Hh} {ns : List Nat} (rep : Rep M H h) (hns : ∀ n ∈ ns, ∃ l a, h[n]? = some (some (.lst l)) ∧ M.m[n]? = some (some a)) (x : ExtE ⟨M.u, killG ns M.m⟩ M1 H H1) (rep1 : Rep M1 H1 h1) (hl : h1.length = h.length) (hk : h1.all okM = true) :
    ExtE M M H H1 ∧ Rep M H1 (backG ns h h1) := by
  have hm : M1.m = killG ns M.m := by
    apply List.ext_getElem?
    intro i
    by_cases hi : i < M.m.length
    · exact x.pre i (by simpa [killG_len] using hi)
    · rw [List.getElem?_eq_none (by rw [rep1.len, hl, ← rep.len]; omega), List.getElem?_eq_none (by rw [killG_len]; omega)]
  have hu : M1.u = M.u := x.same
  have eM : M1 = ⟨M.u, killG ns M.m⟩ := by cases M1; simp only at hm hu; rw [hm, hu]
  subst eM
  have xx : ExtE M M H H1 := ⟨rfl, x.trk, fun a o e n => x.stab a o e fun z => by
    obtain ⟨i, hi, q⟩ := List.getElem_of_mem z
    have q' : (killG ns M.m)[i]? = some (some a) := by rw [List.getElem?_eq_getElem hi]; exact congrArg some q
    exact n (List.mem_of_getElem? (killM_get q').2), fun _ m => .inl m, Nat.le_refl _, fun _ _ => rfl⟩
  have keep : ∀ n ∈ ns, ∀ a o, M.m[n]? = some (some a) → H a = some o → H1 a = some o := fun n hn a o q e => x.stab a o e fun z => killM_not rep hn q (.inr z)
  have hx : ∀ a, M.Has a → Mm.Has ⟨M.u, killG ns M.m⟩ a ∨ ∃ xs, H1 a = some (.lst xs) := fun a z => by
    rcases z with z | z
    · exact .inl (.inl z)
    · obtain ⟨i, hi, q⟩ := List.getElem_of_mem z
      have q' : M.m[i]? = some (some a) := by rw [List.getElem?_eq_getElem hi, q]
      by_cases hn : i ∈ ns
      · obtain ⟨l, a', e1, e2⟩ := hns i hn
        rw [q'] at e2; cases e2
        obtain ⟨o, ho, ro⟩ := rep.at_ i a q'
        rw [e1] at ho; cases ho
        obtain ⟨xs, e3, _⟩ := ro
        exact .inr ⟨xs, keep i hn a _ q' e3⟩
      · refine .inl (.inr (List.mem_of_getElem? (i := i) ?_))
        show (killG ns M.m)[i]? = _
        rw [killG_get ns M.m i hi, if_neg hn]
        exact q'
  refine ⟨xx, fun b z => ?_, by rw [backG_len, hl]; exact rep.len, rep.inj, fun i a q => ?_, fun i q => ?_⟩
  · obtain ⟨h1, o, e⟩ := rep.us b z
    exact ⟨h1, x.trk b o e⟩
  · have hi : i < h.length := by rw [← rep.len]; exact lt_of_get q
    rw [backG_get h ns h1 i (by rw [hl]; exact hi) hl]
    by_cases hn : i ∈ ns
    · rw [if_pos hn]
      obtain ⟨o, ho, ro⟩ := rep.at_ i a q
      obtain ⟨l, a', e1, e2⟩ := hns i hn
      obtain ⟨u, eu⟩ := ro.some_
      exact ⟨o, ho, ro.move xx.ext ((keep i hn a u q eu).trans eu.symm)⟩
    · rw [if_neg hn]
      have q' : (killG ns M.m)[i]? = some (some a) := by rw [killG_get ns M.m i (lt_of_get q), if_neg hn]; exact q
      obtain ⟨o, ho, ro⟩ := rep1.at_ i a q'
      exact ⟨o, ho, ro.thaw hx (List.all_eq_true.mp hk _ (List.mem_of_getElem? ho))⟩
  · have hi' : i < M.m.length := lt_of_get q
    have hi : i < h.length := by rw [← rep.len]; exact hi'
    rw [backG_get h ns h1 i (by rw [hl]; exact hi) hl]
    by_cases hn : i ∈ ns
    · rw [if_pos hn]; exact rep.dead i q
    · rw [if_neg hn]
      exact rep1.dead i (by show (killG ns M.m)[i]? = _; rw [killG_get ns M.m i hi', if_neg hn]; exact q)
end
section
variable {X : Cx}
theorem thaw_imp {i : Nat} {f : BM} : ∀ σ H Q, tT (bThaw i f) σ H Q → tT f σ H Q := fun σ H Q => by
  rintro ⟨M, h, ρ, rep, rs, c⟩
  unfold bThaw at c
  split at c
  · rename_i its er
    split at c
    · rename_i ds ns eo
      split at c
      · exact c.no.elim
      · rename_i hn
        obtain ⟨v, ev, a, xs, rfl, na, ha, rp⟩ := rs.2 i _ er
        have hin := openP_in rp eo
        split at c
        · rename_i b h1 e1
          split at c
          · rename_i hg
            by_cases h0 : ns = []
            · subst h0
              refine ⟨M, h, ρ.set i (some (.dat (.list ds))), rep, ⟨by simp [rs.1], fun j w q => ?_⟩, b, h1, e1, fun M1 H1 v x1 r1 v1 => c.fin x1 r1 v1⟩
              by_cases hj : i = j
              · subst hj
                rw [List.getElem?_set_self (lt_of_get er)] at q
                cases q
                exact ⟨_, ev, RD.lst na ha (openP_rds (ns0 := []) rep rp eo fun _ z => z)⟩
              · rw [List.getElem?_set_ne hj] at q
                exact rs.2 j w q
            · refine ⟨_, _, _, rep.kill ns, rs.kill rep er eo hn h0, b, h1, e1, fun M1 H1 v x1 r1 v1 => ?_⟩
              obtain ⟨x2, r2⟩ := thaw_rep rep hin.2 x1 r1 hg.1 hg.2
              exact c.fin x2 r2 v1
          · exact c.no.elim
        · exact c.no.elim
    · exact c.no.elim
  · exact c.no.elim
theorem dt_thaw (i : Nat) {e : Expr} {f : BM} (h : DT X e f) : DT X e (bThaw i f) := h.weak thaw_imp
/-- [a, b, ..] of lists that may change -/
def packs : List W → Option (List (Sum Nat D))
  | [] => some []
  | .dat d :: ws => (packs ws).map (.inr d :: ·)
  | .ref n :: ws => (packs ws).map (.inl n :: ·)
  | _ :: _ => none
@[simp] theorem packs_nil : packs [] = some [] := rfl
@[simp] theorem packs_dat (d : D) (ws : List W) : packs (.dat d :: ws) = (packs ws).map (.inr d :: ·) := rfl
@[simp] theorem packs_ref (n : Nat) (ws : List W) : packs (.ref n :: ws) = (packs ws).map (.inl n :: ·) := rfl
theorem rvs_packs {M : Mm} {H : Hp} : ∀ {vs : List V} {ws : List W} {ds : List (Sum Nat D)}, RVs M H vs ws → packs ws = some ds → RPs M H vs ds
  | _, _, _, .nil, e => by cases e; exact .nil
  | _, .dat d :: ws, _, .cons a t, e => by
    simp only [packs_dat, Option.map_eq_some_iff] at e
    obtain ⟨ds', e1, rfl⟩ := e
    exact .dat a (rvs_packs t e1)
  | _, .ref n :: ws, _, .cons ⟨ad, ea, q⟩ t, e => by
    simp only [packs_ref, Option.map_eq_some_iff] at e
    obtain ⟨ds', e1, rfl⟩ := e
    subst q
    exact .ref ea (rvs_packs t e1)
  | _, .scr n :: ws, _, .cons a t, e => by cases e
  | _, .pack n :: ws, _, .cons a t, e => by cases e
theorem RPs.length {M : Mm} {H : Hp} : ∀ {vs : List V} {ws : List (Sum Nat D)}, RPs M H vs ws → vs.length = ws.length
  | _, _, .nil => rfl
  | _, _, .ref _ r => by rw [List.length_cons, List.length_cons, r.length]
  | _, _, .dat _ r => by rw [List.length_cons, List.length_cons, r.length]
def packW (ws : List W) (h : Hh) : Option (W × Hh) := match packs ws with
  | some its => if its.length ≤ sizeLine then some (.pack its, h) else none
  | none => none
theorem d_pack {es : List Expr} {pos : Pos} {g : AM} (hg : DA X es g) : DE X (.List es pos) (fA packW g) := (pe_lst hg).weak fun σ H Q => by
  rintro ⟨M, h, ρ, r, rs, c⟩
  obtain ⟨w, h1, e1, c1⟩ := Cont.bind (δ := Unit) c
  refine ⟨M, h, ρ, r, rs, w, h1, e1, fun M1 H1 v x1 r1 v1 => ?_⟩
  have c2 := c1 M1 H1 x1
  unfold packW at c2
  split at c2
  · rename_i ds e
    have q := rvs_packs v1 e
    split at c2
    · rename_i hz
      refine ⟨by rw [q.length]; exact hz, fun p np => ?_⟩
      exact c2.fin (ext_new np) (r1.upd_new np) ⟨p, v, rfl, r1.new np, upd_same, q.move (fun _ _ z => z) fun _ _ => RD.mono (ext_new np).ext⟩
    · exact c2.no.elim
  · exact c2.no.elim
/-- found[i] -/
def idxP (x y : W) (h : Hh) : Option (W × Hh) := match x, y with
  | .pack its, .dat (.int i) => match atI its i with
    | some (.inl n) => some (.ref n, h)
    | some (.inr d) => some (.dat d, h)
    | none => none
  | _, _ => none
theorem RPs.get {M : Mm} {H : Hp} : ∀ {xs : List V} {its : List (Sum Nat D)} {i : Nat} {z : Sum Nat D}, RPs M H xs its → its[i]? = some z → ∃ v, xs[i]? = some v ∧ RV M H v (match z with | .inl n => .ref n | .inr d => .dat d)
  | _, _, _, _, .nil, e => by simp at e
  | _, _, 0, _, .ref (a := a) q r, e => by simp at e; subst e; exact ⟨_, rfl, a, q, rfl⟩
  | _, _, 0, _, .dat q r, e => by simp at e; subst e; exact ⟨_, rfl, q⟩
  | _, _, i + 1, z, .ref (vs := vs) (ds := ds) q r, e => by
    obtain ⟨v, e1, e2⟩ := RPs.get (i := i) r (by simpa using e)
    exact ⟨v, by simpa using e1, e2⟩
  | _, _, i + 1, z, .dat (vs := vs) (ds := ds) q r, e => by
    obtain ⟨v, e1, e2⟩ := RPs.get (i := i) r (by simpa using e)
    exact ⟨v, by simpa using e1, e2⟩
theorem s_idxP : Sem2 (fun x y H Q => rIx X.K x y H Q ∨ rIxDict x y H Q) idxP := by
  intro M H h x y wx wy Q rep rx ry c
  unfold idxP at c
  split at c
  · rename_i its i
    obtain ⟨a, xs, rfl, na, ha, rp⟩ := rx
    cases (show RD M H _ _ from ry)
    have at_ : ∀ z, atI its i = some z → ∃ v, atI xs i = some v ∧ RV M H v (match z with | .inl n => .ref n | .inr d => .dat d) := fun z e => by
      unfold atI at e ⊢
      rw [rp.length]
      cases q : ixN its.length i with
      | none => rw [q] at e; cases e
      | some j => rw [q] at e; exact rp.get e
    split at c
    · rename_i n e
      obtain ⟨v, ev, rv⟩ := at_ _ e
      exact .inl (.inl ⟨a, _, i, v, rfl, rfl, .of ha, ev, c.fin (.refl _ _) rep rv⟩)
    · rename_i n e
      obtain ⟨v, ev, rv⟩ := at_ _ e
      exact .inl (.inl ⟨a, _, i, v, rfl, rfl, .of ha, ev, c.fin (.refl _ _) rep rv⟩)
    · exact c.no.elim
  · exact c.no.elim
theorem d_idxP {k : Nat} (hr : Room k X.A) {a b : Expr} {pos : Pos} {f g : EM} (ha : DE X a f) (hb : DE X b g) (hs : PlainIx b) : DE X (.Subscript a b pos) (f2 idxP f g) :=
  (pe_ix (ix_seq.or (ix_dict (hu_of hr))) ha hb hs).weak (op_imp s_idxP)
/-- found.clear() -/
def clearW (w : W) (ws : List W) (h : Hh) : Option (W × Hh) := match w, ws with
  | .ref n, [] => match lstAt h n with
    | some _ => setL h n [] .none
    | none => none
  | _, _ => none
theorem s_clear : SemM rClear clearW := by
  intro M H h x w vs ws Q rep rx rv c
  unfold clearW at c
  split at c
  · rename_i n
    obtain ⟨a, ea, rfl⟩ := rx
    cases rv
    split at c
    · rename_i ds e
      obtain ⟨xs, ha, q⟩ := lstAt_ok rep e ea
      exact ⟨a, xs, rfl, rfl, ha, setL_fin rep ea .nil .non c⟩
    · exact c.no.elim
  · exact c.no.elim
end
end DL

set_option maxRecDepth 100000
namespace DL
open PySem L2
/-! the defs' models, as gen.py prints them -/
noncomputable def m_places_of : FM := fnM false 1 3 (sRet (fDc false (enumA (fCons (fVar 0) (fNil))) (gT 2 (gC (gN 1) (gC (gN 2) (gE)))) (bYes) (fVar 2) (fVar 1) [1, 2]))
noncomputable def m_look_alike : FM := fnM false 2 2 (sIf (fB (f2 (eqW true) (fA (sortW false) (fCons (fVar 0) (fNil))) (fA (sortW false) (fCons (fVar 1) (fNil))))) (sNever) (sSkip))
noncomputable def m_place_of : FM := fnM false 2 3 (sSeq (sAsg (fA (m_places_of) (fCons (fVar 0) (fNil))) (gN 2))
    (sSeq (sIf (fB (f2 (inW true) (fVar 1) (fVar 2))) (sNever) (sSkip))
    (sRet (f2 idxW (fVar 2) (fVar 1)))))
noncomputable def m_is_ahead : FM := fnM false 3 4 (sSeq (sAsg (fA (m_place_of) (fCons (fVar 0) (fCons (fVar 1) (fNil)))) (gN 3))
    (sRet (f2 lt_W (fVar 3) (fA (m_place_of) (fCons (fVar 0) (fCons (fVar 2) (fNil)))))))
noncomputable def m_turned : FM := fnM false 1 1 (sRet (fRev false (fA tupleW (fCons (fVar 0) (fNil)))))
noncomputable def m_falls : FM := fnM false 2 6 (sSeq (sExpr (fA (m_look_alike) (fCons (fVar 0) (fCons (fVar 1) (fNil)))))
    (sSeq (sAsg (fLc false (seqI (fVar 1)) (gN 3) (bYes) (fA (m_place_of) (fCons (fVar 0) (fCons (fVar 3) (fNil)))) [3]) (gN 2))
    (sRet (fA lenW (fCons (fLc false (zipI (fCons (fVar 2) (fCons (fSl false (fVar 2) (oSome (fC (.int 1))) (oNone)) (fNil)))) (gT 2 (gC (gN 4) (gC (gN 5) (gE)))) (fB (f2 gt_W (fVar 4) (fVar 5))) (fVar 4) [4, 5]) (fNil))))))
noncomputable def m__law_box : FM := fnM true 2 3 (sSeq (sAsg (fC (.int 0)) (gN 2))
    (sSeq (sIf (fB (f2 lt_W (fVar 1) (fA lenW (fCons (fVar 0) (fNil))))) (sAsg (f2 idxW (fVar 0) (fVar 1)) (gN 2)) (sSkip))
    (sRet (fA (lstW true) (fCons (f2 (mulW false) (fA absW (fCons (fVar 2) (fNil))) (fA intC (fCons (f2 ge_W (fA absW (fCons (fVar 2) (fNil))) (f2 powW (fC (.int 10)) (fC (.int 18)))) (fNil)))) (fCons (f2 (addW false) (f2 (addW false) (f2 modW (fVar 2) (fC (.int 2147483629))) (f2 (mulW false) (fC (.int 7919)) (fVar 1))) (fC (.int 11))) (fCons (fC (.int 0)) (fNil))))))))
noncomputable def m__law_take : FM := fnM false 2 4 (sSeq (sIf (fB (f2 gt_W (f2 idxW (fVar 0) (fC (.int 0))) (fC (.int 0)))) (sSeq (sAsg (f2 modW (f2 idxW (fVar 0) (fC (.int 0))) (fVar 1)) (gN 3))
    (sSeq (sSub (f2 divW (f2 idxW (fVar 0) (fC (.int 0))) (fVar 1)) (fVar 0) (fC (.int 0)))
    (sRet (fVar 3)))) (sSkip))
    (sSeq (sSub (f2 (addW false) (f2 idxW (fVar 0) (fC (.int 2))) (fC (.int 1))) (fVar 0) (fC (.int 2)))
    (sSeq (sAsg (f2 modW (f2 powW (f2 (addW false) (f2 idxW (fVar 0) (fC (.int 1))) (f2 (mulW false) (fC (.int 39373)) (f2 idxW (fVar 0) (fC (.int 2))))) (fC (.int 5))) (fC (.int 2147483647))) (gN 2))
    (sRet (f2 modW (f2 divW (f2 modW (f2 (addW false) (f2 (mulW false) (fVar 2) (f2 (addW false) (f2 modW (fVar 2) (fC (.int 40009))) (fC (.int 7)))) (f2 (mulW false) (f2 idxW (fVar 0) (fC (.int 2))) (fC (.int 7919)))) (fC (.int 2147483629))) (fC (.int 64))) (fVar 1))))))
noncomputable def m__law_same : Nat → FM
  | 0 => fun _ _ => none
  | n + 1 => fnM false 2 4 (sSeq (sIf (fB (f1 (isiW ["list", "tuple"]) (fVar 1))) (sSeq (sIf (bOr (fB (f2 (eqW true) (f1 (isiW ["list"]) (fVar 0)) (f1 (isiW ["list"]) (fVar 1)))) (fB (f2 (eqW true) (f1 (isiW ["tuple"]) (fVar 0)) (f1 (isiW ["tuple"]) (fVar 1))))) (sRet (fC (.bool false))) (sSkip))
    (sSeq (sIf (fB (f2 (eqW true) (fA lenW (fCons (fVar 0) (fNil))) (fA lenW (fCons (fVar 1) (fNil))))) (sRet (fC (.bool false))) (sSkip))
    (sRet (fA allW (fCons (fLc false (zipI (fCons (fVar 0) (fCons (fVar 1) (fNil)))) (gT 2 (gC (gN 2) (gC (gN 3) (gE)))) (bYes) (fA (m__law_same n) (fCons (fVar 2) (fCons (fVar 3) (fNil)))) [2, 3]) (fNil)))))) (sSkip))
    (sSeq (sIf (bOr (fB (f2 (isW false) (fVar 1) (fC .none))) (fB (f1 (isiW ["str"]) (fVar 1)))) (sRet (fAnd (f2 (eqW false) (fVar 0) (fVar 1)) (f2 (eqW false) (f1 (isiW ["str"]) (fVar 0)) (f1 (isiW ["str"]) (fVar 1))))) (sSkip))
    (sRet (fAnd (f1 (isiW ["int"]) (fVar 0)) (fAnd (f2 (eqW false) (f1 (isiW ["bool"]) (fVar 0)) (f1 (isiW ["bool"]) (fVar 1))) (f2 (eqW false) (fVar 0) (fVar 1)))))))
noncomputable def m__law_strewn : FM := fnM false 2 4 (sSeq (sAsg (fA (lstW true) (fNil)) (gN 2))
    (sSeq (sFor (seqI (fVar 1)) (gN 3)
    (sExpr (fM isL insertW (fVar 2) (fCons (fA (m__law_take) (fCons (fVar 0) (fCons (f2 (addW false) (fA lenW (fCons (fVar 2) (fNil))) (fC (.int 1))) (fNil)))) (fCons (fVar 3) (fNil))))))
    (sRet (fVar 2))))
noncomputable def m__law_crew : FM := fnM false 2 9 (sSeq (sPar (fCons (f2 (addW false) (fC (.int 1)) (fA (m__law_take) (fCons (fVar 0) (fCons (fVar 1) (fNil))))) (fCons (fC (.str "abcdefghijklmnopqrstuvwxyz")) (fCons (fA (lstW true) (fNil)) (fNil)))) [3, 4, 5])
    (sSeq (sPar (fCons (fA (m__law_take) (fCons (fVar 0) (fCons (fC (.int 26)) (fNil)))) (fCons (f2 idxW (fA (lstW false) (fCons (fC (.int 1)) (fCons (fC (.int 3)) (fCons (fC (.int 25)) (fNil))))) (fA (m__law_take) (fCons (fVar 0) (fCons (fC (.int 3)) (fNil))))) (fNil))) [6, 7])
    (sSeq (sFor (rng1I (fCons (fVar 3) (fNil))) (gN 2)
    (sSeq (sAsg (f2 idxW (fVar 4) (f2 modW (f2 (addW false) (fVar 6) (f2 (mulW false) (fVar 7) (f2 divW (fVar 2) (fC (.int 2))))) (fC (.int 26)))) (gN 8))
    (sExpr (fM isL appendW (fVar 5) (fCons (f2 (addW false) (fVar 8) (f2 idxW (fA (lstW false) (fCons (fC (.str "")) (fCons (fC (.str "a")) (fCons (fC (.str "zz")) (fNil))))) (f2 (mulW false) (f2 modW (fVar 2) (fC (.int 2))) (f2 (addW false) (fC (.int 1)) (f2 modW (fVar 6) (fC (.int 2))))))) (fNil))))))
    (sFrz 5 (sRet (fA (m__law_strewn) (fCons (fVar 0) (fCons (fVar 5) (fNil)))))))))
end DL

namespace DL
open PySem L2
noncomputable def m_is_name : FM := fnM false 1 2 (sRet (fAnd (f1 (isiW ["str"]) (fVar 0)) (fAnd (fChain le_W le_W (fC (.int 1)) (fA lenW (fCons (fVar 0) (fNil))) (fC (.int 6))) (fA allW (fCons (fLc false (strI (fVar 0)) (gN 1) (bYes) (f2 (inW false) (fVar 1) (fC (.str "abcdefghijklmnopqrstuvwxyz"))) [1]) (fNil))))))
noncomputable def m_is_row : FM := fnM false 1 2 (sSeq (sIf (bOr (bNot (fB (f1 (isiW ["tuple"]) (fVar 0)))) (bOr (fB (f2 (eqW false) (fA lenW (fCons (fVar 0) (fNil))) (fC (.int 0)))) (bNot (fB (fA allW (fCons (fLc false (seqI (fVar 0)) (gN 1) (bYes) (fA (m_is_name) (fCons (fVar 1) (fNil))) [1]) (fNil))))))) (sRet (fC (.bool false))) (sSkip))
    (sRet (f2 (eqW false) (fA lenW (fCons (fDc false (seqI (fVar 0)) (gN 1) (bYes) (fVar 1) (fC (.bool true)) [1]) (fNil))) (fA lenW (fCons (fVar 0) (fNil))))))
noncomputable def m_by_names : FM := fnM false 1 3 (sRet (fDc false (seqI (fVar 0)) (gT 2 (gC (gN 1) (gC (gN 2) (gE)))) (bYes) (fVar 1) (fVar 2) [1, 2]))
noncomputable def m_people : FM := fnM false 1 3 (sRet (fA tupleW (fCons (fLc false (seqI (fVar 0)) (gT 2 (gC (gN 1) (gC (gN 2) (gE)))) (bYes) (fVar 1) [1, 2]) (fNil))))
noncomputable def m_look_name : FM := fnM false 2 2 (sIf (fB (f2 (inW true) (fVar 1) (fVar 0))) (sNever) (sSkip))
noncomputable def m_stay : FM := fnM false 1 2 (sRet (fA tupleW (fCons (fLc false (seqI (fA (sortW false) (fCons (fVar 0) (fNil)))) (gN 1) (bYes) (fA tupW (fCons (fVar 1) (fCons (fVar 1) (fNil)))) [1]) (fNil))))
noncomputable def m_all_to : FM := fnM false 2 3 (sSeq (sExpr (fA (m_look_name) (fCons (fVar 0) (fCons (fVar 1) (fNil)))))
    (sRet (fA tupleW (fCons (fLc false (seqI (fA (sortW false) (fCons (fVar 0) (fNil)))) (gN 2) (bYes) (fA tupW (fCons (fVar 2) (fCons (fVar 1) (fNil)))) [2]) (fNil)))))
noncomputable def m_called (T : Nat → Addr) : FM := fnM false 2 4 (sSeq (sExpr (fA (m_look_alike) (fCons (fVar 0) (fCons (fA (m_people) (fCons (fVar 1) (fNil))) (fNil)))))
    (sSeq (sAsg (fA tupW (fCons (fA (m_by_names) (fCons (fVar 1) (fNil))) (fCons (fA (m_places_of) (fCons (fVar 0) (fNil))) (fNil)))) (gT 2 (gC (gN 2) (gC (gN 3) (gE)))))
    (sRet (fA tupleW (fCons (fSortK false true 0 (T 0) (lamN "called") (keyA 3 2) (fVar 0)) (fNil))))))
noncomputable def m__law_lists : Nat → FM
  | 0 => fun _ _ => none
  | n + 1 => fnM false 1 2 (sRet (fIf (fB (f1 (isiW ["list", "tuple"]) (fVar 0))) (fLc false (seqI (fVar 0)) (gN 1) (bYes) (fA (m__law_lists n) (fCons (fVar 1) (fNil))) [1]) (fVar 0)))
noncomputable def m__law_of : FM := fnM false 2 2 (sRet (f2 idxW (fVar 1) (fA (m__law_take) (fCons (fVar 0) (fCons (fA lenW (fCons (fVar 1) (fNil))) (fNil))))))
noncomputable def m__law_ask : FM := fnM false 2 12 (sSeq (sPar (fCons (fA (sortW false) (fCons (fVar 1) (fNil))) (fCons (fA (m__law_take) (fCons (fVar 0) (fCons (fC (.int 6)) (fNil)))) (fNil))) [3, 4])
    (sSeq (sPar (fCons (fSl false (fA (m__law_strewn) (fCons (fVar 0) (fCons (fVar 3) (fNil)))) (oNone) (oSome (f2 (addW false) (fC (.int 1)) (fA (m__law_take) (fCons (fVar 0) (fCons (fC (.int 3)) (fNil))))))) (fCons (fA (m__law_strewn) (fCons (fVar 0) (fCons (fVar 3) (fNil)))) (fNil))) [5, 6])
    (sSeq (sAsg (fA (lstW true) (fNil)) (gN 2))
    (sSeq (sFor (enumA (fCons (fVar 3) (fNil))) (gT 2 (gC (gN 7) (gC (gN 8) (gE))))
    (sSeq (sPar (fCons (fA (m__law_of) (fCons (fVar 0) (fCons (fVar 3) (fNil)))) (fCons (fA (m__law_of) (fCons (fVar 0) (fCons (fVar 5) (fNil)))) (fNil))) [10, 11])
    (sSeq (sAsg (fIf (fB (f2 (eqW false) (fA (m__law_take) (fCons (fVar 0) (fCons (fC (.int 4)) (fNil)))) (fC (.int 0)))) (fVar 10) (fVar 8)) (gN 9))
    (sExpr (fM isL appendW (fVar 2) (fCons (fA tupW (fCons (fVar 8) (fCons (f2 idxW (fA (lstW false) (fCons (fVar 10) (fCons (fVar 10) (fCons (fVar 11) (fCons (fVar 9) (fCons (f2 idxW (fVar 6) (fVar 7)) (fCons (fVar 11) (fNil)))))))) (fVar 4)) (fNil)))) (fNil)))))))
    (sFrz 2 (sRet (fA tupleW (fCons (fVar 2) (fNil)))))))))
noncomputable def m__law_led : FM := fnM false 2 7 (sSeq (sAsg (fA tupW (fCons (fA (dictA false) (fCons (fVar 1) (fNil))) (fCons (fA (dictA false) (fCons (fLc false (enumA (fCons (fVar 0) (fNil))) (gT 2 (gC (gN 5) (gC (gN 6) (gE)))) (bYes) (fA tupW (fCons (fVar 6) (fCons (fVar 5) (fNil)))) [5, 6]) (fNil))) (fNil)))) (gT 2 (gC (gN 2) (gC (gN 3) (gE)))))
    (sRet (fA tupleW (fCons (fLc false (seqI (fA (sortW false) (fCons (fLc false (seqI (fVar 0)) (gN 6) (bYes) (fA tupW (fCons (f2 idxW (fVar 3) (f2 idxW (fVar 2) (fVar 6))) (fCons (f2 idxW (fVar 3) (fVar 6)) (fNil)))) [6]) (fNil)))) (gT 2 (gC (gN 4) (gC (gN 5) (gE)))) (bYes) (f2 idxW (fVar 0) (fVar 5)) [4, 5]) (fNil)))))
end DL

namespace DL
open PySem L2
noncomputable def m_gone : FM := fnM false 2 4 (sSeq (sPar (fCons (f2 idxW (fVar 0) (f2 idxW (fVar 1) (fC (.int 0)))) (fCons (f2 idxW (fVar 0) (f2 idxW (fVar 1) (fC (.int 1)))) (fNil))) [2, 3])
    (sRet (fIf (fB (f2 (eqW false) (fVar 2) (fVar 3))) (fVar 1) (fA tupW (fCons (fVar 2) (fCons (fVar 3) (fNil)))))))
noncomputable def m_same_pairs : FM := fnM false 2 3 (sRet (fAnd (fA allW (fCons (fLc false (seqI (fVar 0)) (gN 2) (bYes) (f1 (isiW ["tuple"]) (fVar 2)) [2]) (fNil))) (f2 (eqW false) (fVar 0) (fVar 1))))
noncomputable def m__law_all_rows : FM := fnM false 1 6 (sSeq (sAsg (fA (lstW false) (fCons (fA tupW (fNil)) (fNil))) (gN 1))
    (sSeq (sFor (seqI (fVar 0)) (gN 2)
    (sSeq (sAsg (fA (lstW false) (fNil)) (gN 3))
    (sSeq (sFor (seqI (fVar 1)) (gN 4)
    (sAsg (f2 (addW false) (fVar 3) (fLc false (seqI (fVar 0)) (gN 5) (fB (f2 (inW true) (fVar 5) (fVar 4))) (f2 (addW false) (fVar 4) (fA tupW (fCons (fVar 5) (fNil)))) [5])) (gN 3)))
    (sAsg (fVar 3) (gN 1)))))
    (sRet (fVar 1))))
noncomputable def m_ways_back : FM := fnM false 1 2 (sRet (fLc false (revI (fVar 0)) (gN 1) (bYes) (fA (m_by_names) (fCons (fVar 1) (fNil))) [1]))
noncomputable def m_walked : FM := fnM false 2 4 (sSeq (sAsg (fA (lstW true) (fCons (fVar 1) (fNil))) (gN 2))
    (sSeq (sFor (seqI (fVar 0)) (gN 3)
    (sExpr (fM isL appendW (fVar 2) (fCons (fA (m_gone) (fCons (fVar 3) (fCons (f2 idxW (fVar 2) (fNeg (fC (.int 1)))) (fNil)))) (fNil)))))
    (sRet (fVar 2))))
noncomputable def m__law_all_led : FM := fnM false 2 3 (sSeq (sFor (seqI (fVar 1)) (gN 2)
    (sAsg (fA (m__law_led) (fCons (fVar 0) (fCons (fVar 2) (fNil)))) (gN 0)))
    (sRet (fA tupleW (fCons (fVar 0) (fNil)))))
noncomputable def m__law_two : FM := fnM false 2 3 (sSeq (sAsg (fA (m__law_take) (fCons (fVar 0) (fCons (fA lenW (fCons (fVar 1) (fNil))) (fNil)))) (gN 2))
    (sRet (fA tupW (fCons (f2 idxW (fVar 1) (fVar 2)) (fCons (f2 idxW (fVar 1) (f2 modW (f2 (addW false) (f2 (addW false) (fVar 2) (fC (.int 1))) (fA (m__law_take) (fCons (fVar 0) (fCons (f2 subW (fA lenW (fCons (fVar 1) (fNil))) (fC (.int 1))) (fNil))))) (fA lenW (fCons (fVar 1) (fNil))))) (fNil))))))
noncomputable def m_walks : FM := fnM false 3 3 (sRet (fA (m_walked) (fCons (fA (m_ways_back) (fCons (fVar 0) (fNil))) (fCons (fA tupW (fCons (fVar 1) (fCons (fVar 2) (fNil)))) (fNil)))))
noncomputable def m_rows_behind (T : Nat → Addr) : FM := fnM false 2 4 (sSeq (sAsg (fA (lstW true) (fCons (fA tupleW (fCons (fVar 0) (fNil))) (fNil))) (gN 2))
    (sSeq (sFor (seqI (fVar 1)) (gN 3)
    (sExpr (fM isL appendW (fVar 2) (fCons (fA (m_called T) (fCons (f2 idxW (fVar 2) (fNeg (fC (.int 1)))) (fCons (fVar 3) (fNil)))) (fNil)))))
    (sRet (fVar 2))))
noncomputable def m_pair_of : FM := fnM false 3 3 (sRet (f2 idxW (fA (m_walks) (fCons (fVar 0) (fCons (fVar 1) (fCons (fVar 2) (fNil))))) (fNeg (fC (.int 1)))))
noncomputable def m_shows_ahead : FM := fnM false 5 7 (sSeq (sFor (seqI (fVar 1)) (gN 5)
    (sExpr (fA (m_look_alike) (fCons (fVar 0) (fCons (fA (m_people) (fCons (fVar 5) (fNil))) (fNil))))))
    (sSeq (sAsg (fA (m_walks) (fCons (fVar 1) (fCons (fVar 2) (fCons (fVar 3) (fNil))))) (gN 6))
    (sRet (fAnd (f1 (isiW ["list"]) (fVar 4)) (fAnd (fA (m_same_pairs) (fCons (fVar 4) (fCons (fVar 6) (fNil)))) (fA (m_is_ahead) (fCons (fVar 0) (fCons (f2 idxW (f2 idxW (fVar 6) (fNeg (fC (.int 1)))) (fC (.int 0))) (fCons (f2 idxW (f2 idxW (fVar 6) (fNeg (fC (.int 1)))) (fC (.int 1))) (fNil))))))))))
noncomputable def m_called_all (T : Nat → Addr) : FM := fnM false 2 2 (sRet (f2 idxW (fA (m_rows_behind T) (fCons (fVar 0) (fCons (fVar 1) (fNil)))) (fNeg (fC (.int 1)))))
noncomputable def m__law_asks : FM := fnM false 3 4 (sRet (fLc false (rng1I (fCons (fA (m__law_take) (fCons (fVar 0) (fCons (f2 (addW false) (fVar 2) (fC (.int 1))) (fNil)))) (fNil))) (gN 3) (bYes) (fA (m__law_ask) (fCons (fVar 0) (fCons (fVar 1) (fNil)))) [3]))
end DL

namespace DL
open PySem L2
noncomputable def m_groups : FM := fnM false 1 4 (sSeq (sAsg (fDn true) (gN 1))
    (sSeq (sFor (seqI (fVar 0)) (gT 2 (gC (gN 2) (gC (gN 3) (gE))))
    (sPut (f2 (addW false) (fGet (fVar 1) (fVar 3) (fA (lstW false) (fNil))) (fA (lstW false) (fCons (fVar 2) (fNil)))) (fVar 1) (fVar 3)))
    (sFrz 1 (sRet (fLc false (seqI (fA (sortDW false) (fCons (fVar 1) (fNil)))) (gN 3) (bYes) (fA tupW (fCons (fVar 3) (fCons (fA tupleW (fCons (f2 idxW (fVar 1) (fVar 3)) (fNil))) (fNil)))) [3])))))
noncomputable def m_whom : FM := fnM false 2 3 (sSeq (sAsg (fA (m_by_names) (fCons (fVar 0) (fNil))) (gN 2))
    (sSeq (sExpr (fA (m_look_name) (fCons (fVar 2) (fCons (fVar 1) (fNil)))))
    (sRet (f2 idxW (fVar 2) (fVar 1)))))
end DL

namespace DL
open PySem L2
noncomputable def m__law_folded : FM := fnM false 2 5 (sSeq (sAsg (fA (listW true) (fCons (fSl false (fVar 0) (oNone) (oSome (fVar 1))) (fNil))) (gN 2))
    (sSeq (sFor (enumA (fCons (fSl false (fVar 0) (oSome (fVar 1)) (oSome (fC (.int 63)))) (fNil))) (gT 2 (gC (gN 3) (gC (gN 4) (gE))))
    (sSub (f2 (addW false) (f2 idxW (fVar 2) (f2 modW (fVar 3) (fVar 1))) (f2 (mulW false) (fVar 4) (f2 (addW false) (fVar 3) (fC (.int 2))))) (fVar 2) (f2 modW (fVar 3) (fVar 1))))
    (sFrz 2 (sRet (fIf (fB (f2 (eqW true) (fVar 2) (fA (lstW false) (fNil)))) (fVar 2) (fA (lstW false) (fCons (fC (.int 0)) (fNil))))))))
noncomputable def m__law_called : FM := fnM false 2 6 (sSeq (sAsg (fA (dictA false) (fCons (fVar 1) (fNil))) (gN 2))
    (sSeq (sAsg (fA (lstW false) (fNil)) (gN 3))
    (sSeq (sFor (seqI (fVar 0)) (gN 4)
    (sAsg (f2 (addW false) (fVar 3) (fLc false (seqI (fVar 0)) (gN 5) (fB (f2 (eqW false) (f2 idxW (fVar 2) (fVar 5)) (fVar 4))) (fVar 5) [5])) (gN 3)))
    (sRet (fA tupleW (fCons (fVar 3) (fNil)))))))
noncomputable def m__law_walked : FM := fnM false 2 7 (sSeq (sAsg (fA (lstW true) (fCons (fVar 1) (fNil))) (gN 2))
    (sSeq (sFor (seqI (fRev false (fVar 0))) (gN 3)
    (sSeq (sAsg (fA (dictA false) (fCons (fVar 3) (fNil))) (gN 4))
    (sSeq (sPar (fCons (f2 idxW (fVar 4) (f2 idxW (f2 idxW (fVar 2) (fNeg (fC (.int 1)))) (fC (.int 0)))) (fCons (f2 idxW (fVar 4) (f2 idxW (f2 idxW (fVar 2) (fNeg (fC (.int 1)))) (fC (.int 1)))) (fNil))) [5, 6])
    (sExpr (fM isL appendW (fVar 2) (fCons (fIf (fB (f2 (eqW false) (fVar 5) (fVar 6))) (f2 idxW (fVar 2) (fNeg (fC (.int 1)))) (fA tupW (fCons (fVar 5) (fCons (fVar 6) (fNil))))) (fNil)))))))
    (sRet (fVar 2))))
noncomputable def m__law_pick : FM := fnM false 2 2 (sRet (f2 idxW (fVar 1) (fA (m__law_take) (fCons (fVar 0) (fCons (fA lenW (fCons (fVar 1) (fNil))) (fNil))))))
noncomputable def m__law_row : FM := fnM false 2 4 (sSeq (sPar (fCons (fA (listW true) (fCons (fVar 1) (fNil))) (fCons (fA (lstW true) (fNil)) (fNil))) [2, 3])
    (sSeq (sWhile 100000 (fB (f2 (eqW true) (fVar 2) (fA (lstW false) (fNil))))
    (sExpr (fM isL appendW (fVar 3) (fCons (fM isL popAtW (fVar 2) (fCons (fA (m__law_take) (fCons (fVar 0) (fCons (fA lenW (fCons (fVar 2) (fNil))) (fNil)))) (fNil))) (fNil)))))
    (sFrz 3 (sRet (fA tupleW (fCons (fVar 3) (fNil)))))))
noncomputable def m__law_names : FM := fnM false 2 6 (sSeq (sPar (fCons (f2 (addW false) (fC (.int 1)) (fA (m__law_take) (fCons (fVar 0) (fCons (fVar 1) (fNil))))) (fCons (fA (lstW false) (fNil)) (fNil))) [2, 3])
    (sSeq (sWhile 100000 (fB (f2 lt_W (fA lenW (fCons (fVar 3) (fNil))) (fVar 2)))
    (sSeq (sAsg (fJoin (fC (.str "")) (fLc false (rng1I (fCons (f2 (addW false) (fC (.int 1)) (fA (m__law_take) (fCons (fVar 0) (fCons (fC (.int 3)) (fNil))))) (fNil))) (gN 5) (bYes) (fA (m__law_pick) (fCons (fVar 0) (fCons (fC (.str "abkmxz")) (fNil)))) [5])) (gN 4))
    (sAsg (fA (sortSW false) (fCons (f2 (addW false) (fVar 3) (fA (lstW false) (fCons (f2 (addW false) (fVar 4) (f2 idxW (fC (.str "abcdefghijklmnopqrstuvwx")) (fA lenW (fCons (fVar 3) (fNil))))) (fNil)))) (fNil))) (gN 3))))
    (sRet (fVar 3))))
noncomputable def m__law_call : FM := fnM false 2 7 (sSeq (sAsg (fA (m__law_pick) (fCons (fVar 0) (fCons (fA (lstW false) (fCons (fC (.int 1)) (fCons (fC (.int 2)) (fCons (fA lenW (fCons (fVar 1) (fNil))) (fCons (fA lenW (fCons (fVar 1) (fNil))) (fNil)))))) (fNil)))) (gN 2))
    (sSeq (sAsg (fLc false (rng1I (fCons (fVar 2) (fNil))) (gN 5) (bYes) (fA (m__law_pick) (fCons (fVar 0) (fCons (fVar 1) (fNil)))) [5]) (gN 3))
    (sSeq (sAsg (f2 (addW false) (fC (.int 1)) (fA (m__law_take) (fCons (fVar 0) (fCons (fC (.int 4)) (fNil))))) (gN 4))
    (sRet (fA tupleW (fCons (fLc false (seqI (fVar 1)) (gN 6) (bYes) (fA tupW (fCons (fVar 6) (fCons (fIf (fB (f2 gt_W (fA (m__law_take) (fCons (fVar 0) (fCons (fVar 4) (fNil)))) (fC (.int 0)))) (fVar 6) (fA (m__law_pick) (fCons (fVar 0) (fCons (fVar 3) (fNil))))) (fNil)))) [6]) (fNil)))))))
end DL

namespace DL
open PySem L2
noncomputable def m_goers : FM := fnM false 1 3 (sRet (fLc false (seqI (fVar 0)) (gT 2 (gC (gN 1) (gC (gN 2) (gE)))) (fB (f2 (eqW true) (fVar 1) (fVar 2))) (fVar 1) [1, 2]))
noncomputable def m_call_of : FM := fnM false 2 4 (sSeq (sFor (seqI (fA (sortDW false) (fCons (fVar 1) (fNil)))) (gN 2)
    (sExpr (fA (m_look_name) (fCons (fVar 0) (fCons (fVar 2) (fNil))))))
    (sSeq (sFor (seqI (fSortV false (fVar 1))) (gN 2)
    (sExpr (fA (m_look_name) (fCons (fVar 0) (fCons (fVar 2) (fNil))))))
    (sRet (fA tupleW (fCons (fLc false (seqI (fA (sortW false) (fCons (fVar 0) (fNil)))) (gN 3) (bYes) (fA tupW (fCons (fVar 3) (fCons (fGet (fVar 1) (fVar 3) (fVar 3)) (fNil)))) [3]) (fNil))))))
noncomputable def m_going : FM := fnM false 3 3 (sSeq (sExpr (fA (m_look_name) (fCons (fVar 0) (fCons (fVar 1) (fNil)))))
    (sRet (fA (m_call_of) (fCons (fVar 0) (fCons (fDv false [(1, 2)]) (fNil))))))
end DL

namespace DL
open PySem L2
noncomputable def m_named : FM := fnM false 1 3 (sRet (fA lenW (fCons (fDc false (seqI (fVar 0)) (gT 2 (gC (gN 1) (gC (gN 2) (gE)))) (bYes) (fVar 2) (fC (.bool true)) [1, 2]) (fNil))))
noncomputable def m_digits_wanted : FM := fnM false 2 4 (sSeq (sAsg (fA tupW (fCons (fC (.int 0)) (fCons (fC (.int 1)) (fNil)))) (gT 2 (gC (gN 2) (gC (gN 3) (gE)))))
    (sSeq (sWhile 100000 (fB (f2 lt_W (fVar 3) (fVar 0)))
    (sSeq (sAug gMul 3 (fVar 1))
    (sAug gAdd 2 (fC (.int 1)))))
    (sRet (fVar 2))))
noncomputable def m_fewest_calls : FM := fnM false 3 3 (sRet (fA (m_digits_wanted) (fCons (f2 (addW false) (fA (m_falls) (fCons (fVar 0) (fCons (fVar 1) (fNil)))) (fC (.int 1))) (fCons (fVar 2) (fNil)))))
end DL

set_option maxRecDepth 100000
set_option maxHeartbeats 400000
namespace DL
open PySem L2
/-! ### how a model is run: from the left (u keeps what follows from being looked at ahead of time) -/
@[reducible] def Dm {α : Sort u} (_ : α) : Type := Unit
def ob {α β : Type} (k : α → Hh → Option (β × Hh)) (u : Dm k) (r : Option (α × Hh)) : Option (β × Hh) := obnd r k
theorem obnd_x {α β : Type} (r : Option (α × Hh)) (k : α → Hh → Option (β × Hh)) : obnd r k = ob k () r := rfl
theorem ob_some {α β : Type} (k : α → Hh → Option (β × Hh)) (u : Dm k) (a : α) (h : Hh) : ob k u (some (a, h)) = k a h := rfl
def sb {α : Type} (k : α → Hh → Option (Out × Hh)) (u : Dm k) (r : Option (α × Hh)) : Option (Out × Hh) := sbnd r k
theorem sbnd_x {α : Type} (r : Option (α × Hh)) (k : α → Hh → Option (Out × Hh)) : sbnd r k = sb k () r := rfl
theorem sb_some {α : Type} (k : α → Hh → Option (Out × Hh)) (u : Dm k) (a : α) (h : Hh) : sb k u (some (a, h)) = k a h := rfl
def seqK (g : SM) (u : Dm g) (r : Option (Out × Hh)) : Option (Out × Hh) := match r with
  | some (.nx ρ1, h1) => g ρ1 h1
  | r => r
theorem sSeq_e (f g : SM) (ρ : Env) (h : Hh) : sSeq f g ρ h = seqK g () (f ρ h) := rfl
theorem seqK_nx (g : SM) (u : Dm g) (ρ : Env) (h : Hh) : seqK g u (some (.nx ρ, h)) = g ρ h := rfl
theorem seqK_rt (g : SM) (u : Dm g) (w : W) (h : Hh) : seqK g u (some (.rt w, h)) = some (.rt w, h) := rfl
theorem seqK_bk (g : SM) (u : Dm g) (ρ : Env) (h : Hh) : seqK g u (some (.bk ρ, h)) = some (.bk ρ, h) := rfl
theorem seqK_ct (g : SM) (u : Dm g) (ρ : Env) (h : Hh) : seqK g u (some (.ct ρ, h)) = some (.ct ρ, h) := rfl
def frK (g : SM) (u : Dm g) (r : Option (Env × Hh)) : Option (Out × Hh) := match r with
  | some (ρ, h) => g ρ h
  | none => none
theorem sFrz_e (i : Nat) (f : SM) (ρ : Env) (h : Hh) : sFrz i f ρ h = frK f () (frz i ρ h) := rfl
theorem frK_some (g : SM) (u : Dm g) (ρ : Env) (h : Hh) : frK g u (some (ρ, h)) = g ρ h := rfl
theorem isR_ref (n m : Nat) : isR n (some (.ref m)) = decide (m = n) := rfl
theorem isR_dat (n : Nat) (d : D) : isR n (some (.dat d)) = false := rfl
theorem isR_scr (n : Nat) (d : List Int) : isR n (some (.scr d)) = false := rfl
theorem isR_none (n : Nat) : isR n none = false := rfl
def retK (rm : Bool) (h : Hh) (r : Option (Out × Hh)) : Option (W × Hh) := match r with
    | some (.rt w, h') => leave rm h w h'
    | some (.nx _, h') => leave rm h (.dat .none) h'
    | _ => none
theorem retK_rt (rm : Bool) (h : Hh) (w : W) (h' : Hh) : retK rm h (some (.rt w, h')) = leave rm h w h' := rfl
theorem retK_nx (rm : Bool) (h : Hh) (ρ : Env) (h' : Hh) : retK rm h (some (.nx ρ, h')) = leave rm h (.dat .none) h' := rfl
/-- both ways of a test -/
def iteK {α : Type} (x y : α) (u : Dm (x, y)) (b : Bool) : α := if b = true then x else y
theorem ite_x {α : Type} (b : Bool) (x y : α) : (if b = true then x else y) = iteK x y () b := rfl
theorem iteK_t {α : Type} (x y : α) (u : Dm (x, y)) : iteK x y u true = x := rfl
theorem iteK_f {α : Type} (x y : α) (u : Dm (x, y)) : iteK x y u false = y := rfl
theorem subW_e (x y : W) (h : Hh) : subW x y h = intW (fun _ _ => true) (fun i j => i - j) x y h := rfl
theorem modW_e (x y : W) (h : Hh) : modW x y h = intW (fun _ j => decide (0 < j)) (fun i j => i % j) x y h := rfl
theorem divW_e (x y : W) (h : Hh) : divW x y h = intW (fun _ j => decide (0 < j ∧ j < 1073741824)) (fun i j => i / j) x y h := rfl
theorem powW_e (x y : W) (h : Hh) : powW x y h = intW (fun i j => decide (0 ≤ j ∧ j ≤ 1000000 ∧ i.natAbs < 18446744073709551616)) (fun i j => i ^ j.toNat) x y h := rfl
theorem lt_e (x y : W) (h : Hh) : lt_W x y h = ltW (fun i j => decide (i < j)) (fun i j => decide (i < j)) x y h := rfl
theorem gt_e (x y : W) (h : Hh) : gt_W x y h = ltW (fun i j => decide (j < i)) (fun i j => decide (j < i)) x y h := rfl
theorem le_e (x y : W) (h : Hh) : le_W x y h = ltW (fun i j => decide (i ≤ j)) (fun i j => !decide (j < i)) x y h := rfl
theorem ge_e (x y : W) (h : Hh) : ge_W x y h = ltW (fun i j => decide (j ≤ i)) (fun i j => !decide (i < j)) x y h := rfl
theorem allW_e (ws : List W) (h : Hh) : allW ws h = lW bools (fun bs => .bool (bs.all id)) ws h := rfl
theorem anyW_e (ws : List W) (h : Hh) : anyW ws h = lW bools (fun bs => .bool (bs.any id)) ws h := rfl
theorem sumW_e (ws : List W) (h : Hh) : sumW ws h = lW intsD (fun bs => .int bs.sum) ws h := rfl
theorem fnM_e (rm : Bool) (np nl : Nat) (body : SM) (ws : List W) (h : Hh) (e : ws.length = np) : fnM rm np nl body ws h = retK rm h (body (ws.map some ++ List.replicate (nl - np) none) h) := by
  unfold fnM
  rw [if_pos e]
  rfl
/-! ### isinstance -/
theorem iLT_none : (["list", "tuple"].any fun t => isT1 t (.none : D)) = false := by rfl
theorem iLT_bool (b : Bool) : (["list", "tuple"].any fun t => isT1 t (.bool b : D)) = false := by rfl
theorem iLT_int (i : Int) : (["list", "tuple"].any fun t => isT1 t (.int i : D)) = false := by rfl
theorem iLT_str (s : Str) : (["list", "tuple"].any fun t => isT1 t (.str s : D)) = false := by rfl
theorem iLT_list (ds : List D) : (["list", "tuple"].any fun t => isT1 t (.list ds : D)) = true := by rfl
theorem iLT_tup (ds : List D) : (["list", "tuple"].any fun t => isT1 t (.tuple ds : D)) = true := by rfl
theorem iL_none : (["list"].any fun t => isT1 t (.none : D)) = false := by rfl
theorem iL_bool (b : Bool) : (["list"].any fun t => isT1 t (.bool b : D)) = false := by rfl
theorem iL_int (i : Int) : (["list"].any fun t => isT1 t (.int i : D)) = false := by rfl
theorem iL_str (s : Str) : (["list"].any fun t => isT1 t (.str s : D)) = false := by rfl
theorem iL_list (ds : List D) : (["list"].any fun t => isT1 t (.list ds : D)) = true := by rfl
theorem iL_tup (ds : List D) : (["list"].any fun t => isT1 t (.tuple ds : D)) = false := by rfl
theorem iT_none : (["tuple"].any fun t => isT1 t (.none : D)) = false := by rfl
theorem iT_bool (b : Bool) : (["tuple"].any fun t => isT1 t (.bool b : D)) = false := by rfl
theorem iT_int (i : Int) : (["tuple"].any fun t => isT1 t (.int i : D)) = false := by rfl
theorem iT_str (s : Str) : (["tuple"].any fun t => isT1 t (.str s : D)) = false := by rfl
theorem iT_list (ds : List D) : (["tuple"].any fun t => isT1 t (.list ds : D)) = false := by rfl
theorem iT_tup (ds : List D) : (["tuple"].any fun t => isT1 t (.tuple ds : D)) = true := by rfl
theorem iS_none : (["str"].any fun t => isT1 t (.none : D)) = false := by rfl
theorem iS_bool (b : Bool) : (["str"].any fun t => isT1 t (.bool b : D)) = false := by rfl
theorem iS_int (i : Int) : (["str"].any fun t => isT1 t (.int i : D)) = false := by rfl
theorem iS_str (s : Str) : (["str"].any fun t => isT1 t (.str s : D)) = true := by rfl
theorem iS_list (ds : List D) : (["str"].any fun t => isT1 t (.list ds : D)) = false := by rfl
theorem iS_tup (ds : List D) : (["str"].any fun t => isT1 t (.tuple ds : D)) = false := by rfl
theorem iI_none : (["int"].any fun t => isT1 t (.none : D)) = false := by rfl
theorem iI_bool (b : Bool) : (["int"].any fun t => isT1 t (.bool b : D)) = true := by rfl
theorem iI_int (i : Int) : (["int"].any fun t => isT1 t (.int i : D)) = true := by rfl
theorem iI_str (s : Str) : (["int"].any fun t => isT1 t (.str s : D)) = false := by rfl
theorem iI_list (ds : List D) : (["int"].any fun t => isT1 t (.list ds : D)) = false := by rfl
theorem iI_tup (ds : List D) : (["int"].any fun t => isT1 t (.tuple ds : D)) = false := by rfl
theorem iB_none : (["bool"].any fun t => isT1 t (.none : D)) = false := by rfl
theorem iB_bool (b : Bool) : (["bool"].any fun t => isT1 t (.bool b : D)) = true := by rfl
theorem iB_int (i : Int) : (["bool"].any fun t => isT1 t (.int i : D)) = false := by rfl
theorem iB_str (s : Str) : (["bool"].any fun t => isT1 t (.str s : D)) = false := by rfl
theorem iB_list (ds : List D) : (["bool"].any fun t => isT1 t (.list ds : D)) = false := by rfl
theorem iB_tup (ds : List D) : (["bool"].any fun t => isT1 t (.tuple ds : D)) = false := by rfl
/-! ### lists that are gone through -/
theorem lcL_map {k : TM} {t : BM} {f : EM} {ρ : Env} {h : Hh} (p : D → Bool) (g : D → D) : ∀ {ds : List D}, (∀ d ∈ ds, ∃ ρ1, k (.dat d) ρ h = some ρ1 ∧ t ρ1 h = some (p d, h) ∧ (p d = true → f ρ1 h = some (.dat (g d), h))) → lcL k t f ρ ds h = some ((ds.filter p).map g, h)
  | [], _ => rfl
  | d :: ds, H => by
    obtain ⟨ρ1, e1, e2, e3⟩ := H d List.mem_cons_self
    have ih := lcL_map (k := k) (t := t) (f := f) (ρ := ρ) (h := h) p g (ds := ds) fun e he => H e (List.mem_cons_of_mem _ he)
    unfold lcL
    simp only [e1, e2, obnd]
    cases hp : p d with
    | true =>
      simp only [if_true]
      rw [e3 hp]
      simp only [ih, List.filter_cons, hp, if_true, List.map_cons]
    | false => simp only [Bool.false_eq_true, if_false, ih, List.filter_cons, hp]
theorem lcL_all {k : TM} {t : BM} {f : EM} {ρ : Env} {h : Hh} (g : D → D) {ds : List D} (H : ∀ d ∈ ds, ∃ ρ1, k (.dat d) ρ h = some ρ1 ∧ t ρ1 h = some (true, h) ∧ f ρ1 h = some (.dat (g d), h)) : lcL k t f ρ ds h = some (ds.map g, h) := by
  have := lcL_map (k := k) (t := t) (f := f) (ρ := ρ) (h := h) (fun _ => true) g (ds := ds) fun d hd => by
    obtain ⟨ρ1, a, b, c⟩ := H d hd
    exact ⟨ρ1, a, b, fun _ => c⟩
  rwa [List.filter_eq_self.mpr (fun _ _ => rfl)] at this
/-- with a heap that changes: what holds of it, and of each item that is made -/
theorem lcL_inv {k : TM} {f : EM} {ρ : Env} (I : Nat → Hh → Prop) (R : Nat → D → Prop) : ∀ {ds : List D} {n : Nat} {h : Hh}, I n h → (∀ (j : Nat) (d : D), ds[j]? = some d → ∀ h, I (n + j) h → ∃ ρ1 d' h', k (.dat d) ρ h = some ρ1 ∧ f ρ1 h = some (.dat d', h') ∧ R (n + j) d' ∧ I (n + j + 1) h') →
    ∃ rs h', lcL k bYes f ρ ds h = some (rs, h') ∧ rs.length = ds.length ∧ (∀ (j : Nat) (r : D), rs[j]? = some r → R (n + j) r) ∧ I (n + ds.length) h'
  | [], n, h, i, _ => ⟨[], h, rfl, rfl, (fun j r hr => by simp at hr), i⟩
  | d :: ds, n, h, i, H => by
    obtain ⟨ρ1, d', h1, e1, e2, r, i1⟩ := H 0 d rfl h i
    obtain ⟨rs, h2, e3, hl, hr, i2⟩ := lcL_inv (k := k) (f := f) (ρ := ρ) I R (ds := ds) (n := n + 1) i1 fun j e he h q => by
      have := H (j + 1) e (by simpa using he) h (by rw [← show n + 1 + j = n + (j + 1) by omega]; exact q)
      rw [show n + 1 + j = n + (j + 1) by omega]
      exact this
    refine ⟨d' :: rs, h2, ?_, by simp [hl], ?_, ?_⟩
    · unfold lcL
      simp only [e1, bYes, obnd, if_true, e2]
      rw [e3]
    · intro j x hx
      cases j with
      | zero => simp at hx; subst hx; exact r
      | succ j =>
        have := hr j x (by simpa using hx)
        rw [show n + 1 + j = n + (j + 1) by omega] at this
        exact this
    · rw [List.length_cons, show n + (ds.length + 1) = n + 1 + ds.length by omega]; exact i2
/-- a for loop by what holds between two turns -/
theorem forL_inv {k : TM} {body : SM} (I : Nat → Env → Hh → Prop) : ∀ {ds : List D} {n : Nat} {ρ : Env} {h : Hh}, I n ρ h → (∀ (j : Nat) (d : D), ds[j]? = some d → ∀ ρ h, I (n + j) ρ h → ∃ ρ1 ρ2 h2, k (.dat d) ρ h = some ρ1 ∧ body ρ1 h = some (.nx ρ2, h2) ∧ I (n + j + 1) ρ2 h2) →
    ∃ ρ' h', forL k body ds ρ h = some (.nx ρ', h') ∧ I (n + ds.length) ρ' h'
  | [], n, ρ, h, i, _ => ⟨ρ, h, rfl, i⟩
  | d :: ds, n, ρ, h, i, H => by
    obtain ⟨ρ1, ρ2, h2, e1, e2, i2⟩ := H 0 d rfl ρ h i
    obtain ⟨ρ', h', e3, i3⟩ := forL_inv (k := k) (body := body) I (ds := ds) (n := n + 1) i2 fun j e he ρ h q => by
      obtain ⟨a, b, c, x, y, z⟩ := H (j + 1) e (by simpa using he) ρ h (by rw [← show n + 1 + j = n + (j + 1) by omega]; exact q)
      exact ⟨a, b, c, x, y, by rw [show n + 1 + j + 1 = n + (j + 1) + 1 by omega]; exact z⟩
    refine ⟨ρ', h', ?_, by rw [List.length_cons, show n + (ds.length + 1) = n + 1 + ds.length by omega]; exact i3⟩
    unfold forL
    simp only [e1, e2, e3]
/-! ### dicts by texts -/
theorem getK_nil (k : Key) : getK [] k = none := rfl
theorem getK_cons (e : D × D) (es : List (D × D)) (k : Key) : getK (e :: es) k = if dKey e.1 = some k then some e.2 else getK es k := by
  unfold getK
  rw [List.find?_cons]
  by_cases h : dKey e.1 = some k
  · simp [h]
  · simp [h]
/-- a dict of texts by pairs -/
def sdic (l : List (Str × D)) : List (D × D) := l.map fun p => (.str p.1, p.2)
theorem dKey_str (s : Str) : dKey (.str s) = some (.inr s) := rfl
theorem getK_sdic (s : Str) : ∀ l : List (Str × D), getK (sdic l) (.inr s) = l.lookup s
  | [] => rfl
  | (t, d) :: l => by
    show getK ((.str t, d) :: sdic l) (.inr s) = _
    rw [getK_cons, getK_sdic s l, List.lookup_cons, dKey_str]
    by_cases h : t = s
    · subst h; simp
    · have h1 : ¬ (some (Sum.inr t : Key) = some (Sum.inr s)) := fun z => h (by cases z; rfl)
      have h2 : (s == t) = false := by simpa using fun z => h z.symm
      rw [if_neg h1, h2]
theorem isT_sdic : ∀ l : List (Str × D), isT (sdic l) = false
  | [] => rfl
  | (t, d) :: l => rfl
theorem getD_sdic (l : List (Str × D)) (s : Str) : getD (sdic l) (.str s) = some (l.lookup s) := by
  unfold getD
  rw [isT_sdic, if_neg (by simp), dKey_str]
  simp [getK_sdic]
theorem sdic_snoc (l : List (Str × D)) (s : Str) (d : D) : sdic (l ++ [(s, d)]) = sdic l ++ [(.str s, d)] := by simp [sdic]
theorem putK_sdic {l : List (Str × D)} {s : Str} (d : D) (h : l.lookup s = none) : putK' (sdic l) (.inr s) d = sdic (l ++ [(s, d)]) := by
  unfold putK'
  rw [getK_sdic, h, sdic_snoc]
  rfl
theorem lookup_none {l : List (Str × D)} {s : Str} (h : s ∉ l.map (·.1)) : l.lookup s = none := by
  induction l with
  | nil => rfl
  | cons p l ih =>
    obtain ⟨t, d⟩ := p
    simp only [List.map_cons, List.mem_cons, not_or] at h
    rw [List.lookup_cons, show (s == t) = false by simpa using h.1]
    exact ih h.2
/-- dict(list of pairs with unlike keys) -/
theorem merge_sdic : ∀ (ps : List (Str × D)) (l : List (Str × D)), ((l ++ ps).map (·.1)).Nodup → mergeD (sdic l) (ps.map fun p => (Sum.inr p.1, p.2)) = sdic (l ++ ps)
  | [], l, _ => by simp [mergeD]
  | (s, d) :: ps, l, h => by
    have hn : s ∉ l.map (·.1) := by
      rw [List.map_append, List.nodup_append] at h
      intro z
      exact h.2.2 _ z _ (by simp) rfl
    have e : mergeD (sdic l) (((s, d) :: ps).map fun p => (Sum.inr p.1, p.2)) = mergeD (putK' (sdic l) (.inr s) d) (ps.map fun p => (Sum.inr p.1, p.2)) := rfl
    rw [e, putK_sdic d (lookup_none hn), merge_sdic ps (l ++ [(s, d)]) (by simpa using h)]
    simp
def prs (ps : List (Str × D)) : List D := ps.map fun p => .tuple [.str p.1, p.2]
theorem pairsK_prs : ∀ ps : List (Str × D), pairsK (prs ps) = some (ps.map fun p => (Sum.inr p.1, p.2))
  | [] => rfl
  | (s, d) :: ps => by
    show (match dKey (.str s), pairsK (prs ps) with | some k, some r => some ((k, d) :: r) | _, _ => none) = _
    rw [pairsK_prs ps]
    rfl
theorem dcL_sdic {k : TM} {fk fv : EM} {ρ : Env} {h : Hh} (g : D → Str × D) : ∀ {ds : List D} {l : List (Str × D)}, ((l ++ ds.map g).map (·.1)).Nodup → (l ++ ds.map g).length ≤ sizeLine →
    (∀ d ∈ ds, ∃ ρ1, k (.dat d) ρ h = some ρ1 ∧ fk ρ1 h = some (.dat (.str (g d).1), h) ∧ fv ρ1 h = some (.dat (g d).2, h)) → dcL k bYes fk fv ρ ds (sdic l) h = some (sdic (l ++ ds.map g), h)
  | [], l, _, _, _ => by simp [dcL]
  | d :: ds, l, hn, hl, H => by
    obtain ⟨ρ1, e1, e2, e3⟩ := H d List.mem_cons_self
    have hn' : (g d).1 ∉ l.map (·.1) := by
      rw [List.map_append, List.nodup_append] at hn
      intro z
      exact hn.2.2 _ z _ (by simp) rfl
    unfold dcL
    simp only [e1, bYes, obnd, if_true, e2, e3, dKey_str]
    have hlen : (sdic l).length < sizeLine := by
      simp only [sdic, List.length_map]
      simp only [List.length_append, List.length_map, List.length_cons] at hl
      omega
    rw [if_pos hlen, putK_sdic _ (lookup_none hn')]
    have ih := dcL_sdic (k := k) (fk := fk) (fv := fv) (ρ := ρ) (h := h) g (ds := ds) (l := l ++ [((g d).1, (g d).2)]) (by simpa using hn) (by simpa using hl) fun e he => H e (List.mem_cons_of_mem _ he)
    rw [ih]
    simp
end DL

set_option maxHeartbeats 400000
namespace DL
open PySem L2
local macro_rules | `(tactic| walk_at "dl") => `(tactic| simp (config := { dsimp := false }) only [↓fnM_e, ↓sSeq_e, seqK_nx, seqK_rt, seqK_bk, seqK_ct, retK_rt, retK_nx, ↓sFrz_e, frK_some, ↓sAsg, ↓sRet, ↓sRetN, ↓sIf, ↓sExpr, ↓sSkip, ↓sNever, ↓sPar, ↓sFor, ↓sSub, ↓fVar, ↓fC, ↓fNil, ↓fCons, ↓fA, ↓f1, ↓f2, ↓fB, ↓fIf, ↓fNeg, ↓fNot, ↓fAnd, ↓fOr, ↓bNot, ↓bAnd, ↓bOr, ↓bYes, ↓obnd_x, ob_some, ↓sbnd_x, sb_some, ↓ite_x, iteK_t, iteK_f, gN, gT, gC, gE, ↓rng1I, ↓rng2I, ↓seqI, ↓enumA, ↓zipI, ↓strI, ↓fLc, ↓fDc, ↓fM, ↓fSl, ↓oNone, ↓oSome, ↓fRev, wipeE, ↓kwM, permM, permL, List.foldr, List.length_cons, List.length_nil, List.map_cons, List.map_nil, List.cons_append, List.nil_append, List.replicate, List.replicate_succ, List.replicate_zero, List.getElem?_cons_zero, List.getElem?_cons_succ, List.set_cons_zero, List.set_cons_succ, if_true, if_false, reduceIte, Nat.reduceAdd, Nat.reduceSub, Nat.reduceEqDiff, Nat.reduceLT, Nat.reduceLeDiff, Int.reduceLT, Int.reduceLE, Int.reduceNeg, Int.reduceMul, Int.reduceAdd, Int.reduceSub, Int.reduceToNat, Int.reducePow, Int.reduceEq, ok, bok, deref, mkL, lstW, tupW, dats, Option.map_some, appendW, insertW, setL, isL, listW, tupleW, lenW, absW, intC, maxW, minW, idxW, addW, subW_e, modW_e, divW_e, powW_e, mulW, intW, lt_e, gt_e, le_e, ge_e, ltW, allW_e, anyW_e, sumW_e, lW, setW, lstAt, cutW, backW, isW, isiW, iLT_none, iLT_bool, iLT_int, iLT_str, iLT_list, iLT_tup, iL_none, iL_bool, iL_int, iL_str, iL_list, iL_tup, iT_none, iT_bool, iT_int, iT_str, iT_list, iT_tup, iS_none, iS_bool, iS_int, iS_str, iS_list, iS_tup, iI_none, iI_bool, iI_int, iI_str, iI_list, iI_tup, iB_none, iB_bool, iB_int, iB_str, iB_list, iB_tup, Bool.false_eq_true, reduceCtorEq, Bool.not_true, Bool.not_false, decide_true, decide_false, List.zip_cons_cons, List.zip_nil_left, List.foldl_cons, List.foldl_nil, and_self, and_true, true_and, Bool.and_true, Bool.true_and, Bool.or_true, Bool.true_or, *])
/-! ### what is drawn from -/
def BoxAt (h : Hh) (b c : Nat) : Prop := ∃ d s k : Int, h[b]? = some (some (.lst [.int d, .int s, .int k])) ∧ 0 ≤ d ∧ 0 ≤ s ∧ s < 1099511627776 ∧ 0 ≤ k ∧ k ≤ c
structure Only (b : Nat) (h h' : Hh) : Prop where
  len : h'.length = h.length
  off : ∀ i : Nat, i ≠ b → h'[i]? = h[i]?
theorem Only.refl (b : Nat) (h : Hh) : Only b h h := ⟨rfl, fun _ _ => rfl⟩
theorem Only.trans {b : Nat} {h h1 h2 : Hh} (x : Only b h h1) (y : Only b h1 h2) : Only b h h2 := ⟨y.len.trans x.len, fun i n => (y.off i n).trans (x.off i n)⟩
theorem only_set (b : Nat) (h : Hh) (o : Option MO) : Only b h (h.set b o) := ⟨by simp, fun i n => by rw [List.getElem?_set_ne (fun z => n z.symm)]⟩
theorem BoxAt.mono {h : Hh} {b c c' : Nat} (x : BoxAt h b c) (hc : c ≤ c') : BoxAt h b c' := by
  obtain ⟨d, s, k, e, h1, h2, h3, h4, h5⟩ := x
  exact ⟨d, s, k, e, h1, h2, h3, h4, by omega⟩
theorem BoxAt.lt {h : Hh} {b c : Nat} (x : BoxAt h b c) : b < h.length := by
  obtain ⟨d, s, k, e, _⟩ := x
  exact (List.getElem?_eq_some_iff.mp e).1
/-- a def's own heap is left -/
theorem live_only {b c c' : Nat} {h h' : Hh} (x : BoxAt h b c) (y : BoxAt h' b c') (o : Only b h h') : live h' = live h := by
  apply List.ext_getElem?
  intro i
  unfold live
  rw [List.getElem?_map, List.getElem?_map]
  by_cases hi : i = b
  · subst hi
    obtain ⟨_, _, _, e1, _⟩ := x
    obtain ⟨_, _, _, e2, _⟩ := y
    rw [e1, e2]
    rfl
  · rw [o.off i hi]
theorem leave_dat {h h' : Hh} {d : D} (e : live (h'.take h.length) = live h) : leave false h (.dat d) h' = some (.dat d, h'.take h.length) := by
  unfold leave
  rw [if_pos e]
theorem leave_dat' {b c c' : Nat} {h h' : Hh} {d : D} (x : BoxAt h b c) (y : BoxAt h' b c') (o : Only b h h') : leave false h (.dat d) h' = some (.dat d, h') := by
  have e : h'.take h.length = h' := List.take_of_length_le (by rw [o.len]; exact Nat.le_refl _)
  rw [leave_dat (by rw [e]; exact live_only x y o), e]
theorem leave_same' {h : Hh} {d : D} : leave false h (.dat d) h = some (.dat d, h) := by
  have e : h.take h.length = h := List.take_of_length_le (Nat.le_refl _)
  rw [leave_dat (by rw [e]), e]
theorem atI3 (x y z : D) : L2.atI [x, y, z] 0 = some x ∧ L2.atI [x, y, z] 1 = some y ∧ L2.atI [x, y, z] 2 = some z := ⟨rfl, rfl, rfl⟩
theorem ix3 : ixN 3 0 = some 0 ∧ ixN 3 1 = some 1 ∧ ixN 3 2 = some 2 := ⟨rfl, rfl, rfl⟩
theorem take_ok {h : Hh} {b c : Nat} {n : Int} (hb : BoxAt h b c) (hc : c < 1099511627776) (h0 : 0 < n) (h1 : n < 1073741824) :
    ∃ r h', m__law_take [.ref b, .dat (.int n)] h = some (.dat (.int r), h') ∧ 0 ≤ r ∧ r < n ∧ BoxAt h' b (c + 1) ∧ Only b h h' := by
  obtain ⟨d, s, k, e, hd, hs, hs2, hk, hk2⟩ := id hb
  have lb := hb.lt
  have a0 := fun x y z : D => (atI3 x y z).1
  have a1 := fun x y z : D => (atI3 x y z).2.1
  have a2 := fun x y z : D => (atI3 x y z).2.2
  have i0 := ix3.1
  have i2 := ix3.2.2
  by_cases hp : 0 < d
  · have y : BoxAt (h.set b (some (.lst [.int (d / n), .int s, .int k]))) b c := ⟨d / n, s, k, by rw [List.getElem?_set_self lb], Int.ediv_nonneg hd (by omega), hs, hs2, hk, hk2⟩
    refine ⟨d % n, h.set b (some (.lst [.int (d / n), .int s, .int k])), ?_, Int.emod_nonneg _ (by omega), Int.emod_lt_of_pos _ h0, y.mono (by omega), only_set _ _ _⟩
    unfold m__law_take
    walk_at "dl"
    exact leave_dat' hb y (only_set _ _ _)
  · have y : BoxAt (h.set b (some (.lst [.int d, .int s, .int (k + 1)]))) b (c + 1) := ⟨d, s, k + 1, by rw [List.getElem?_set_self lb], hd, hs, hs2, by omega, by omega⟩
    have hp' : decide (0 < d) = false := by simpa using hp
    have g1 : (h.set b (some (.lst [.int d, .int s, .int (k + 1)])))[b]? = some (some (.lst [.int d, .int s, .int (k + 1)])) := by rw [List.getElem?_set_self lb]
    have hw : (s + 39373 * (k + 1)).natAbs < 18446744073709551616 := by omega
    have o1 : -18446744073709551616 < (s + 39373 * (k + 1)) ^ 5 % 2147483647 := by omega
    have o2 : (s + 39373 * (k + 1)) ^ 5 % 2147483647 < 18446744073709551616 := by omega
    have k1 : -18446744073709551616 < k + 1 := by omega
    have k2 : k + 1 < 18446744073709551616 := by omega
    refine ⟨((s + 39373 * (k + 1)) ^ 5 % 2147483647 * ((s + 39373 * (k + 1)) ^ 5 % 2147483647 % 40009 + 7) + (k + 1) * 7919) % 2147483629 / 64 % n, h.set b (some (.lst [.int d, .int s, .int (k + 1)])), ?_, Int.emod_nonneg _ (by omega), Int.emod_lt_of_pos _ h0, y, only_set _ _ _⟩
    unfold m__law_take
    walk_at "dl"
    exact leave_dat' hb y (only_set _ _ _)
/-! ### a drawn order -/
theorem insert_perm {α : Type} (l : List α) (x : α) (i : Nat) : (l.take i ++ [x] ++ l.drop i).Perm (x :: l) := by
  have h1 : (l.take i ++ [x] ++ l.drop i).Perm ([x] ++ l.take i ++ l.drop i) := List.Perm.append_right _ List.perm_append_comm
  refine h1.trans ?_
  rw [List.append_assoc, List.take_append_drop]
  exact List.Perm.refl _
/-- what a drawing def leaves -/
def Dr (h : Hh) (b c' : Nat) (r : Option (W × Hh)) (P : W → Prop) : Prop := ∃ w h', r = some (w, h') ∧ P w ∧ BoxAt h' b c' ∧ Only b h h'
theorem only_app {b : Nat} {h h' : Hh} {o : Option MO} (hb : b < h.length) (x : Only b (h ++ [o]) h') : Only b h (h'.take h.length) ∧ ∃ g : Hh, h' = g ++ [o] ∧ g.length = h.length := by
  have hl : h'.length = h.length + 1 := by rw [x.len]; simp
  have e : h'[h.length]? = some o := by rw [x.off _ (by omega)]; simp
  have e2 : h' = h'.take h.length ++ [o] := by
    apply List.ext_getElem?
    intro i
    by_cases hi : i < h.length
    · rw [List.getElem?_append_left (by simp; omega), List.getElem?_take_of_lt hi]
    · by_cases hi2 : i = h.length
      · subst hi2
        rw [e, List.getElem?_append_right (by simp; omega)]
        simp [hl]
      · rw [List.getElem?_eq_none (by omega), List.getElem?_eq_none (by simp; omega)]
  refine ⟨⟨by simp [hl], fun i n => ?_⟩, h'.take h.length, e2, by simp [hl]⟩
  by_cases hi : i < h.length
  · rw [List.getElem?_take_of_lt hi, x.off i n, List.getElem?_append_left hi]
  · rw [List.getElem?_eq_none (by simp; omega), List.getElem?_eq_none (by omega)]
theorem box_app {h : Hh} {b c : Nat} {l : Hh} (x : BoxAt h b c) : BoxAt (h ++ l) b c := by
  have lb := x.lt
  obtain ⟨d, s, k, e, r⟩ := x
  exact ⟨d, s, k, by rw [List.getElem?_append_left lb]; exact e, r⟩
theorem box_take {h : Hh} {b c n : Nat} (x : BoxAt h b c) (hb : b < n) : BoxAt (h.take n) b c := by
  obtain ⟨d, s, k, e, r⟩ := x
  exact ⟨d, s, k, by rw [List.getElem?_take_of_lt hb]; exact e, r⟩
theorem take_snoc {α : Type} {l : List α} {n : Nat} {x : α} (e : l[n]? = some x) : l.take (n + 1) = l.take n ++ [x] := by
  rw [List.take_add_one, e]; rfl
theorem strewn_ok {h : Hh} {b c : Nat} {x : D} {ds : List D} (hx : x = .list ds ∨ x = .tuple ds) (hb : BoxAt h b c) (hc : c + ds.length < 1000000000) (hl : ds.length < 1000000) :
    ∃ rs h', m__law_strewn [.ref b, .dat x] h = some (.dat (.list rs), h') ∧ rs.Perm ds ∧ BoxAt h' b (c + ds.length) ∧ Only b h h' := by
  have hz : sizeLine = 16777216 := by rfl
  have key := forL_inv (k := gN 3) (body := sExpr (fM isL insertW (fVar 2) (fCons (fA (m__law_take) (fCons (fVar 0) (fCons (f2 (addW false) (fA lenW (fCons (fVar 2) (fNil))) (fC (.int 1))) (fNil)))) (fCons (fVar 3) (fNil)))))
    (fun n ρ g => ∃ (v : Option W) (rs : List D) (g' : Hh), ρ = [some (.ref b), some (.dat x), some (.ref h.length), v] ∧ g = g' ++ [some (.lst rs)] ∧ g'.length = h.length ∧ rs.Perm (ds.take n) ∧ BoxAt g' b (c + n) ∧ Only b h g') (ds := ds) (n := 0)
    (ρ := [some (.ref b), some (.dat x), some (.ref h.length), none]) (h := h ++ [some (.lst [])])
    ⟨none, [], h, rfl, rfl, rfl, by simp, hb, .refl _ _⟩ (by
      intro j d ej ρ g hi
      obtain ⟨v, rs, g', rfl, rfl, gl, pm, bx, on⟩ := hi
      rw [Nat.zero_add] at pm bx ⊢
      have hj : j < ds.length := (List.getElem?_eq_some_iff.mp ej).1
      have rl : rs.length = j := by rw [pm.length_eq, List.length_take]; omega
      have bg := bx.lt
      obtain ⟨r, g2, e2, r0, r1, bx2, on2⟩ := take_ok (n := (rs.length : Int) + 1) (box_app (l := [some (.lst rs)]) bx) (by omega) (by omega) (by omega)
      obtain ⟨on3, g3, rfl, g3l⟩ := only_app bg on2
      have hg : (g3 ++ [some (MO.lst rs)])[h.length]? = some (some (.lst rs)) := by rw [List.getElem?_append_right (by omega), g3l, gl]; simp
      have hg0 : (g' ++ [some (MO.lst rs)])[h.length]? = some (some (.lst rs)) := by rw [List.getElem?_append_right (by omega), gl]; simp
      have hs : (g3 ++ [some (MO.lst rs)]).set h.length (some (.lst (rs.take r.toNat ++ [d] ++ rs.drop r.toNat))) = g3 ++ [some (.lst (rs.take r.toNat ++ [d] ++ rs.drop r.toNat))] := by
        rw [List.set_append_right _ _ (by omega), show h.length - g3.length = 0 by omega]; rfl
      have c1 : rs.length < sizeLine := by omega
      have c2 : r < 1000000 := by omega
      refine ⟨[some (.ref b), some (.dat x), some (.ref h.length), some (.dat d)], [some (.ref b), some (.dat x), some (.ref h.length), some (.dat d)], g3 ++ [some (.lst (rs.take r.toNat ++ [d] ++ rs.drop r.toNat))], rfl, ?_, _, _, g3, rfl, rfl, by omega, ?_, ?_, ?_⟩
      · clear rl hz
        walk_at "dl"
      · rw [take_snoc ej]
        exact (insert_perm rs d _).trans ((List.Perm.cons d pm).trans (List.perm_append_singleton d _).symm)
      · have := box_take bx2 (n := g3.length) (by omega)
        rw [List.take_append_of_le_length (Nat.le_refl _), List.take_length] at this
        exact this
      · have e : (g3 ++ [some (MO.lst rs)]).take g'.length = g3 := by rw [← g3l, List.take_append_of_le_length (Nat.le_refl _), List.take_length]
        rw [e] at on3
        exact on.trans on3)
  obtain ⟨ρ', h', e, v, rs, g', rfl, rfl, gl, pm, bx, on⟩ := key
  rw [Nat.zero_add, List.take_length] at pm
  rw [Nat.zero_add] at bx
  refine ⟨rs, g', ?_, pm, bx, on⟩
  have hg : (g' ++ [some (MO.lst rs)])[h.length]? = some (some (.lst rs)) := by rw [List.getElem?_append_right (by omega), gl]; simp
  have et : (g' ++ [some (MO.lst rs)]).take h.length = g' := by rw [← gl, List.take_append_of_le_length (Nat.le_refl _), List.take_length]
  have hlv := live_only hb bx on
  have nl : ¬ h.length < h.length := by omega
  unfold m__law_strewn
  rcases hx with rfl | rfl
  · walk_at "dl"
    unfold leave
    walk_at "dl"
  · walk_at "dl"
    unfold leave
    walk_at "dl"
end DL
set_option maxHeartbeats 400000
namespace DL
open PySem L2
local macro_rules | `(tactic| walk_at "dl") => `(tactic| simp (config := { dsimp := false }) only [↓fnM_e, ↓sSeq_e, seqK_nx, seqK_rt, seqK_bk, seqK_ct, retK_rt, retK_nx, ↓sFrz_e, frK_some, ↓sAsg, ↓sRet, ↓sRetN, ↓sIf, ↓sExpr, ↓sSkip, ↓sNever, ↓sPar, ↓sFor, ↓sSub, ↓fVar, ↓fC, ↓fNil, ↓fCons, ↓fA, ↓f1, ↓f2, ↓fB, ↓fIf, ↓fNeg, ↓fNot, ↓fAnd, ↓fOr, ↓bNot, ↓bAnd, ↓bOr, ↓bYes, ↓obnd_x, ob_some, ↓sbnd_x, sb_some, ↓ite_x, iteK_t, iteK_f, gN, gT, gC, gE, ↓rng1I, ↓rng2I, ↓seqI, ↓enumA, ↓zipI, ↓strI, ↓fLc, ↓fDc, ↓fM, ↓fSl, ↓oNone, ↓oSome, ↓fRev, wipeE, ↓kwM, permM, permL, List.foldr, List.length_cons, List.length_nil, List.map_cons, List.map_nil, List.cons_append, List.nil_append, List.replicate, List.replicate_succ, List.replicate_zero, List.getElem?_cons_zero, List.getElem?_cons_succ, List.set_cons_zero, List.set_cons_succ, if_true, if_false, reduceIte, Nat.reduceAdd, Nat.reduceSub, Nat.reduceEqDiff, Nat.reduceLT, Nat.reduceLeDiff, Int.reduceLT, Int.reduceLE, Int.reduceNeg, Int.reduceMul, Int.reduceAdd, Int.reduceSub, Int.reduceToNat, Int.reducePow, Int.reduceEq, ok, bok, deref, mkL, lstW, tupW, dats, Option.map_some, appendW, insertW, setL, isL, listW, tupleW, lenW, absW, intC, maxW, minW, idxW, addW, subW_e, modW_e, divW_e, powW_e, mulW, intW, lt_e, gt_e, le_e, ge_e, ltW, allW_e, anyW_e, sumW_e, lW, setW, lstAt, cutW, backW, isW, isiW, iLT_none, iLT_bool, iLT_int, iLT_str, iLT_list, iLT_tup, iL_none, iL_bool, iL_int, iL_str, iL_list, iL_tup, iT_none, iT_bool, iT_int, iT_str, iT_list, iT_tup, iS_none, iS_bool, iS_int, iS_str, iS_list, iS_tup, iI_none, iI_bool, iI_int, iI_str, iI_list, iI_tup, iB_none, iB_bool, iB_int, iB_str, iB_list, iB_tup, Bool.false_eq_true, reduceCtorEq, Bool.not_true, Bool.not_false, decide_true, decide_false, List.zip_cons_cons, List.zip_nil_left, List.foldl_cons, List.foldl_nil, and_self, and_true, true_and, Bool.and_true, Bool.true_and, Bool.or_true, Bool.true_or, *])
/-! ### names -/
theorem str_ext {a b : Str} (h : a.cps.toList = b.cps.toList) : a = b := by
  obtain ⟨⟨x⟩⟩ := a
  obtain ⟨⟨y⟩⟩ := b
  simp at h
  rw [h]
theorem cps_app (a b : Str) : (a ++ b).cps.toList = a.cps.toList ++ b.cps.toList := by
  show (a.cps ++ b.cps).toList = _
  simp
theorem len_app (a b : Str) : (a ++ b).length = a.length + b.length := by
  show (a.cps ++ b.cps).size = _
  simp [Str.length]
def lt1 (i : Nat) : Str := ⟨#[97 + i]⟩
def sfx : Nat → Str
  | 0 => ""
  | 1 => "a"
  | _ => "zz"
def nm (st sp at_ : Nat) : Str := lt1 ((st + sp * (at_ / 2)) % 26) ++ sfx (at_ % 2 * (1 + st % 2))
theorem sfx_len : (sfx 0).cps.toList = [] ∧ (sfx 1).cps.toList = [97] ∧ (sfx 2).cps.toList = [122, 122] := by decide +kernel
def Steps (sp : Nat) : Prop := sp = 1 ∨ sp = 3 ∨ sp = 25
theorem nm_cps (st sp a : Nat) : (nm st sp a).cps.toList = (97 + (st + sp * (a / 2)) % 26) :: (sfx (a % 2 * (1 + st % 2))).cps.toList := by
  unfold nm
  rw [cps_app]
  rfl
theorem nm_inj {st sp a b : Nat} (hs : Steps sp) (ha : a < 52) (hb : b < 52) (e : nm st sp a = nm st sp b) : a = b := by
  have e' := congrArg (fun s : Str => s.cps.toList) e
  simp only [nm_cps, List.cons.injEq] at e'
  obtain ⟨e1, e2⟩ := e'
  have e3 : a / 2 = b / 2 := by
    rcases hs with rfl | rfl | rfl <;> omega
  have e4 : a % 2 = b % 2 := by
    rcases Nat.mod_two_eq_zero_or_one a with h1 | h1 <;> rcases Nat.mod_two_eq_zero_or_one b with h2 | h2
    · rw [h1, h2]
    · exfalso
      rw [h1, h2, Nat.zero_mul, Nat.one_mul, sfx_len.1] at e2
      rcases Nat.mod_two_eq_zero_or_one st with h3 | h3
      · rw [h3, sfx_len.2.1] at e2; cases e2
      · rw [h3, sfx_len.2.2] at e2; cases e2
    · exfalso
      rw [h1, h2, Nat.zero_mul, Nat.one_mul, sfx_len.1] at e2
      rcases Nat.mod_two_eq_zero_or_one st with h3 | h3
      · rw [h3, sfx_len.2.1] at e2; cases e2
      · rw [h3, sfx_len.2.2] at e2; cases e2
    · rw [h1, h2]
  omega
/-- people by draws -/
structure Crew (most : Nat) (rs : List Str) : Prop where
  nd : rs.Nodup
  pos : 0 < rs.length
  le : rs.length ≤ most
  nam : ∀ s ∈ rs, ∃ st sp a, st < 26 ∧ Steps sp ∧ s = nm st sp a
theorem crew_of {most size st sp : Nat} {rs : List Str} (hm : most ≤ 52) (h0 : 0 < size) (h1 : size ≤ most) (hst : st < 26) (hs : Steps sp) (p : rs.Perm ((List.range size).map (nm st sp))) : Crew most rs := by
  refine ⟨?_, by rw [p.length_eq]; simpa using h0, by rw [p.length_eq]; simpa using h1, fun s hs' => ?_⟩
  · rw [p.nodup_iff]
    rw [List.Nodup, List.pairwise_map]
    refine List.Pairwise.imp_of_mem ?_ List.nodup_range
    intro a b ha hb hab e
    exact hab (nm_inj hs (by have := List.mem_range.mp ha; omega) (by have := List.mem_range.mp hb; omega) e)
  · obtain ⟨a, _, rfl⟩ := List.mem_map.mp (p.mem_iff.mp hs')
    exact ⟨st, sp, a, hst, hs, rfl⟩
def unS : D → Str
  | .str s => s
  | _ => ""
theorem perm_strs {rs : List D} {l : List Str} (p : rs.Perm (l.map .str)) : ∃ rs' : List Str, rs = rs'.map .str ∧ rs'.Perm l := by
  refine ⟨rs.map unS, ?_, ?_⟩
  · rw [List.map_map]
    have : ∀ d ∈ rs, (PyData.str ∘ unS) d = d := fun d hd => by
      obtain ⟨s, _, rfl⟩ := List.mem_map.mp (p.mem_iff.mp hd)
      rfl
    rw [List.map_congr_left this]
    simp
  · have := p.map unS
    rw [List.map_map] at this
    simpa [Function.comp_def, unS] using this
abbrev letters : Str := "abcdefghijklmnopqrstuvwxyz"
theorem letters_at {i : Nat} (h : i < 26) : L2.atI letters.cps.toList (i : Int) = some (97 + i) := by
  have : ∀ i : Fin 26, L2.atI letters.cps.toList ((i : Nat) : Int) = some (97 + i.1) := by decide +kernel
  exact this ⟨i, h⟩
theorem letters_len : letters.length ≤ sizeLine := by decide +kernel
theorem rng_get {n j : Nat} {d : D} (e : (rngD 0 n)[j]? = some d) : j < n ∧ d = .int (j : Int) := by
  obtain ⟨h1, h2⟩ := rngD_get e
  exact ⟨h1, by rw [h2]; simp⟩
theorem rng_len (n : Nat) : (rngD 0 n).length = n := by simp [rngD]
theorem at3 (x y z : D) {i : Int} (h0 : 0 ≤ i) (h1 : i < 3) : L2.atI [x, y, z] i = some (if i = 0 then x else if i = 1 then y else z) := by
  have : i = 0 ∨ i = 1 ∨ i = 2 := by omega
  rcases this with rfl | rfl | rfl <;> rfl
theorem sfx_at (j st : Nat) : L2.atI [PyData.str "", .str "a", .str "zz"] ((j : Int) % 2 * (1 + (st : Int) % 2)) = some (.str (sfx (j % 2 * (1 + st % 2)))) := by
  have e : (j : Int) % 2 * (1 + (st : Int) % 2) = ((j % 2 * (1 + st % 2) : Nat) : Int) := by push_cast; rfl
  have h : j % 2 * (1 + st % 2) = 0 ∨ j % 2 * (1 + st % 2) = 1 ∨ j % 2 * (1 + st % 2) = 2 := by
    rcases Nat.mod_two_eq_zero_or_one j with z | z <;> rw [z] <;> omega
  rw [e]
  rcases h with h | h | h <;> rw [h] <;> rfl
theorem sfx_le (k : Nat) : (sfx k).length ≤ 2 := by
  match k with
  | 0 => decide +kernel
  | 1 => decide +kernel
  | _ + 2 => show (sfx 2).length ≤ 2; decide +kernel
def crewBody : SM := sSeq (sAsg (f2 idxW (fVar 4) (f2 modW (f2 (addW false) (fVar 6) (f2 (mulW false) (fVar 7) (f2 divW (fVar 2) (fC (.int 2))))) (fC (.int 26)))) (gN 8))
    (sExpr (fM isL appendW (fVar 5) (fCons (f2 (addW false) (fVar 8) (f2 idxW (fA (lstW false) (fCons (fC (.str "")) (fCons (fC (.str "a")) (fCons (fC (.str "zz")) (fNil))))) (f2 (mulW false) (f2 modW (fVar 2) (fC (.int 2))) (f2 (addW false) (fC (.int 1)) (f2 modW (fVar 6) (fC (.int 2))))))) (fNil))))
theorem crew_turn {g : Hh} {b p : Nat} {st sp j sz most : Int} {l : List D} {w : Option W} {L sx : Str} {cc : Nat} (ll : L.length ≤ sizeLine) (la : L2.atI L.cps.toList ((st + sp * (j / 2)) % 26) = some cc) (hx : L2.atI [PyData.str "", .str "a", .str "zz"] (j % 2 * (1 + st % 2)) = some (.str sx))
    (hg : g[p]? = some (some (.lst l))) (hl : l.length < sizeLine) (s0 : 0 ≤ sp) (s1 : sp < 26) (hs : sx.length ≤ 2) :
    crewBody [some (.ref b), some (.dat (.int most)), some (.dat (.int j)), some (.dat (.int sz)), some (.dat (.str L)), some (.ref p), some (.dat (.int st)), some (.dat (.int sp)), w] g =
      some (.nx [some (.ref b), some (.dat (.int most)), some (.dat (.int j)), some (.dat (.int sz)), some (.dat (.str L)), some (.ref p), some (.dat (.int st)), some (.dat (.int sp)), some (.dat (.str ⟨#[cc]⟩))], g.set p (some (.lst (l ++ [.str (⟨#[cc]⟩ ++ sx)])))) := by
  have c0 : -18446744073709551616 < sp := by omega
  have c1 : sp < 18446744073709551616 := by omega
  have c3 : -18446744073709551616 < j % 2 := by omega
  have c4 : j % 2 < 18446744073709551616 := by omega
  have c5 : (Str.length ⟨#[cc]⟩) + sx.length ≤ sizeLine := by
    have hz : sizeLine = 16777216 := by rfl
    show 1 + _ ≤ _
    omega
  have c7 : 3 ≤ sizeLine := by decide
  unfold crewBody
  walk_at "dl"
theorem crew_turn_none {g : Hh} {b p st sp j : Nat} {sz most : Int} {l : List D} {w : Option W} (hg : g[p]? = some (some (.lst l))) (hl : l.length < sizeLine) (s1 : sp < 26) :
    ∃ w', crewBody [some (.ref b), some (.dat (.int most)), some (.dat (.int j)), some (.dat (.int sz)), some (.dat (.str letters)), some (.ref p), some (.dat (.int st)), some (.dat (.int sp)), w] g =
      some (.nx [some (.ref b), some (.dat (.int most)), some (.dat (.int j)), some (.dat (.int sz)), some (.dat (.str letters)), some (.ref p), some (.dat (.int st)), some (.dat (.int sp)), w'], g.set p (some (.lst (l ++ [.str (nm st sp j)])))) ∧ ∀ n, isR n w' = false := by
  have hi : ((st : Int) + sp * ((j : Int) / 2)) % 26 = (((st + sp * (j / 2)) % 26 : Nat) : Int) := by push_cast; rfl
  exact ⟨_, crew_turn letters_len (by rw [hi]; exact letters_at (Nat.mod_lt _ (by omega))) (sfx_at j st) hg hl (by omega) (by omega) (sfx_le _), fun _ => rfl⟩
theorem crew_run {h g1 g2 g3 g5 g6 : Hh} {b : Nat} {most r1 r2 r3 sp : Int} {L : Str} (hL : L = letters) {pool rs : List D} {v w : Option W} (e1 : m__law_take [.ref b, .dat (.int most)] h = some (.dat (.int r1), g1)) (e2 : m__law_take [.ref b, .dat (.int 26)] (g1 ++ [some (.lst [])]) = some (.dat (.int r2), g2))
    (e3 : m__law_take [.ref b, .dat (.int 3)] g2 = some (.dat (.int r3), g3)) (hsi : L2.atI [PyData.int 1, .int 3, .int 25] r3 = some (.int sp)) (b0 : -1000000000 ≤ 1 + r1) (b1 : 1 + r1 ≤ 1000000000)
    (key : forL (gN 2) crewBody (rngD 0 (1 + r1).toNat) [some (.ref b), some (.dat (.int most)), none, some (.dat (.int (1 + r1))), some (.dat (.str L)), some (.ref g1.length), some (.dat (.int r2)), some (.dat (.int sp)), none] g3 =
      some (.nx [some (.ref b), some (.dat (.int most)), v, some (.dat (.int (1 + r1))), some (.dat (.str L)), some (.ref g1.length), some (.dat (.int r2)), some (.dat (.int sp)), w], g5))
    (hv : ∀ n, isR n v = false) (hw : ∀ n, isR n w = false) (hp : g5[g1.length]? = some (some (.lst pool))) (hbn : (b = g1.length) = False)
    (e6 : m__law_strewn [.ref b, .dat (.list pool)] (g5.set g1.length none) = some (.dat (.list rs), g6)) :
    m__law_crew [.ref b, .dat (.int most)] h = leave false h (.dat (.list rs)) g6 := by
  have c7 : 3 ≤ sizeLine := by decide
  have c8 : 0 ≤ sizeLine := Nat.zero_le _
  have hf : frz 5 [some (.ref b), some (.dat (.int most)), v, some (.dat (.int (1 + r1))), some (.dat (.str L)), some (.ref g1.length), some (.dat (.int r2)), some (.dat (.int sp)), w] g5 =
      some ([some (.ref b), some (.dat (.int most)), v, some (.dat (.int (1 + r1))), some (.dat (.str L)), some (.dat (.list pool)), some (.dat (.int r2)), some (.dat (.int sp)), w], g5.set g1.length none) := by
    unfold frz
    simp only [List.getElem?_cons_zero, List.getElem?_cons_succ, hp, List.set_cons_zero, List.set_cons_succ, List.any_cons, List.any_nil, hv, hw, isR_ref, isR_dat, isR_none, hbn, decide_false, Bool.or_false, isTab, Bool.false_eq_true, if_false, moD]
  unfold crewBody at key
  subst hL
  unfold m__law_crew
  clear hv hw hp hbn
  walk_at "dl"
theorem leave_two {b c c' : Nat} {h g : Hh} {d : D} {o : Option MO} (x : BoxAt h b c) (y : BoxAt g b c') (on : Only b h g) : leave false h (.dat d) (g ++ [o]) = some (.dat d, g) := by
  have e : (g ++ [o]).take h.length = g := by rw [← on.len, List.take_append_of_le_length (Nat.le_refl _), List.take_length]
  rw [leave_dat (by rw [e]; exact live_only x y on), e]
theorem crew_ok {h : Hh} {b c most : Nat} (hb : BoxAt h b c) (hc : c < 100000000) (h0 : 0 < most) (h1 : most ≤ 52) :
    ∃ rs h', m__law_crew [.ref b, .dat (.int most)] h = some (.dat (.list (rs.map .str)), h') ∧ Crew most rs ∧ BoxAt h' b (c + 3 + most) ∧ Only b h h' := by
  have hz : sizeLine = 16777216 := by rfl
  obtain ⟨r1, g1, e1, p1, q1, b1, o1⟩ := take_ok (n := (most : Int)) hb (by omega) (by omega) (by omega)
  obtain ⟨r2, g2, e2, p2, q2, b2, o2⟩ := take_ok (n := 26) (box_app (l := [some (.lst [])]) b1) (by omega) (by omega) (by omega)
  obtain ⟨r3, g3, e3, p3, q3, b3, o3⟩ := take_ok (n := 3) b2 (by omega) (by omega) (by omega)
  have lb := hb.lt
  have l1 := o1.len
  obtain ⟨o4, g4, e4, l4⟩ := only_app b1.lt (o2.trans o3)
  have eg : g3.take g1.length = g4 := by rw [e4, ← l4, List.take_append_of_le_length (Nat.le_refl _), List.take_length]
  rw [eg] at o4
  have b4 : BoxAt g4 b (c + 3) := by
    have := box_take b3 (n := g1.length) (by omega)
    rw [eg] at this
    exact this
  obtain ⟨st, rfl⟩ : ∃ st : Nat, r2 = st := ⟨r2.toNat, by omega⟩
  obtain ⟨sz, rfl⟩ : ∃ sz : Nat, r1 = sz := ⟨r1.toNat, by omega⟩
  obtain ⟨sp, hsp, hsi⟩ : ∃ sp : Nat, Steps sp ∧ L2.atI [PyData.int 1, .int 3, .int 25] r3 = some (.int (sp : Int)) := by
    have : r3 = 0 ∨ r3 = 1 ∨ r3 = 2 := by omega
    rcases this with rfl | rfl | rfl
    · exact ⟨1, .inl rfl, rfl⟩
    · exact ⟨3, .inr (.inl rfl), rfl⟩
    · exact ⟨25, .inr (.inr rfl), rfl⟩
  have sp26 : sp < 26 := by rcases hsp with rfl | rfl | rfl <;> omega
  have key := forL_inv (k := gN 2) (body := crewBody)
    (fun n ρ g => ∃ v w : Option W, (∀ n, isR n v = false) ∧ (∀ n, isR n w = false) ∧ ρ = [some (.ref b), some (.dat (.int most)), v, some (.dat (.int (1 + sz))), some (.dat (.str letters)), some (.ref g1.length), some (.dat (.int st)), some (.dat (.int sp)), w] ∧ g = g4 ++ [some (.lst ((List.range n).map fun a => .str (nm st sp a)))])
    (ds := rngD 0 (1 + (sz : Int)).toNat) (n := 0)
    (ρ := [some (.ref b), some (.dat (.int most)), none, some (.dat (.int (1 + sz))), some (.dat (.str letters)), some (.ref g1.length), some (.dat (.int st)), some (.dat (.int sp)), none]) (h := g3)
    ⟨none, none, fun _ => rfl, fun _ => rfl, rfl, e4⟩ (by
      intro j d ej ρ g hi
      obtain ⟨v, w, hv, hw, rfl, rfl⟩ := hi
      obtain ⟨hj, rfl⟩ := rng_get ej
      rw [Nat.zero_add]
      have hg : (g4 ++ [some (MO.lst ((List.range j).map fun a => PyData.str (nm st sp a)))])[g1.length]? = some (some (.lst ((List.range j).map fun a => .str (nm st sp a)))) := by rw [List.getElem?_append_right (by omega), l4]; simp
      have hs : (g4 ++ [some (MO.lst ((List.range j).map fun a => PyData.str (nm st sp a)))]).set g1.length (some (.lst ((List.range j).map (fun a => PyData.str (nm st sp a)) ++ [.str (nm st sp j)]))) = g4 ++ [some (.lst ((List.range (j + 1)).map fun a => .str (nm st sp a)))] := by
        rw [List.set_append_right _ _ (by omega), show g1.length - g4.length = 0 by omega, List.range_succ, List.map_append]; rfl
      obtain ⟨w', ew⟩ := crew_turn_none (b := b) (st := st) (j := j) (sz := 1 + (sz : Int)) (most := most) (w := w) hg (by simp; omega) sp26
      refine ⟨_, _, _, rfl, ew.1, some (.dat (.int j)), w', fun _ => rfl, ew.2, rfl, hs⟩)
  obtain ⟨ρ', g5, ek, v, w, hv, hw, rfl, rfl⟩ := key
  have hn : 0 + (rngD 0 (1 + (sz : Int)).toNat).length = 1 + sz := by rw [rng_len]; omega
  rw [hn] at ek
  have hgp : (g4 ++ [some (MO.lst ((List.range (1 + sz)).map fun a => PyData.str (nm st sp a)))])[g1.length]? = some (some (.lst ((List.range (1 + sz)).map fun a => .str (nm st sp a)))) := by rw [List.getElem?_append_right (by omega), l4]; simp
  have hgs : (g4 ++ [some (MO.lst ((List.range (1 + sz)).map fun a => PyData.str (nm st sp a)))]).set g1.length none = g4 ++ [none] := by
    rw [List.set_append_right _ _ (by omega), show g1.length - g4.length = 0 by omega]; rfl
  obtain ⟨rs, g6, e6, pm, b6, o6⟩ := strewn_ok (x := .list ((List.range (1 + sz)).map fun a => PyData.str (nm st sp a))) (.inl rfl) (box_app (l := [none]) b4) (by simp; omega) (by simp; omega)
  obtain ⟨o7, g7, e7, l7⟩ := only_app b4.lt o6
  subst e7
  have e8 : (g7 ++ [none]).take g4.length = g7 := by rw [← l7, List.take_append_of_le_length (Nat.le_refl _), List.take_length]
  rw [e8] at o7
  have b7 := box_take b6 (n := g4.length) b4.lt
  rw [e8] at b7
  obtain ⟨ss, rfl, ps⟩ := perm_strs (rs := rs) (l := (List.range (1 + sz)).map (nm st sp)) (by rw [List.map_map]; exact pm)
  have on := o1.trans (o4.trans o7)
  refine ⟨ss, g7, ?_, crew_of h1 (by omega) (by omega) (by omega) hsp ps, b7.mono (by simp; omega), on⟩
  rw [crew_run rfl e1 e2 e3 hsi (by omega) (by omega) ek hv hw hgp (eq_false (by omega)) (by rw [hgs]; exact e6)]
  exact leave_two hb b7 on
end DL
set_option maxHeartbeats 400000
namespace DL
open PySem L2
local macro_rules | `(tactic| walk_at "dl") => `(tactic| simp (config := { dsimp := false }) only [↓fnM_e, ↓sSeq_e, seqK_nx, seqK_rt, seqK_bk, seqK_ct, retK_rt, retK_nx, ↓sFrz_e, frK_some, ↓sAsg, ↓sRet, ↓sRetN, ↓sIf, ↓sExpr, ↓sSkip, ↓sNever, ↓sPar, ↓sFor, ↓sSub, ↓fVar, ↓fC, ↓fNil, ↓fCons, ↓fA, ↓f1, ↓f2, ↓fB, ↓fIf, ↓fNeg, ↓fNot, ↓fAnd, ↓fOr, ↓bNot, ↓bAnd, ↓bOr, ↓bYes, ↓obnd_x, ob_some, ↓sbnd_x, sb_some, ↓ite_x, iteK_t, iteK_f, gN, gT, gC, gE, ↓rng1I, ↓rng2I, ↓seqI, ↓enumA, ↓zipI, ↓strI, ↓fLc, ↓fDc, ↓fM, ↓fSl, ↓oNone, ↓oSome, ↓fRev, wipeE, ↓kwM, permM, permL, List.foldr, List.length_cons, List.length_nil, List.map_cons, List.map_nil, List.cons_append, List.nil_append, List.replicate, List.replicate_succ, List.replicate_zero, List.getElem?_cons_zero, List.getElem?_cons_succ, List.set_cons_zero, List.set_cons_succ, if_true, if_false, reduceIte, Nat.reduceAdd, Nat.reduceSub, Nat.reduceEqDiff, Nat.reduceLT, Nat.reduceLeDiff, Int.reduceLT, Int.reduceLE, Int.reduceNeg, Int.reduceMul, Int.reduceAdd, Int.reduceSub, Int.reduceToNat, Int.reducePow, Int.reduceEq, ok, bok, deref, mkL, lstW, tupW, dats, Option.map_some, appendW, insertW, setL, isL, listW, tupleW, lenW, absW, intC, maxW, minW, idxW, addW, subW_e, modW_e, divW_e, powW_e, mulW, intW, lt_e, gt_e, le_e, ge_e, ltW, allW_e, anyW_e, sumW_e, lW, setW, lstAt, cutW, backW, isW, isiW, iLT_none, iLT_bool, iLT_int, iLT_str, iLT_list, iLT_tup, iL_none, iL_bool, iL_int, iL_str, iL_list, iL_tup, iT_none, iT_bool, iT_int, iT_str, iT_list, iT_tup, iS_none, iS_bool, iS_int, iS_str, iS_list, iS_tup, iI_none, iI_bool, iI_int, iI_str, iI_list, iI_tup, iB_none, iB_bool, iB_int, iB_str, iB_list, iB_tup, Bool.false_eq_true, reduceCtorEq, Bool.not_true, Bool.not_false, decide_true, decide_false, List.zip_cons_cons, List.zip_nil_left, List.foldl_cons, List.foldl_nil, and_self, and_true, true_and, Bool.and_true, Bool.true_and, Bool.or_true, Bool.true_or, *])
/-! ### _law_same of a thing and itself -/
theorem zipD_self : ∀ ds : List D, zipD ds ds = ds.map fun d => .tuple [d, d]
  | [] => rfl
  | d :: ds => by rw [zipD, zipD_self ds]; rfl
theorem bools_true : ∀ n : Nat, bools (List.replicate n (.bool true)) = some (List.replicate n true)
  | 0 => rfl
  | n + 1 => by rw [List.replicate_succ, bools, bools_true n]; rfl
theorem all_true (n : Nat) : (List.replicate n true).all id = true := by induction n with
  | zero => rfl
  | succ n ih => rw [List.replicate_succ, List.all_cons, ih]; rfl
theorem eqS_bool (b : Bool) : eqS (.bool b) (.bool b) = some true := by simp [eqS]
theorem eqS_self_str (b : Str) : eqS (.str b) (.str b) = some true := by simp [eqS]
theorem eqS_self_int (b : Int) : eqS (.int b) (.int b) = some true := by simp [eqS]
theorem eqW_same {neg : Bool} {d : D} {h : Hh} (e : eqS d d = some true) : eqW neg (.dat d) (.dat d) h = bok (!neg) h := by
  unfold eqW
  simp only [deref, e]
  cases neg <;> rfl
theorem all_same {g : D → D} (ds : List D) (H : ∀ d ∈ ds, g (.tuple [d, d]) = .bool true) : (ds.map (fun d => PyData.tuple [d, d])).map g = List.replicate ds.length (.bool true) := by
  rw [List.map_map]
  apply List.eq_replicate_iff.mpr
  refine ⟨by simp, fun b hb => ?_⟩
  obtain ⟨d, hd, rfl⟩ := List.mem_map.mp hb
  exact H d hd
mutual
def plainD : D → Bool
  | .dict _ => false
  | .list ds => plainDs ds && decide (ds.length ≤ sizeLine)
  | .tuple ds => plainDs ds && decide (ds.length ≤ sizeLine)
  | _ => true
def plainDs : List D → Bool
  | [] => true
  | d :: ds => plainD d && plainDs ds
end
theorem plainDs_mem : ∀ {ds : List D} {d : D}, plainDs ds = true → d ∈ ds → plainD d = true
  | _ :: _, _, h, .head _ => by rw [plainDs, Bool.and_eq_true] at h; exact h.1
  | _ :: ds, _, h, .tail _ m => by rw [plainDs, Bool.and_eq_true] at h; exact plainDs_mem h.2 m
theorem depthAll_mem : ∀ {ds : List D} {d : D}, d ∈ ds → d.depth ≤ PyData.depthAll ds
  | _ :: _, _, .head _ => by rw [PyData.depthAll]; exact Nat.le_max_left _ _
  | _ :: ds, _, .tail _ m => by rw [PyData.depthAll]; exact Nat.le_trans (depthAll_mem m) (Nat.le_max_right _ _)
theorem same_seq {n : Nat} {ds : List D} {h : Hh} (ih : ∀ d ∈ ds, m__law_same n [.dat d, .dat d] h = some (.dat (.bool true), h)) (v1 v2 : Option W) (hl : ds.length ≤ sizeLine) :
    lcL (gT 2 (gC (gN 2) (gC (gN 3) (gE)))) (bYes) (fA (m__law_same n) (fCons (fVar 2) (fCons (fVar 3) (fNil)))) [v1, v2, none, none] (zipD ds ds) h = some (List.replicate ds.length (.bool true), h) := by
  rw [zipD_self]
  rw [lcL_all (fun _ => .bool true) (ds := ds.map fun d => .tuple [d, d]) (fun d' hd' => ?_)]
  · rw [List.map_map]
    congr 2
    apply List.eq_replicate_iff.mpr
    exact ⟨by simp, fun b hb => by obtain ⟨d, hd, rfl⟩ := List.mem_map.mp hb; rfl⟩
  · obtain ⟨d, hd, rfl⟩ := List.mem_map.mp hd'
    have e := ih d hd
    refine ⟨[v1, v2, some (.dat d), some (.dat d)], ?_, rfl, ?_⟩
    · walk_at "dl"
    · walk_at "dl"
theorem callD_two (d : D) : callD [d, d] = false := by
  by_cases h : ∃ a b : Str, d = .tuple [.str a, .str b]
  · obtain ⟨a, b, rfl⟩ := h
    simp [callD, pairD, rowD, prTx, rowS]
  · by_cases h' : ∃ a : Str, d = .str a
    · obtain ⟨a, rfl⟩ := h'
      simp [callD, pairD, rowD, prTx, rowS]
    · exact callD_not _ (fun a b e => h ⟨a, b, e⟩) fun a e => h' ⟨a, e⟩
theorem zipOk_refl : ∀ ds : List D, zipOk ds ds = true
  | [] => rfl
  | d :: ds => by
    have ih := zipOk_refl ds
    unfold zipOk at ih ⊢
    simp only [zipD, List.all_cons, ih, notCall, callD_two]
    rfl
theorem zipOk_fst : ∀ (xs ys : List D), (∀ d ∈ xs, ∀ a b : Str, d ≠ .tuple [.str a, .str b]) → (∀ d ∈ xs, ∀ a : Str, d ≠ .str a) → zipOk xs ys = true
  | [], _, _, _ => rfl
  | _ :: _, [], _, _ => rfl
  | d :: xs, y :: ys, h, h' => by
    have ih := zipOk_fst xs ys (fun z hz => h z (List.mem_cons_of_mem _ hz)) fun z hz => h' z (List.mem_cons_of_mem _ hz)
    unfold zipOk at ih ⊢
    simp only [zipD, List.all_cons, ih, notCall, callD_not _ (h d List.mem_cons_self) (h' d List.mem_cons_self)]
    rfl
theorem zipOk_int {α : Type} (f : α → Int) (l : List α) (ys : List D) : zipOk (l.map fun x => .int (f x)) ys = true := zipOk_fst _ _ (fun d hd a b e => by
  obtain ⟨x, _, rfl⟩ := List.mem_map.mp hd
  cases e) fun d hd a e => by
  obtain ⟨x, _, rfl⟩ := List.mem_map.mp hd
  cases e
theorem same_refl : ∀ (n : Nat) (d : D) (h : Hh), plainD d = true → d.depth < n → m__law_same n [.dat d, .dat d] h = some (.dat (.bool true), h)
  | 0, _, _, _, hd => by omega
  | n + 1, d, h, hp, hd => by
    have tk : leave false h (.dat (.bool true)) h = some (.dat (.bool true), h) := leave_same'
    have e0 := fun b : Bool => eqW_same (neg := true) (h := h) (eqS_bool b)
    have e1 := fun b : Bool => eqW_same (neg := false) (h := h) (eqS_bool b)
    cases d with
    | none => 
      unfold m__law_same
      have e2 : eqW false (.dat .none) (.dat .none) h = bok true h := eqW_same rfl
      walk_at "dl"
    | bool b =>
      unfold m__law_same
      walk_at "dl"
    | int i =>
      unfold m__law_same
      have e2 := eqW_same (neg := false) (h := h) (eqS_self_int i)
      walk_at "dl"
    | str s =>
      unfold m__law_same
      have e2 := eqW_same (neg := false) (h := h) (eqS_self_str s)
      walk_at "dl"
    | list ds =>
      unfold m__law_same
      simp only [plainD, Bool.and_eq_true, decide_eq_true_eq] at hp
      simp only [PyData.depth] at hd
      have hl : ds.length ≤ sizeLine := hp.2
      have ez := zipOk_refl ds
      have e3 := same_seq (n := n) (ds := ds) (h := h) (fun d hd' => same_refl n d h (plainDs_mem hp.1 hd') (by have := depthAll_mem hd'; omega)) (some (.dat (.list ds))) (some (.dat (.list ds))) hl
      have e2 := eqW_same (neg := true) (h := h) (eqS_self_int (ds.length : Int))
      have e4 := bools_true ds.length
      have e5 := all_true ds.length
      have e6 : (List.replicate ds.length (PyData.bool true)).length ≤ sizeLine := by simpa using hl
      clear hd hp
      walk_at "dl"
    | tuple ds =>
      unfold m__law_same
      simp only [plainD, Bool.and_eq_true, decide_eq_true_eq] at hp
      simp only [PyData.depth] at hd
      have hl : ds.length ≤ sizeLine := hp.2
      have ez := zipOk_refl ds
      have e3 := same_seq (n := n) (ds := ds) (h := h) (fun d hd' => same_refl n d h (plainDs_mem hp.1 hd') (by have := depthAll_mem hd'; omega)) (some (.dat (.tuple ds))) (some (.dat (.tuple ds))) hl
      have e2 := eqW_same (neg := true) (h := h) (eqS_self_int (ds.length : Int))
      have e4 := bools_true ds.length
      have e5 := all_true ds.length
      have e6 : (List.replicate ds.length (PyData.bool true)).length ≤ sizeLine := by simpa using hl
      clear hd hp
      walk_at "dl"
    | dict es => simp [plainD] at hp

/-! ### the law's own frame -/
theorem forL_end {k : TM} {body : SM} (I : Nat → Env → Hh → Prop) {ds : List D} {ρ : Env} {h : Hh} (i : I 0 ρ h) (H : ∀ (j : Nat) (d : D), ds[j]? = some d → ∀ ρ h, I j ρ h → ∃ ρ1 ρ2 h2, k (.dat d) ρ h = some ρ1 ∧ body ρ1 h = some (.nx ρ2, h2) ∧ I (j + 1) ρ2 h2) :
    ∃ ρ' h', forL k body ds ρ h = some (.nx ρ', h') ∧ I ds.length ρ' h' := by
  have := forL_inv (k := k) (body := body) I (ds := ds) (n := 0) i fun j d e ρ h q => by
    have := H j d e ρ h (by rw [Nat.zero_add] at q; exact q)
    rw [Nat.zero_add]; exact this
  rw [Nat.zero_add] at this
  exact this
/-- a new box -/
theorem leave_ref {h : Hh} {ds : List D} : leave true h (.ref h.length) (h ++ [some (.lst ds)]) = some (.ref h.length, h ++ [some (.lst ds)]) := by
  have e : (h ++ [some (MO.lst ds)]).take h.length = h := by rw [List.take_append_of_le_length (Nat.le_refl _), List.take_length]
  have e2 : (h ++ [some (MO.lst ds)])[h.length]? = some (some (.lst ds)) := by rw [List.getElem?_append_right (Nat.le_refl _)]; simp
  unfold leave
  rw [e, if_pos rfl]
  simp only [Nat.lt_irrefl, if_false, e2, if_true]
theorem box_run {ns : List Int} {k cell a : Int} {z : Bool} {h : Hh} (hc : (decide (k < (ns.length : Int)) = true ∧ L2.atI ns k = some cell) ∨ (decide (k < (ns.length : Int)) = false ∧ cell = 0)) (ha : (if cell < 0 then -cell else cell) = a) (hz : decide (1000000000000000000 ≤ a) = z) :
    m__law_box [.scr ns, .dat (.int k)] h = some (.ref h.length, h ++ [some (.lst [.int (a * (if z = true then 1 else 0)), .int (cell % 2147483629 + 7919 * k + 11), .int 0])]) := by
  have c7 : 3 ≤ sizeLine := by decide
  have hna : Int.natAbs 10 < 18446744073709551616 := by decide
  have lv := leave_ref (h := h) (ds := [.int (a * (if z = true then 1 else 0)), .int (cell % 2147483629 + 7919 * k + 11), .int 0])
  unfold m__law_box
  rcases hc with ⟨h1, h2⟩ | ⟨h1, rfl⟩
  · cases z with
    | true => walk_at "dl"; exact leave_ref
    | false => walk_at "dl"; exact leave_ref
  · have e0 : a = 0 := by rw [← ha]; rfl
    subst e0
    have e1 : z = false := by rw [← hz]; rfl
    subst e1
    clear hz ha
    walk_at "dl"
    exact leave_ref
theorem box_new {ns : List Int} {k : Int} {h : Hh} (hk : 0 ≤ k) (hk2 : k < 100) :
    ∃ d s : Int, m__law_box [.scr ns, .dat (.int k)] h = some (.ref h.length, h ++ [some (.lst [.int d, .int s, .int 0])]) ∧ 0 ≤ d ∧ 0 ≤ s ∧ s < 1099511627776 := by
  obtain ⟨cell, hc⟩ : ∃ cell : Int, (decide (k < (ns.length : Int)) = true ∧ L2.atI ns k = some cell) ∨ (decide (k < (ns.length : Int)) = false ∧ cell = 0) := by
    by_cases h1 : k < (ns.length : Int)
    · have h2 : k.toNat < ns.length := by omega
      refine ⟨ns[k.toNat], .inl ⟨by simpa using h1, ?_⟩⟩
      have := atI_nat (xs := ns) (j := k.toNat) (List.getElem?_eq_getElem h2)
      rwa [show ((k.toNat : Nat) : Int) = k by omega] at this
    · exact ⟨0, .inr ⟨by simpa using h1, rfl⟩⟩
  refine ⟨_, _, box_run hc rfl rfl, ?_, by omega, by omega⟩
  split <;> split <;> omega
/-- law(script): so many turns for each of up to three boxes -/
noncomputable def lawM (T : Int) (right : FM) : FM := fnM false 1 4 (sSeq (sFor (rng1I (fCons (fA maxW (fCons (fC (.int 1)) (fCons (fA minW (fCons (fC (.int 3)) (fCons (fA lenW (fCons (fVar 0) (fNil))) (fNil)))) (fNil)))) (fNil))) (gN 1)
    (sSeq (sAsg (fA (m__law_box) (fCons (fVar 0) (fCons (fVar 1) (fNil)))) (gN 2))
    (sIf (bNot (fB (fA allW (fCons (fLc false (rng1I (fCons (fC (.int T)) (fNil))) (gN 3) (bYes) (fA right (fCons (fVar 2) (fNil))) [3]) (fNil))))) (sRet (fC (.bool false))) (sSkip))))
    (sRet (fC (.bool true))))
theorem bools_all : ∀ {rs : List D}, (∀ r ∈ rs, r = .bool true) → rs = List.replicate rs.length (.bool true)
  | [], _ => rfl
  | r :: rs, h => by
    rw [List.length_cons, List.replicate_succ, ← bools_all fun x hx => h x (List.mem_cons_of_mem _ hx), ← h r List.mem_cons_self]
theorem law_turn {T : Int} {t : Nat} (hT : T.toNat = t) (T0 : -1000000000 ≤ T) (T1 : T ≤ 1000000000) (T2 : t ≤ sizeLine) {right : FM} {cost : Nat} (hr : ∀ (h : Hh) (b c : Nat), BoxAt h b c → c ≤ t * cost → ∃ h', right [.ref b] h = some (.dat (.bool true), h') ∧ BoxAt h' b (c + cost) ∧ Only b h h') {ns : List Int} {k : Int} (k0 : 0 ≤ k) (k1 : k < 100) (v2 v3 : Option W) (h : Hh) :
    ∃ ρ' h', (sSeq (sAsg (fA (m__law_box) (fCons (fVar 0) (fCons (fVar 1) (fNil)))) (gN 2))
    (sIf (bNot (fB (fA allW (fCons (fLc false (rng1I (fCons (fC (.int T)) (fNil))) (gN 3) (bYes) (fA right (fCons (fVar 2) (fNil))) [3]) (fNil))))) (sRet (fC (.bool false))) (sSkip))) [some (.scr ns), some (.dat (.int k)), v2, v3] h = some (.nx ρ', h') ∧ ∃ w2, ρ' = [some (.scr ns), some (.dat (.int k)), w2, v3] := by
  obtain ⟨d, s, e, hd, hs, hs2⟩ := box_new (ns := ns) (h := h) k0 k1
  have hb : BoxAt (h ++ [some (.lst [.int d, .int s, .int 0])]) h.length 0 := ⟨d, s, 0, by simp, hd, hs, hs2, by omega, by omega⟩
  obtain ⟨rs, h', e2, hl, hall, _⟩ := lcL_inv (k := gN 3) (f := fA right (fCons (fVar 2) (fNil))) (ρ := [some (.scr ns), some (.dat (.int k)), some (.ref h.length), none])
    (fun n g => BoxAt g h.length (n * cost)) (fun _ d => d = .bool true) (ds := rngD 0 T.toNat) (n := 0) (h := h ++ [some (.lst [.int d, .int s, .int 0])]) (by rw [Nat.zero_mul]; exact hb) (by
      intro j d' ej g hi
      rw [Nat.zero_add] at hi ⊢
      have hj := (rng_get ej).1
      obtain ⟨g', e3, b3, _⟩ := hr g h.length _ hi (Nat.mul_le_mul_right _ (by omega))
      refine ⟨[some (.scr ns), some (.dat (.int k)), some (.ref h.length), some (.dat d')], .bool true, g', rfl, ?_, rfl, by rw [Nat.succ_mul]; exact b3⟩
      walk_at "dl")
  have er : rs = List.replicate rs.length (.bool true) := bools_all fun r hr => by
    obtain ⟨j, hj, rfl⟩ := List.getElem_of_mem hr
    exact hall j _ (List.getElem?_eq_getElem hj)
  have hl' : rs.length = t := by rw [hl, rng_len, hT]
  rw [hl'] at er
  subst er
  have e4 := bools_true t
  have e5 := all_true t
  have e6 : (List.replicate t (PyData.bool true)).length ≤ sizeLine := by rw [List.length_replicate]; exact T2
  refine ⟨[some (.scr ns), some (.dat (.int k)), some (.ref h.length), v3], h', ?_, _, rfl⟩
  clear hall hl hl' hb hr
  rw [hT] at e2
  walk_at "dl"
theorem law_ok {T : Int} {t : Nat} (hT : T.toNat = t) (T0 : -1000000000 ≤ T) (T1 : T ≤ 1000000000) (T2 : t ≤ sizeLine) {right : FM} {cost : Nat} (hr : ∀ (h : Hh) (b c : Nat), BoxAt h b c → c ≤ t * cost → ∃ h', right [.ref b] h = some (.dat (.bool true), h') ∧ BoxAt h' b (c + cost) ∧ Only b h h') (ns : List Int) (hn : ns.length ≤ 63) :
    ∃ h', lawM T right [.scr ns] [] = some (.dat (.bool true), h') := by
  obtain ⟨m, hm, m0, m1⟩ : ∃ m : Int, (if (if (ns.length : Int) < 3 then (ns.length : Int) else 3) > 1 then (if (ns.length : Int) < 3 then (ns.length : Int) else 3) else 1) = m ∧ 0 ≤ m ∧ m ≤ 3 := ⟨_, rfl, by split <;> split <;> omega, by split <;> split <;> omega⟩
  obtain ⟨ρ', h', e, w1, w2, w3, rfl⟩ := forL_end (k := gN 1) (body := (sSeq (sAsg (fA (m__law_box) (fCons (fVar 0) (fCons (fVar 1) (fNil)))) (gN 2))
    (sIf (bNot (fB (fA allW (fCons (fLc false (rng1I (fCons (fC (.int T)) (fNil))) (gN 3) (bYes) (fA right (fCons (fVar 2) (fNil))) [3]) (fNil))))) (sRet (fC (.bool false))) (sSkip)))) (fun _ ρ _ => ∃ w1 w2 w3, ρ = [some (.scr ns), w1, w2, w3]) (ds := rngD 0 m.toNat) (ρ := [some (.scr ns), none, none, none]) (h := []) ⟨none, none, none, rfl⟩ (by
      intro j d ej ρ h hi
      obtain ⟨w1, w2, w3, rfl⟩ := hi
      obtain ⟨hj, rfl⟩ := rng_get ej
      obtain ⟨ρ', h', e, w2', rfl⟩ := law_turn hT T0 T1 T2 hr (ns := ns) (k := j) (by omega) (by omega) w2 w3 h
      exact ⟨_, _, h', rfl, e, _, _, _, rfl⟩)
  refine ⟨[], ?_⟩
  have b0 : -1000000000 ≤ m := by omega
  have b1 : m ≤ 1000000000 := by omega
  have lv : leave false [] (.dat (.bool true)) h' = some (.dat (.bool true), []) := rfl
  unfold lawM
  clear hr m0 m1 T0 T1 T2
  walk_at "dl"
end DL
set_option maxHeartbeats 400000
namespace DL
open PySem L2
local macro_rules | `(tactic| walk_at "dl") => `(tactic| simp (config := { dsimp := false }) only [↓fnM_e, ↓sSeq_e, seqK_nx, seqK_rt, seqK_bk, seqK_ct, retK_rt, retK_nx, ↓sFrz_e, frK_some, ↓sAsg, ↓sRet, ↓sRetN, ↓sIf, ↓sExpr, ↓sSkip, ↓sNever, ↓sPar, ↓sFor, ↓sSub, ↓fVar, ↓fC, ↓fNil, ↓fCons, ↓fA, ↓f1, ↓f2, ↓fB, ↓fIf, ↓fNeg, ↓fNot, ↓fAnd, ↓fOr, ↓bNot, ↓bAnd, ↓bOr, ↓bYes, ↓obnd_x, ob_some, ↓sbnd_x, sb_some, ↓ite_x, iteK_t, iteK_f, gN, gT, gC, gE, ↓rng1I, ↓rng2I, ↓seqI, ↓enumA, ↓zipI, ↓strI, ↓fLc, ↓fDc, ↓fM, ↓fSl, ↓oNone, ↓oSome, ↓fRev, wipeE, ↓kwM, permM, permL, List.foldr, List.length_cons, List.length_nil, List.map_cons, List.map_nil, List.cons_append, List.nil_append, List.replicate, List.replicate_succ, List.replicate_zero, List.getElem?_cons_zero, List.getElem?_cons_succ, List.set_cons_zero, List.set_cons_succ, if_true, if_false, reduceIte, Nat.reduceAdd, Nat.reduceSub, Nat.reduceEqDiff, Nat.reduceLT, Nat.reduceLeDiff, Int.reduceLT, Int.reduceLE, Int.reduceNeg, Int.reduceMul, Int.reduceAdd, Int.reduceSub, Int.reduceToNat, Int.reducePow, Int.reduceEq, ok, bok, deref, mkL, lstW, tupW, dats, Option.map_some, appendW, insertW, setL, isL, listW, tupleW, lenW, absW, intC, maxW, minW, idxW, addW, subW_e, modW_e, divW_e, powW_e, mulW, intW, lt_e, gt_e, le_e, ge_e, ltW, allW_e, anyW_e, sumW_e, lW, setW, lstAt, cutW, backW, isW, isiW, iLT_none, iLT_bool, iLT_int, iLT_str, iLT_list, iLT_tup, iL_none, iL_bool, iL_int, iL_str, iL_list, iL_tup, iT_none, iT_bool, iT_int, iT_str, iT_list, iT_tup, iS_none, iS_bool, iS_int, iS_str, iS_list, iS_tup, iI_none, iI_bool, iI_int, iI_str, iI_list, iI_tup, iB_none, iB_bool, iB_int, iB_str, iB_list, iB_tup, Bool.false_eq_true, reduceCtorEq, Bool.not_true, Bool.not_false, decide_true, decide_false, List.zip_cons_cons, List.zip_nil_left, List.foldl_cons, List.foldl_nil, and_self, and_true, true_and, Bool.and_true, Bool.true_and, Bool.or_true, Bool.true_or, *])
/-! ### sorted texts -/
/-- plain small texts -/
def TxtOk (s : Str) : Prop := s.length ≤ 100 ∧ ∀ c ∈ s.cps.toList, c < 128
theorem TxtOk.ok {s : Str} (h : TxtOk s) : PyData.strOk s = true := by
  unfold PyData.strOk
  rw [Array.all_eq_true']
  intro c hc
  have := h.2 c (by simpa using hc)
  simp; omega
abbrev Txts (l : List Str) : Prop := ∀ s ∈ l, TxtOk s
theorem nm_ok {st sp a : Nat} : TxtOk (nm st sp a) := by
  refine ⟨?_, fun c hc => ?_⟩
  · unfold nm
    rw [len_app]
    have := sfx_le (a % 2 * (1 + st % 2))
    show 1 + _ ≤ _
    omega
  · rw [nm_cps] at hc
    rcases List.mem_cons.mp hc with rfl | hc
    · omega
    · generalize a % 2 * (1 + st % 2) = k at hc
      match k, hc with
      | 0, hc => rw [sfx_len.1] at hc; cases hc
      | 1, hc => rw [sfx_len.2.1] at hc; simp at hc; omega
      | _ + 2, hc => 
        have hc' : c ∈ (sfx 2).cps.toList := hc
        rw [sfx_len.2.2] at hc'; simp at hc'; omega
theorem Crew.txts {most : Nat} {rs : List Str} (h : Crew most rs) : Txts rs := fun s hs => by
  obtain ⟨st, sp, a, _, _, rfl⟩ := h.nam s hs
  exact nm_ok
theorem Txts.perm {l m : List Str} (h : Txts l) (p : m.Perm l) : Txts m := fun s hs => h s (p.mem_iff.mp hs)
def leS (a b : Str) : Bool := decide (a.cps.toList ≤ b.cps.toList)
theorem leS_trans (a b c : Str) (h1 : leS a b = true) (h2 : leS b c = true) : leS a c = true := by
  unfold leS at *
  simp only [decide_eq_true_eq] at *
  exact List.le_trans h1 h2
theorem leS_total (a b : Str) : (leS a b || leS b a) = true := by
  unfold leS
  simp only [Bool.or_eq_true, decide_eq_true_eq]
  exact List.le_total _ _
theorem leS_antisymm {a b : Str} (h1 : leS a b = true) (h2 : leS b a = true) : a = b := by
  unfold leS at *
  simp only [decide_eq_true_eq] at *
  exact str_ext (List.le_antisymm h1 h2)
def sortS (l : List Str) : List Str := l.mergeSort leS
theorem sortS_perm (l : List Str) : (sortS l).Perm l := List.mergeSort_perm _ _
theorem sortS_pw (l : List Str) : (sortS l).Pairwise fun a b => leS a b = true := List.pairwise_mergeSort leS_trans leS_total l
theorem sortS_eq {a b : List Str} (h : a.Perm b) : sortS a = sortS b :=
  List.Perm.eq_of_pairwise (fun x y _ _ h1 h2 => leS_antisymm h1 h2) (sortS_pw a) (sortS_pw b) ((sortS_perm a).trans (h.trans (sortS_perm b).symm))
theorem sortD_strs (l : List Str) : sortD (l.map .str) = (sortS l).map .str := by
  unfold sortD sortS
  have e := PySem.W.dataLe_str (fun s : Str => s)
  rw [← PySem.W.sort_maps (r := leS) (s := PySem.W.dataLe false fun d : D => d) (fun s : Str => (.str s : D)) (l := l) fun a _ b _ => ?_]
  have := congrFun (congrFun e a) b
  unfold leS
  rw [← this]
  rfl
theorem alike_strs (l : List Str) : (l.map PyData.str).all (fun d => (l.map PyData.str).all fun e => PySem.W.alike d e) = true := by
  rw [List.all_eq_true]
  intro d hd
  rw [List.all_eq_true]
  intro e he
  obtain ⟨a, _, rfl⟩ := List.mem_map.mp hd
  obtain ⟨b, _, rfl⟩ := List.mem_map.mp he
  rfl
theorem shp_strs {l : List Str} (ht : Txts l) : (l.map PyData.str).all shp = true := by
  rw [List.all_eq_true]
  intro d hd
  obtain ⟨a, ha, rfl⟩ := List.mem_map.mp hd
  simp [shp, PyData.canLay0, PyData.depth, (ht a ha).ok]
theorem sortable_strs {l : List Str} (ht : Txts l) : sortable (l.map .str) = true := by
  unfold sortable
  rw [alike_strs, shp_strs ht]
  simp only [Bool.true_and, Bool.and_true, Bool.or_eq_true]
  right
  rw [List.all_eq_true]
  intro d hd
  obtain ⟨a, _, rfl⟩ := List.mem_map.mp hd
  rfl
abbrev IsSeq (x : D) (ds : List D) : Prop := x = .list ds ∨ x = .tuple ds
theorem sortW_strs {x : D} {l : List Str} {h : Hh} (hx : IsSeq x (l.map .str)) (ht : Txts l) : sortW false [.dat x] h = some (.dat (.list ((sortS l).map .str)), h) := by
  have e := sortD_strs l
  have e2 := sortable_strs ht
  clear ht
  rcases hx with rfl | rfl <;> (unfold sortW; walk_at "dl")
theorem canLay_strs : ∀ {l : List Str}, Txts l → PyData.canLayAll0 (l.map .str) = true
  | [], _ => rfl
  | s :: l, h => by rw [List.map_cons, PyData.canLayAll0, canLay_strs fun t ht => h t (List.mem_cons_of_mem _ ht)]; simp [PyData.canLay0, (h s List.mem_cons_self).ok]
theorem depth_strs : ∀ l : List Str, PyData.depthAll (l.map .str) = 0
  | [] => rfl
  | s :: l => by rw [List.map_cons, PyData.depthAll, depth_strs l]; simp [PyData.depth]
theorem shp_list {l : List Str} (ht : Txts l) : shp (.list (l.map .str)) = true := by
  unfold shp
  rw [PyData.canLay0, canLay_strs ht, PyData.depth, depth_strs]
  rfl
theorem eqW_list {neg : Bool} {ds : List D} {h : Hh} (hs : shp (.list ds) = true) : eqW neg (.dat (.list ds)) (.dat (.list ds)) h = some (.dat (.bool (!neg)), h) := by
  have e : PyData.eqv (.list ds) (.list ds) = true := SeqAt.eqv_refl _ (SeqAt.canLay_of_shaped hs)
  unfold eqW
  simp only [deref, eqS, hs, e, Bool.and_self, if_true]
  cases neg <;> rfl
theorem look_alike_ok {x y : D} {l m : List Str} {h : Hh} (hx : IsSeq x (l.map .str)) (hy : IsSeq y (m.map .str)) (p : l.Perm m) (ht : Txts l) : m_look_alike [.dat x, .dat y] h = some (.dat .none, h) := by
  have e1 := sortW_strs (h := h) hx ht
  have e2 := sortW_strs (h := h) hy (ht.perm p.symm)
  rw [← sortS_eq p] at e2
  have e3 := eqW_list (neg := true) (h := h) (shp_list (ht.perm (sortS_perm l)))
  have lv := leave_same' (h := h) (d := .none)
  unfold m_look_alike
  clear hx hy p ht
  walk_at "dl"
end DL
set_option maxHeartbeats 400000
namespace DL
open PySem L2
local macro_rules | `(tactic| walk_at "dl") => `(tactic| simp (config := { dsimp := false }) only [↓fnM_e, ↓sSeq_e, seqK_nx, seqK_rt, seqK_bk, seqK_ct, retK_rt, retK_nx, ↓sFrz_e, frK_some, ↓sAsg, ↓sRet, ↓sRetN, ↓sIf, ↓sExpr, ↓sSkip, ↓sNever, ↓sPar, ↓sFor, ↓sSub, ↓fVar, ↓fC, ↓fNil, ↓fCons, ↓fA, ↓f1, ↓f2, ↓fB, ↓fIf, ↓fNeg, ↓fNot, ↓fAnd, ↓fOr, ↓bNot, ↓bAnd, ↓bOr, ↓bYes, ↓obnd_x, ob_some, ↓sbnd_x, sb_some, ↓ite_x, iteK_t, iteK_f, gN, gT, gC, gE, ↓rng1I, ↓rng2I, ↓seqI, ↓enumA, ↓zipI, ↓strI, ↓fLc, ↓fDc, ↓fM, ↓fSl, ↓oNone, ↓oSome, ↓fRev, wipeE, ↓kwM, permM, permL, List.foldr, List.length_cons, List.length_nil, List.map_cons, List.map_nil, List.cons_append, List.nil_append, List.replicate, List.replicate_succ, List.replicate_zero, List.getElem?_cons_zero, List.getElem?_cons_succ, List.set_cons_zero, List.set_cons_succ, if_true, if_false, reduceIte, Nat.reduceAdd, Nat.reduceSub, Nat.reduceEqDiff, Nat.reduceLT, Nat.reduceLeDiff, Int.reduceLT, Int.reduceLE, Int.reduceNeg, Int.reduceMul, Int.reduceAdd, Int.reduceSub, Int.reduceToNat, Int.reducePow, Int.reduceEq, ok, bok, deref, mkL, lstW, tupW, dats, Option.map_some, appendW, insertW, setL, isL, listW, tupleW, lenW, absW, intC, maxW, minW, idxW, addW, subW_e, modW_e, divW_e, powW_e, mulW, intW, lt_e, gt_e, le_e, ge_e, ltW, allW_e, anyW_e, sumW_e, lW, setW, lstAt, cutW, backW, isW, isiW, iLT_none, iLT_bool, iLT_int, iLT_str, iLT_list, iLT_tup, iL_none, iL_bool, iL_int, iL_str, iL_list, iL_tup, iT_none, iT_bool, iT_int, iT_str, iT_list, iT_tup, iS_none, iS_bool, iS_int, iS_str, iS_list, iS_tup, iI_none, iI_bool, iI_int, iI_str, iI_list, iI_tup, iB_none, iB_bool, iB_int, iB_str, iB_list, iB_tup, Bool.false_eq_true, reduceCtorEq, Bool.not_true, Bool.not_false, decide_true, decide_false, List.zip_cons_cons, List.zip_nil_left, List.foldl_cons, List.foldl_nil, and_self, and_true, true_and, Bool.and_true, Bool.true_and, Bool.or_true, Bool.true_or, *])
/-! ### rows -/
def plc : Nat → List Str → List (Str × D)
  | _, [] => []
  | k, s :: r => (s, .int (k : Int)) :: plc (k + 1) r
theorem plc_keys : ∀ (k : Nat) (r : List Str), (plc k r).map (·.1) = r
  | _, [] => rfl
  | k, s :: r => by rw [plc, List.map_cons, plc_keys (k + 1) r]
theorem plc_look : ∀ (k : Nat) (r : List Str) (s : Str), (plc k r).lookup s = if s ∈ r then some (.int ((k + r.idxOf s : Nat) : Int)) else none
  | _, [], s => rfl
  | k, t :: r, s => by
    rw [plc, List.lookup_cons]
    by_cases h : s = t
    · subst h
      simp
    · have h1 : (s == t) = false := by simpa using h
      have h2 : (t == s) = false := by simpa using fun z => h z.symm
      rw [h1, plc_look (k + 1) r s]
      simp only [List.mem_cons, h, false_or]
      by_cases hm : s ∈ r
      · simp only [hm, if_true, List.idxOf_cons, h2, cond_false]
        rw [show k + 1 + List.idxOf s r = k + (List.idxOf s r + 1) by omega]
      · simp only [hm, if_false]
def enP : D → Str × D
  | .tuple [i, .str s] => (s, i)
  | _ => ("", .none)
theorem enum_plc : ∀ (k : Nat) (r : List Str), (enumD k (r.map .str)).map enP = plc k r
  | _, [] => rfl
  | k, s :: r => by rw [List.map_cons, enumD, List.map_cons, enum_plc (k + 1) r]; rfl
theorem enum_mem : ∀ {k : Nat} {r : List Str} {d : D}, d ∈ enumD k (r.map .str) → ∃ (i : Nat) (s : Str), d = .tuple [.int (i : Int), .str s]
  | _, [], _, h => by cases h
  | k, s :: r, d, h => by
    rw [List.map_cons, enumD] at h
    rcases List.mem_cons.mp h with rfl | h
    · exact ⟨k, s, rfl⟩
    · exact enum_mem h
theorem places_ok {x : D} {r : List Str} {h : Hh} (hx : IsSeq x (r.map .str)) (nd : r.Nodup) (hl : r.length ≤ 1000) : m_places_of [.dat x] h = some (.dat (.dict (sdic (plc 0 r))), h) := by
  have e := dcL_sdic (k := gT 2 (gC (gN 1) (gC (gN 2) gE))) (fk := fVar 2) (fv := fVar 1) (ρ := [some (.dat x), none, none]) (h := h) enP (ds := enumD 0 (r.map .str)) (l := []) (by rw [List.nil_append, enum_plc, plc_keys]; exact nd)
    (by rw [List.nil_append, List.length_map, enumD_len, List.length_map]; exact Nat.le_trans hl (by decide)) (by
      intro d hd
      obtain ⟨i, s, rfl⟩ := enum_mem hd
      refine ⟨[some (.dat x), some (.dat (.int i)), some (.dat (.str s))], ?_, rfl, rfl⟩
      walk_at "dl")
  rw [List.nil_append, enum_plc] at e
  have e' : dcL (gT 2 (gC (gN 1) (gC (gN 2) gE))) bYes (fVar 2) (fVar 1) [some (.dat x), none, none] (enumD 0 (r.map .str)) [] h = some (sdic (plc 0 r), h) := e
  have lv := leave_same' (h := h) (d := .dict (sdic (plc 0 r)))
  unfold m_places_of
  clear nd hl e
  rcases hx with rfl | rfl <;> (walk_at "dl"; simp only [mkK, Bool.false_eq_true, if_false, obnd_some, retK_rt]; walk_at "dl")
theorem place_ok {x : D} {r : List Str} {s : Str} {h : Hh} (hx : IsSeq x (r.map .str)) (nd : r.Nodup) (hl : r.length ≤ 1000) (hs : s ∈ r) : m_place_of [.dat x, .dat (.str s)] h = some (.dat (.int (r.idxOf s : Int)), h) := by
  have e := places_ok (h := h) hx nd hl
  have e2 : getD (sdic (plc 0 r)) (.str s) = some (some (.int (r.idxOf s : Int))) := by rw [getD_sdic, plc_look, if_pos hs, Nat.zero_add]
  have e3 : inW true (.dat (.str s)) (.dat (.dict (sdic (plc 0 r)))) h = some (.dat (.bool false), h) := by
    unfold inW
    simp only [deref, e2]
    rfl
  have lv := leave_same' (h := h) (d := .int (r.idxOf s : Int))
  unfold m_place_of
  clear hx nd hl hs
  walk_at "dl"
theorem ahead_ok {x : D} {r : List Str} {s t : Str} {h : Hh} (hx : IsSeq x (r.map .str)) (nd : r.Nodup) (hl : r.length ≤ 1000) (hs : s ∈ r) (ht : t ∈ r) : m_is_ahead [.dat x, .dat (.str s), .dat (.str t)] h = some (.dat (.bool (decide (r.idxOf s < r.idxOf t))), h) := by
  have e := place_ok (h := h) hx nd hl hs
  have e2 := place_ok (h := h) hx nd hl ht
  have e3 : decide (((r.idxOf s : Nat) : Int) < ((r.idxOf t : Nat) : Int)) = decide (r.idxOf s < r.idxOf t) := by simp
  have lv := leave_same' (h := h) (d := .bool (decide (r.idxOf s < r.idxOf t)))
  unfold m_is_ahead
  clear hx nd hl hs ht
  walk_at "dl"
theorem turned_ok {x : D} {ds : List D} {h : Hh} (hx : IsSeq x ds) : m_turned [.dat x] h = some (.dat (.tuple ds.reverse), h) := by
  have lv := leave_same' (h := h) (d := .tuple ds.reverse)
  unfold m_turned
  rcases hx with rfl | rfl <;> walk_at "dl"
end DL
set_option maxHeartbeats 400000
namespace DL
open PySem L2
local macro_rules | `(tactic| walk_at "dl") => `(tactic| simp (config := { dsimp := false }) only [↓fnM_e, ↓sSeq_e, seqK_nx, seqK_rt, seqK_bk, seqK_ct, retK_rt, retK_nx, ↓sFrz_e, frK_some, ↓sAsg, ↓sRet, ↓sRetN, ↓sIf, ↓sExpr, ↓sSkip, ↓sNever, ↓sPar, ↓sFor, ↓sSub, ↓fVar, ↓fC, ↓fNil, ↓fCons, ↓fA, ↓f1, ↓f2, ↓fB, ↓fIf, ↓fNeg, ↓fNot, ↓fAnd, ↓fOr, ↓bNot, ↓bAnd, ↓bOr, ↓bYes, ↓obnd_x, ob_some, ↓sbnd_x, sb_some, ↓ite_x, iteK_t, iteK_f, gN, gT, gC, gE, ↓rng1I, ↓rng2I, ↓seqI, ↓enumA, ↓zipI, ↓strI, ↓fLc, ↓fDc, ↓fM, ↓fSl, ↓oNone, ↓oSome, ↓fRev, wipeE, ↓kwM, permM, permL, List.foldr, List.length_cons, List.length_nil, List.map_cons, List.map_nil, List.cons_append, List.nil_append, List.replicate, List.replicate_succ, List.replicate_zero, List.getElem?_cons_zero, List.getElem?_cons_succ, List.set_cons_zero, List.set_cons_succ, if_true, if_false, reduceIte, Nat.reduceAdd, Nat.reduceSub, Nat.reduceEqDiff, Nat.reduceLT, Nat.reduceLeDiff, Int.reduceLT, Int.reduceLE, Int.reduceNeg, Int.reduceMul, Int.reduceAdd, Int.reduceSub, Int.reduceToNat, Int.reducePow, Int.reduceEq, ok, bok, deref, mkL, lstW, tupW, dats, Option.map_some, appendW, insertW, setL, isL, listW, tupleW, lenW, absW, intC, maxW, minW, idxW, addW, subW_e, modW_e, divW_e, powW_e, mulW, intW, lt_e, gt_e, le_e, ge_e, ltW, allW_e, anyW_e, sumW_e, lW, setW, lstAt, cutW, backW, isW, isiW, iLT_none, iLT_bool, iLT_int, iLT_str, iLT_list, iLT_tup, iL_none, iL_bool, iL_int, iL_str, iL_list, iL_tup, iT_none, iT_bool, iT_int, iT_str, iT_list, iT_tup, iS_none, iS_bool, iS_int, iS_str, iS_list, iS_tup, iI_none, iI_bool, iI_int, iI_str, iI_list, iI_tup, iB_none, iB_bool, iB_int, iB_str, iB_list, iB_tup, Bool.false_eq_true, reduceCtorEq, Bool.not_true, Bool.not_false, decide_true, decide_false, List.zip_cons_cons, List.zip_nil_left, List.foldl_cons, List.foldl_nil, and_self, and_true, true_and, Bool.and_true, Bool.true_and, Bool.or_true, Bool.true_or, *])
/-! ### repr of plain small things -/
mutual
/-- texts, lists and tuples of such -/
def txD : D → Bool
  | .str s => decide (s.length ≤ 100) && s.cps.toList.all (· < 128)
  | .list ds => txDs ds
  | .tuple ds => txDs ds
  | .none => true
  | .bool _ => true
  | _ => false
def txDs : List D → Bool
  | [] => true
  | d :: ds => txD d && txDs ds
end
mutual
def costD : D → Nat
  | .str s => 10 * s.length + 2
  | .list ds => costDs ds + 3
  | .tuple ds => costDs ds + 3
  | _ => 5
def costDs : List D → Nat
  | [] => 0
  | d :: ds => costD d + 2 + costDs ds
end
theorem tx_str {s : Str} (h : TxtOk s) : txD (.str s) = true := by
  rw [txD]
  simp only [Bool.and_eq_true, decide_eq_true_eq, List.all_eq_true]
  exact ⟨h.1, fun c hc => h.2 c hc⟩
theorem str_tx {s : Str} (h : txD (.str s) = true) : TxtOk s := by
  rw [txD] at h
  simp only [Bool.and_eq_true, decide_eq_true_eq, List.all_eq_true] at h
  exact ⟨h.1, fun c hc => h.2 c hc⟩
theorem txDs_all : ∀ {ds : List D}, (∀ d ∈ ds, txD d = true) → txDs ds = true
  | [], _ => rfl
  | d :: ds, h => by rw [txDs, h d List.mem_cons_self, txDs_all fun e he => h e (List.mem_cons_of_mem _ he)]; rfl
theorem txDs_mem : ∀ {ds : List D} {d : D}, txDs ds = true → d ∈ ds → txD d = true
  | _ :: _, _, h, .head _ => by rw [txDs, Bool.and_eq_true] at h; exact h.1
  | _ :: ds, _, h, .tail _ m => by rw [txDs, Bool.and_eq_true] at h; exact txDs_mem h.2 m
theorem tx_strs {l : List Str} (h : Txts l) : txDs (l.map .str) = true := txDs_all fun d hd => by
  obtain ⟨s, hs, rfl⟩ := List.mem_map.mp hd
  exact tx_str (h s hs)
mutual
theorem tx_lay : ∀ {d : D}, txD d = true → d.canLay0 = true ∧ d.showable = true ∧ d.shown.length ≤ costD d
  | .none, _ => by refine ⟨by simp [PyData.canLay0], by simp [PyData.showable], ?_⟩; rw [PyData.shown, costD]; · decide +kernel
                   all_goals simp
  | .bool b, _ => by
    refine ⟨by simp [PyData.canLay0], by simp [PyData.showable], ?_⟩
    rw [PyData.shown, costD]
    · cases b <;> decide +kernel
    all_goals simp
  | .int _, h => by simp [txD] at h
  | .dict _, h => by simp [txD] at h
  | .str s, h => by
    have t := str_tx h
    refine ⟨by rw [PyData.canLay0]; exact t.ok, by simp [PyData.showable], ?_⟩
    rw [PyData.shown, costD]
    exact StrLaws.reprText_len s fun c hc => by have := t.2 c hc; omega
  | .list ds, h => by
    rw [txD] at h
    obtain ⟨h1, h2, h3⟩ := tx_lays h
    refine ⟨by rw [PyData.canLay0]; exact h1, by rw [PyData.showable]; exact h2, ?_⟩
    rw [PyData.shown, costD]
    exact Nat.le_trans (listText_len_le _) (by omega)
  | .tuple ds, h => by
    rw [txD] at h
    obtain ⟨h1, h2, h3⟩ := tx_lays h
    refine ⟨by rw [PyData.canLay0]; exact h1, by rw [PyData.showable]; exact h2, ?_⟩
    rw [PyData.shown, costD]
    exact Nat.le_trans (tupleText_len_le _) (by omega)
theorem tx_lays : ∀ {ds : List D}, txDs ds = true → PyData.canLayAll0 ds = true ∧ PyData.showableAll ds = true ∧ ((PyData.shownAll ds).map (·.length)).sum + 2 * (PyData.shownAll ds).length ≤ costDs ds
  | [], _ => ⟨rfl, rfl, Nat.le_refl _⟩
  | d :: ds, h => by
    rw [txDs, Bool.and_eq_true] at h
    obtain ⟨a1, a2, a3⟩ := tx_lay h.1
    obtain ⟨b1, b2, b3⟩ := tx_lays h.2
    refine ⟨by rw [PyData.canLayAll0, a1, b1]; rfl, by rw [PyData.showableAll, a2, b2]; rfl, ?_⟩
    rw [PyData.shownAll, costDs, List.map_cons, List.sum_cons, List.length_cons]
    omega
end
theorem repr_ok {d : D} {h : Hh} (hd : isDsp d = true) (ht : txD d = true) (hp : d.depth ≤ 64) (hc : costD d ≤ 16777216) : reprW [.dat d] h = some (.dat (.str d.shown), h) := by
  obtain ⟨h1, h2, h3⟩ := tx_lay ht
  have h4 : d.shown.length ≤ sizeLine := Nat.le_trans h3 hc
  have h5 : shp d = true := by unfold shp; rw [h1]; simpa using hp
  unfold reprW
  simp only [deref, hd, h5, h2, h4, Bool.and_self, decide_true, if_true]
  rfl
theorem cost_strs : ∀ {l : List Str}, Txts l → costDs (l.map .str) ≤ 1004 * l.length
  | [], _ => Nat.le_refl _
  | s :: l, h => by
    have h1 := (h s List.mem_cons_self).1
    have h2 := cost_strs fun t ht => h t (List.mem_cons_of_mem _ ht)
    rw [List.map_cons, costDs, costD, List.length_cons]
    omega
theorem repr_row {r : List Str} {h : Hh} (ht : Txts r) (hl : r.length ≤ 1000) : reprW [.dat (.tuple (r.map .str))] h = some (.dat (.str (PyData.tuple (r.map .str)).shown), h) := by
  apply repr_ok rfl
  · rw [txD]; exact tx_strs ht
  · rw [PyData.depth, depth_strs]; decide
  · rw [costD]
    have := cost_strs ht
    omega
end DL
set_option maxHeartbeats 400000
namespace DL
open PySem L2
local macro_rules | `(tactic| walk_at "dl") => `(tactic| simp (config := { dsimp := false }) only [↓fnM_e, ↓sSeq_e, seqK_nx, seqK_rt, seqK_bk, seqK_ct, retK_rt, retK_nx, ↓sFrz_e, frK_some, ↓sAsg, ↓sRet, ↓sRetN, ↓sIf, ↓sExpr, ↓sSkip, ↓sNever, ↓sPar, ↓sFor, ↓sSub, ↓fVar, ↓fC, ↓fNil, ↓fCons, ↓fA, ↓f1, ↓f2, ↓fB, ↓fIf, ↓fNeg, ↓fNot, ↓fAnd, ↓fOr, ↓bNot, ↓bAnd, ↓bOr, ↓bYes, ↓obnd_x, ob_some, ↓sbnd_x, sb_some, ↓ite_x, iteK_t, iteK_f, gN, gT, gC, gE, ↓rng1I, ↓rng2I, ↓seqI, ↓enumA, ↓zipI, ↓strI, ↓fLc, ↓fDc, ↓fM, ↓fSl, ↓oNone, ↓oSome, ↓fRev, wipeE, ↓kwM, permM, permL, List.foldr, List.length_cons, List.length_nil, List.map_cons, List.map_nil, List.cons_append, List.nil_append, List.replicate, List.replicate_succ, List.replicate_zero, List.getElem?_cons_zero, List.getElem?_cons_succ, List.set_cons_zero, List.set_cons_succ, if_true, if_false, reduceIte, Nat.reduceAdd, Nat.reduceSub, Nat.reduceEqDiff, Nat.reduceLT, Nat.reduceLeDiff, Int.reduceLT, Int.reduceLE, Int.reduceNeg, Int.reduceMul, Int.reduceAdd, Int.reduceSub, Int.reduceToNat, Int.reducePow, Int.reduceEq, ok, bok, deref, mkL, lstW, tupW, dats, Option.map_some, appendW, insertW, setL, isL, listW, tupleW, lenW, absW, intC, maxW, minW, idxW, addW, subW_e, modW_e, divW_e, powW_e, mulW, intW, lt_e, gt_e, le_e, ge_e, ltW, allW_e, anyW_e, sumW_e, lW, setW, lstAt, cutW, backW, isW, isiW, iLT_none, iLT_bool, iLT_int, iLT_str, iLT_list, iLT_tup, iL_none, iL_bool, iL_int, iL_str, iL_list, iL_tup, iT_none, iT_bool, iT_int, iT_str, iT_list, iT_tup, iS_none, iS_bool, iS_int, iS_str, iS_list, iS_tup, iI_none, iI_bool, iI_int, iI_str, iI_list, iI_tup, iB_none, iB_bool, iB_int, iB_str, iB_list, iB_tup, Bool.false_eq_true, reduceCtorEq, Bool.not_true, Bool.not_false, decide_true, decide_false, List.zip_cons_cons, List.zip_nil_left, List.foldl_cons, List.foldl_nil, and_self, and_true, true_and, Bool.and_true, Bool.true_and, Bool.or_true, Bool.true_or, *])
/-! ### zip, slices, falls -/
theorem zipD_map {α β : Type} (f : α → D) (g : β → D) : ∀ (l : List α) (m : List β), zipD (l.map f) (m.map g) = (l.zip m).map fun p => .tuple [f p.1, g p.2]
  | [], _ => by simp [zipD]
  | _ :: _, [] => by simp [zipD]
  | a :: l, b :: m => by simp [zipD, zipD_map f g l m]
theorem cut1 {α : Type} (xs : List α) : cutG xs (some 1) none = xs.drop 1 := by
  unfold cutG
  rw [show HT.sIx xs.length 0 (some 1) = min 1 xs.length from HT.sIx_nat xs.length 0 1, HT.sIx_none]
  cases xs with
  | nil => rfl
  | cons a l =>
    have e : min 1 (a :: l).length = 1 := by simp
    rw [e]
    apply List.take_of_length_le
    simp
def fallsN (r m : List Str) : Nat := ((m.zip (m.drop 1)).filter fun p => decide (r.idxOf p.2 < r.idxOf p.1)).length
def gtP : D → Bool
  | .tuple [.int a, .int b] => decide (b < a)
  | _ => false
def fstP : D → D
  | .tuple [a, _] => a
  | _ => .none
theorem falls_ok {x y : D} {r m : List Str} {h : Hh} (hx : IsSeq x (r.map .str)) (hy : IsSeq y (m.map .str)) (p : r.Perm m) (nd : r.Nodup) (hl : r.length ≤ 1000) (ht : Txts r) :
    m_falls [.dat x, .dat y] h = some (.dat (.int (fallsN r m : Int)), h) := by
  have e1 := look_alike_ok (h := h) hx hy p ht
  have ml : m.length ≤ 1000 := by rw [← p.length_eq]; exact hl
  let ix : Str → D := fun s => .int (r.idxOf s : Int)
  have sz : sizeLine = 16777216 := rfl
  have e2 : lcL (gN 3) bYes (fA (m_place_of) (fCons (fVar 0) (fCons (fVar 3) (fNil)))) [some (.dat x), some (.dat y), none, none, none, none] (m.map .str) h = some (m.map ix, h) := by
    rw [lcL_all (fun d => ix (unS d)) (ds := m.map .str)]
    · rw [List.map_map]; rfl
    · intro d hd
      obtain ⟨s, hs, rfl⟩ := List.mem_map.mp hd
      have e := place_ok (h := h) hx nd hl (p.mem_iff.mpr hs)
      refine ⟨[some (.dat x), some (.dat y), none, some (.dat (.str s)), none, none], rfl, rfl, ?_⟩
      clear hx hy
      walk_at "dl"
      rfl
  have e3 : zipD (m.map ix) ((m.map ix).drop 1) = (m.zip (m.drop 1)).map fun p => .tuple [ix p.1, ix p.2] := by rw [← List.map_drop, zipD_map]
  have e4 : lcL (gT 2 (gC (gN 4) (gC (gN 5) (gE)))) (fB (f2 gt_W (fVar 4) (fVar 5))) (fVar 4) [some (.dat x), some (.dat y), some (.dat (.list (m.map ix))), none, none, none] (zipD (m.map ix) ((m.map ix).drop 1)) h =
      some ((((m.zip (m.drop 1)).map fun p => PyData.tuple [ix p.1, ix p.2]).filter gtP).map fstP, h) := by
    rw [e3]
    apply lcL_map gtP fstP
    intro d hd
    obtain ⟨q, hq, rfl⟩ := List.mem_map.mp hd
    refine ⟨[some (.dat x), some (.dat y), some (.dat (.list (m.map ix))), none, some (.dat (ix q.1)), some (.dat (ix q.2))], ?_, ?_, fun _ => rfl⟩
    · clear hx hy e1 e2 e3
      walk_at "dl"
    · show fB (f2 gt_W (fVar 4) (fVar 5)) [some (.dat x), some (.dat y), some (.dat (.list (m.map ix))), none, some (.dat (.int (r.idxOf q.1 : Int))), some (.dat (.int (r.idxOf q.2 : Int)))] h = some (decide ((r.idxOf q.2 : Int) < (r.idxOf q.1 : Int)), h)
      clear hx hy e1 e2 e3
      walk_at "dl"
  have e5 : ((((m.zip (m.drop 1)).map fun p => PyData.tuple [ix p.1, ix p.2]).filter gtP).map fstP).length = fallsN r m := by
    rw [List.length_map, List.filter_map, List.length_map]
    unfold fallsN
    congr 2
    funext q
    show decide ((r.idxOf q.2 : Int) < (r.idxOf q.1 : Int)) = _
    simp
  have l1 : (m.map ix).length ≤ sizeLine := by rw [List.length_map]; omega
  have ez : zipOk (m.map ix) ((m.map ix).drop 1) = true := zipOk_int _ _ _
  have l2 : ((((m.zip (m.drop 1)).map fun p => PyData.tuple [ix p.1, ix p.2]).filter gtP).map fstP).length ≤ sizeLine := by
    rw [List.length_map]
    refine Nat.le_trans (List.length_filter_le _ _) ?_
    rw [List.length_map, List.length_zip]
    omega
  rw [e5] at l2
  have c1 := cut1 (m.map ix)
  have lv := leave_same' (h := h) (d := .int (fallsN r m : Int))
  unfold m_falls
  clear hx p nd hl ht ml sz e3
  rcases hy with rfl | rfl <;> walk_at "dl"
theorem idx_of {r : List Str} (nd : r.Nodup) {i : Nat} (hi : i < r.length) : r.idxOf r[i] = i := nd.idxOf_getElem i hi
theorem zip_next {α : Type} {l : List α} {p : α × α} (h : p ∈ l.zip (l.drop 1)) : ∃ (i : Nat) (h1 : i + 1 < l.length), p = (l[i], l[i + 1]) := by
  obtain ⟨i, hi, rfl⟩ := List.getElem_of_mem h
  rw [List.length_zip, List.length_drop] at hi
  refine ⟨i, by omega, ?_⟩
  rw [List.getElem_zip, List.getElem_drop]
  congr 2
  omega
theorem falls_self {r : List Str} (nd : r.Nodup) : fallsN r r = 0 := by
  unfold fallsN
  rw [List.length_eq_zero_iff, List.filter_eq_nil_iff]
  intro p hp
  obtain ⟨i, h1, rfl⟩ := zip_next hp
  simp only [idx_of nd h1, idx_of nd (show i < r.length by omega), decide_eq_true_eq]
  omega
theorem falls_rev {r : List Str} (nd : r.Nodup) : fallsN r r.reverse = r.length - 1 := by
  unfold fallsN
  rw [List.filter_eq_self.mpr]
  · rw [List.length_zip, List.length_drop, List.length_reverse]; omega
  · intro p hp
    obtain ⟨i, h1, rfl⟩ := zip_next hp
    rw [List.length_reverse] at h1
    simp only [List.getElem_reverse, idx_of nd, decide_eq_true_eq]
    omega
end DL
set_option maxHeartbeats 400000
namespace DL
open PySem L2
local macro_rules | `(tactic| walk_at "dl") => `(tactic| simp (config := { dsimp := false }) only [↓fnM_e, ↓sSeq_e, seqK_nx, seqK_rt, seqK_bk, seqK_ct, retK_rt, retK_nx, ↓sFrz_e, frK_some, ↓sAsg, ↓sRet, ↓sRetN, ↓sIf, ↓sExpr, ↓sSkip, ↓sNever, ↓sPar, ↓sFor, ↓sSub, ↓fVar, ↓fC, ↓fNil, ↓fCons, ↓fA, ↓f1, ↓f2, ↓fB, ↓fIf, ↓fNeg, ↓fNot, ↓fAnd, ↓fOr, ↓bNot, ↓bAnd, ↓bOr, ↓bYes, ↓obnd_x, ob_some, ↓sbnd_x, sb_some, ↓ite_x, iteK_t, iteK_f, gN, gT, gC, gE, ↓rng1I, ↓rng2I, ↓seqI, ↓enumA, ↓zipI, ↓strI, ↓fLc, ↓fDc, ↓fM, ↓fSl, ↓oNone, ↓oSome, ↓fRev, wipeE, ↓kwM, permM, permL, List.foldr, List.length_cons, List.length_nil, List.map_cons, List.map_nil, List.cons_append, List.nil_append, List.replicate, List.replicate_succ, List.replicate_zero, List.getElem?_cons_zero, List.getElem?_cons_succ, List.set_cons_zero, List.set_cons_succ, if_true, if_false, reduceIte, Nat.reduceAdd, Nat.reduceSub, Nat.reduceEqDiff, Nat.reduceLT, Nat.reduceLeDiff, Int.reduceLT, Int.reduceLE, Int.reduceNeg, Int.reduceMul, Int.reduceAdd, Int.reduceSub, Int.reduceToNat, Int.reducePow, Int.reduceEq, ok, bok, deref, mkL, lstW, tupW, dats, Option.map_some, appendW, insertW, setL, isL, listW, tupleW, lenW, absW, intC, maxW, minW, idxW, addW, subW_e, modW_e, divW_e, powW_e, mulW, intW, lt_e, gt_e, le_e, ge_e, ltW, allW_e, anyW_e, sumW_e, lW, setW, lstAt, cutW, backW, isW, isiW, iLT_none, iLT_bool, iLT_int, iLT_str, iLT_list, iLT_tup, iL_none, iL_bool, iL_int, iL_str, iL_list, iL_tup, iT_none, iT_bool, iT_int, iT_str, iT_list, iT_tup, iS_none, iS_bool, iS_int, iS_str, iS_list, iS_tup, iI_none, iI_bool, iI_int, iI_str, iI_list, iI_tup, iB_none, iB_bool, iB_int, iB_str, iB_list, iB_tup, Bool.false_eq_true, reduceCtorEq, Bool.not_true, Bool.not_false, decide_true, decide_false, List.zip_cons_cons, List.zip_nil_left, List.foldl_cons, List.foldl_nil, and_self, and_true, true_and, Bool.and_true, Bool.true_and, Bool.or_true, Bool.true_or, *])
/-! ### the law's frame over tables -/
def Pre (h0 h : Hh) : Prop := ∀ i : Nat, i < h0.length → h[i]? = h0[i]?
theorem Pre.only {h0 h h' : Hh} {b : Nat} (p : Pre h0 h) (hb : h0.length ≤ b) (o : Only b h h') : Pre h0 h' := fun i hi => (o.off i (by omega)).trans (p i hi)
theorem Pre.app {h0 h l : Hh} (p : Pre h0 h) (hl : h0.length ≤ h.length) : Pre h0 (h ++ l) := fun i hi => by
  rw [List.getElem?_append_left (by omega)]; exact p i hi
theorem Pre.take {h0 h : Hh} (p : Pre h0 h) (hl : h0.length ≤ h.length) : h.take h0.length = h0 := by
  apply List.ext_getElem?
  intro i
  by_cases hi : i < h0.length
  · rw [List.getElem?_take_of_lt hi]; exact p i hi
  · rw [List.getElem?_eq_none (by rw [List.length_take]; omega), List.getElem?_eq_none (by omega)]
theorem law_turnT {T : Int} {t : Nat} {h0 : Hh} (hT : T.toNat = t) (T0 : -1000000000 ≤ T) (T1 : T ≤ 1000000000) (T2 : t ≤ sizeLine) {right : FM} {cost : Nat} (hr : ∀ (h : Hh) (b c : Nat), Pre h0 h → h0.length ≤ b → BoxAt h b c → c ≤ t * cost → ∃ h', right [.ref b] h = some (.dat (.bool true), h') ∧ BoxAt h' b (c + cost) ∧ Only b h h') {ns : List Int} {k : Int} (k0 : 0 ≤ k) (k1 : k < 100) (v2 v3 : Option W) (h : Hh) (hp : Pre h0 h) (hl0 : h0.length ≤ h.length) :
    ∃ ρ' h', (sSeq (sAsg (fA (m__law_box) (fCons (fVar 0) (fCons (fVar 1) (fNil)))) (gN 2))
    (sIf (bNot (fB (fA allW (fCons (fLc false (rng1I (fCons (fC (.int T)) (fNil))) (gN 3) (bYes) (fA right (fCons (fVar 2) (fNil))) [3]) (fNil))))) (sRet (fC (.bool false))) (sSkip))) [some (.scr ns), some (.dat (.int k)), v2, v3] h = some (.nx ρ', h') ∧ (∃ w2, ρ' = [some (.scr ns), some (.dat (.int k)), w2, v3]) ∧ Pre h0 h' ∧ h0.length ≤ h'.length := by
  obtain ⟨d, s, e, hd, hs, hs2⟩ := box_new (ns := ns) (h := h) k0 k1
  have hb : BoxAt (h ++ [some (.lst [.int d, .int s, .int 0])]) h.length 0 := ⟨d, s, 0, by simp, hd, hs, hs2, by omega, by omega⟩
  obtain ⟨rs, h', e2, hl, hall, _, hp', hl1⟩ := lcL_inv (k := gN 3) (f := fA right (fCons (fVar 2) (fNil))) (ρ := [some (.scr ns), some (.dat (.int k)), some (.ref h.length), none])
    (fun n g => BoxAt g h.length (n * cost) ∧ Pre h0 g ∧ h0.length ≤ g.length) (fun _ d => d = .bool true) (ds := rngD 0 T.toNat) (n := 0) (h := h ++ [some (.lst [.int d, .int s, .int 0])]) (by rw [Nat.zero_mul]; exact ⟨hb, hp.app hl0, by simp; omega⟩) (by
      intro j d' ej g hi
      obtain ⟨hi, hp1, hl1⟩ := hi
      rw [Nat.zero_add] at hi ⊢
      have hj := (rng_get ej).1
      obtain ⟨g', e3, b3, o3⟩ := hr g h.length _ hp1 hl0 hi (Nat.mul_le_mul_right _ (by omega))
      refine ⟨[some (.scr ns), some (.dat (.int k)), some (.ref h.length), some (.dat d')], .bool true, g', rfl, ?_, rfl, by rw [Nat.succ_mul]; exact b3, hp1.only hl0 o3, by rw [o3.len]; exact hl1⟩
      clear hp hp1 hl0 hl1
      walk_at "dl")
  have er : rs = List.replicate rs.length (.bool true) := bools_all fun r hr => by
    obtain ⟨j, hj, rfl⟩ := List.getElem_of_mem hr
    exact hall j _ (List.getElem?_eq_getElem hj)
  have hl' : rs.length = t := by rw [hl, rng_len, hT]
  rw [hl'] at er
  subst er
  have e4 := bools_true t
  have e5 := all_true t
  have e6 : (List.replicate t (PyData.bool true)).length ≤ sizeLine := by rw [List.length_replicate]; exact T2
  refine ⟨[some (.scr ns), some (.dat (.int k)), some (.ref h.length), v3], h', ?_, ⟨_, rfl⟩, hp', hl1⟩
  clear hall hl hl' hb hr hp hp' hl0 hl1
  rw [hT] at e2
  walk_at "dl"
theorem law_okT {T : Int} {t : Nat} {h0 : Hh} (hT : T.toNat = t) (T0 : -1000000000 ≤ T) (T1 : T ≤ 1000000000) (T2 : t ≤ sizeLine) {right : FM} {cost : Nat} (hr : ∀ (h : Hh) (b c : Nat), Pre h0 h → h0.length ≤ b → BoxAt h b c → c ≤ t * cost → ∃ h', right [.ref b] h = some (.dat (.bool true), h') ∧ BoxAt h' b (c + cost) ∧ Only b h h') (ns : List Int) (hn : ns.length ≤ 63) :
    ∃ h', lawM T right [.scr ns] h0 = some (.dat (.bool true), h') := by
  obtain ⟨m, hm, m0, m1⟩ : ∃ m : Int, (if (if (ns.length : Int) < 3 then (ns.length : Int) else 3) > 1 then (if (ns.length : Int) < 3 then (ns.length : Int) else 3) else 1) = m ∧ 0 ≤ m ∧ m ≤ 3 := ⟨_, rfl, by split <;> split <;> omega, by split <;> split <;> omega⟩
  obtain ⟨ρ', h', e, ⟨w1, w2, w3, rfl⟩, hp, hl⟩ := forL_end (k := gN 1) (body := (sSeq (sAsg (fA (m__law_box) (fCons (fVar 0) (fCons (fVar 1) (fNil)))) (gN 2))
    (sIf (bNot (fB (fA allW (fCons (fLc false (rng1I (fCons (fC (.int T)) (fNil))) (gN 3) (bYes) (fA right (fCons (fVar 2) (fNil))) [3]) (fNil))))) (sRet (fC (.bool false))) (sSkip)))) (fun _ ρ g => (∃ w1 w2 w3, ρ = [some (.scr ns), w1, w2, w3]) ∧ Pre h0 g ∧ h0.length ≤ g.length) (ds := rngD 0 m.toNat) (ρ := [some (.scr ns), none, none, none]) (h := h0) ⟨⟨none, none, none, rfl⟩, fun _ _ => rfl, Nat.le_refl _⟩ (by
      intro j d ej ρ h hi
      obtain ⟨⟨w1, w2, w3, rfl⟩, hp, hl⟩ := hi
      obtain ⟨hj, rfl⟩ := rng_get ej
      obtain ⟨ρ', h', e, ⟨w2', rfl⟩, hp', hl'⟩ := law_turnT hT T0 T1 T2 hr (ns := ns) (k := j) (by omega) (by omega) w2 w3 h hp hl
      exact ⟨_, _, h', rfl, e, ⟨_, _, _, rfl⟩, hp', hl'⟩)
  refine ⟨h0, ?_⟩
  have b0 : -1000000000 ≤ m := by omega
  have b1 : m ≤ 1000000000 := by omega
  have lv : leave false h0 (.dat (.bool true)) h' = some (.dat (.bool true), h0) := by
    have e := hp.take hl
    rw [leave_dat (by rw [e]), e]
  unfold lawM
  clear hr m0 m1 T0 T1 T2 hp hl
  walk_at "dl"
end DL
set_option maxHeartbeats 400000
namespace DL
open PySem L2
local macro_rules | `(tactic| walk_at "dl") => `(tactic| simp (config := { dsimp := false }) only [↓fnM_e, ↓sSeq_e, seqK_nx, seqK_rt, seqK_bk, seqK_ct, retK_rt, retK_nx, ↓sFrz_e, frK_some, ↓sAsg, ↓sRet, ↓sRetN, ↓sIf, ↓sExpr, ↓sSkip, ↓sNever, ↓sPar, ↓sFor, ↓sSub, ↓fVar, ↓fC, ↓fNil, ↓fCons, ↓fA, ↓f1, ↓f2, ↓fB, ↓fIf, ↓fNeg, ↓fNot, ↓fAnd, ↓fOr, ↓bNot, ↓bAnd, ↓bOr, ↓bYes, ↓obnd_x, ob_some, ↓sbnd_x, sb_some, ↓ite_x, iteK_t, iteK_f, gN, gT, gC, gE, ↓rng1I, ↓rng2I, ↓seqI, ↓enumA, ↓zipI, ↓strI, ↓fLc, ↓fDc, ↓fM, ↓fSl, ↓oNone, ↓oSome, ↓fRev, wipeE, ↓kwM, permM, permL, List.foldr, List.length_cons, List.length_nil, List.map_cons, List.map_nil, List.cons_append, List.nil_append, List.replicate, List.replicate_succ, List.replicate_zero, List.getElem?_cons_zero, List.getElem?_cons_succ, List.set_cons_zero, List.set_cons_succ, if_true, if_false, reduceIte, Nat.reduceAdd, Nat.reduceSub, Nat.reduceEqDiff, Nat.reduceLT, Nat.reduceLeDiff, Int.reduceLT, Int.reduceLE, Int.reduceNeg, Int.reduceMul, Int.reduceAdd, Int.reduceSub, Int.reduceToNat, Int.reducePow, Int.reduceEq, ok, bok, deref, mkL, lstW, tupW, dats, Option.map_some, appendW, insertW, setL, isL, listW, tupleW, lenW, absW, intC, maxW, minW, idxW, addW, subW_e, modW_e, divW_e, powW_e, mulW, intW, lt_e, gt_e, le_e, ge_e, ltW, allW_e, anyW_e, sumW_e, lW, setW, lstAt, cutW, backW, isW, isiW, iLT_none, iLT_bool, iLT_int, iLT_str, iLT_list, iLT_tup, iL_none, iL_bool, iL_int, iL_str, iL_list, iL_tup, iT_none, iT_bool, iT_int, iT_str, iT_list, iT_tup, iS_none, iS_bool, iS_int, iS_str, iS_list, iS_tup, iI_none, iI_bool, iI_int, iI_str, iI_list, iI_tup, iB_none, iB_bool, iB_int, iB_str, iB_list, iB_tup, Bool.false_eq_true, reduceCtorEq, Bool.not_true, Bool.not_false, decide_true, decide_false, List.zip_cons_cons, List.zip_nil_left, List.foldl_cons, List.foldl_nil, and_self, and_true, true_and, Bool.and_true, Bool.true_and, Bool.or_true, Bool.true_or, *])
/-! ### calls -/
def prW (l : Bool) (p : Str × Str) : D := if l = true then .list [.str p.1, .str p.2] else .tuple [.str p.1, .str p.2]
abbrev prT (p : Str × Str) : D := .tuple [.str p.1, .str p.2]
def tld (ps : List (Str × Str)) : List (Str × D) := ps.map fun p => (p.1, .str p.2)
theorem tld_keys (ps : List (Str × Str)) : (tld ps).map (·.1) = ps.map (·.1) := by simp [tld]
def unP : D → Str × D
  | .tuple [.str a, d] => (a, d)
  | .list [.str a, d] => (a, d)
  | _ => ("", .none)
theorem unP_map (l : Bool) (ps : List (Str × Str)) : (ps.map (prW l)).map unP = tld ps := by
  rw [List.map_map]
  unfold tld
  apply List.map_congr_left
  intro p _
  cases l <;> rfl
theorem by_names_ok {x : D} {l : Bool} {ps : List (Str × Str)} {h : Hh} (hx : IsSeq x (ps.map (prW l))) (nd : (ps.map (·.1)).Nodup) (hl : ps.length ≤ 1000) : m_by_names [.dat x] h = some (.dat (.dict (sdic (tld ps))), h) := by
  have e := dcL_sdic (k := gT 2 (gC (gN 1) (gC (gN 2) gE))) (fk := fVar 1) (fv := fVar 2) (ρ := [some (.dat x), none, none]) (h := h) unP (ds := ps.map (prW l)) (l := []) (by rw [List.nil_append, unP_map, tld_keys]; exact nd)
    (by rw [List.nil_append, List.length_map, List.length_map]; exact Nat.le_trans hl (by decide)) (by
      intro d hd
      obtain ⟨p, _, rfl⟩ := List.mem_map.mp hd
      refine ⟨[some (.dat x), some (.dat (.str p.1)), some (.dat (.str p.2))], ?_, ?_, ?_⟩
      · clear hx hd
        cases l <;> (unfold prW; walk_at "dl")
      · cases l <;> rfl
      · cases l <;> rfl)
  rw [List.nil_append, unP_map] at e
  have e' : dcL (gT 2 (gC (gN 1) (gC (gN 2) gE))) bYes (fVar 1) (fVar 2) [some (.dat x), none, none] (ps.map (prW l)) [] h = some (sdic (tld ps), h) := e
  have lv := leave_same' (h := h) (d := .dict (sdic (tld ps)))
  unfold m_by_names
  clear nd hl e
  rcases hx with rfl | rfl <;> (walk_at "dl"; simp only [mkK, Bool.false_eq_true, if_false, obnd_some, retK_rt]; walk_at "dl")
theorem people_ok {x : D} {l : Bool} {ps : List (Str × Str)} {h : Hh} (hx : IsSeq x (ps.map (prW l))) (hl : ps.length ≤ 1000) : m_people [.dat x] h = some (.dat (.tuple ((ps.map (·.1)).map .str)), h) := by
  have e : lcL (gT 2 (gC (gN 1) (gC (gN 2) gE))) bYes (fVar 1) [some (.dat x), none, none] (ps.map (prW l)) h = some ((ps.map (·.1)).map .str, h) := by
    rw [lcL_all (fun d => .str (unP d).1)]
    · rw [List.map_map, List.map_map]
      congr 2
      apply List.map_congr_left
      intro p _
      cases l <;> rfl
    · intro d hd
      obtain ⟨p, _, rfl⟩ := List.mem_map.mp hd
      refine ⟨[some (.dat x), some (.dat (.str p.1)), some (.dat (.str p.2))], ?_, rfl, ?_⟩
      · clear hx hd
        cases l <;> (unfold prW; walk_at "dl")
      · cases l <;> rfl
  have l1 : ((ps.map (·.1)).map PyData.str).length ≤ sizeLine := by rw [List.length_map, List.length_map]; exact Nat.le_trans hl (by decide)
  have lv := leave_same' (h := h) (d := .tuple ((ps.map (·.1)).map .str))
  unfold m_people
  clear hl
  rcases hx with rfl | rfl <;> walk_at "dl"
end DL
set_option maxHeartbeats 400000
namespace DL
open PySem L2
local macro_rules | `(tactic| walk_at "dl") => `(tactic| simp (config := { dsimp := false }) only [↓fnM_e, ↓sSeq_e, seqK_nx, seqK_rt, seqK_bk, seqK_ct, retK_rt, retK_nx, ↓sFrz_e, frK_some, ↓sAsg, ↓sRet, ↓sRetN, ↓sIf, ↓sExpr, ↓sSkip, ↓sNever, ↓sPar, ↓sFor, ↓sSub, ↓fVar, ↓fC, ↓fNil, ↓fCons, ↓fA, ↓f1, ↓f2, ↓fB, ↓fIf, ↓fNeg, ↓fNot, ↓fAnd, ↓fOr, ↓bNot, ↓bAnd, ↓bOr, ↓bYes, ↓obnd_x, ob_some, ↓sbnd_x, sb_some, ↓ite_x, iteK_t, iteK_f, gN, gT, gC, gE, ↓rng1I, ↓rng2I, ↓seqI, ↓enumA, ↓zipI, ↓strI, ↓fLc, ↓fDc, ↓fM, ↓fSl, ↓oNone, ↓oSome, ↓fRev, wipeE, ↓kwM, permM, permL, List.foldr, List.length_cons, List.length_nil, List.map_cons, List.map_nil, List.cons_append, List.nil_append, List.replicate, List.replicate_succ, List.replicate_zero, List.getElem?_cons_zero, List.getElem?_cons_succ, List.set_cons_zero, List.set_cons_succ, if_true, if_false, reduceIte, Nat.reduceAdd, Nat.reduceSub, Nat.reduceEqDiff, Nat.reduceLT, Nat.reduceLeDiff, Int.reduceLT, Int.reduceLE, Int.reduceNeg, Int.reduceMul, Int.reduceAdd, Int.reduceSub, Int.reduceToNat, Int.reducePow, Int.reduceEq, ok, bok, deref, mkL, lstW, tupW, dats, Option.map_some, appendW, insertW, setL, isL, listW, tupleW, lenW, absW, intC, maxW, minW, idxW, addW, subW_e, modW_e, divW_e, powW_e, mulW, intW, lt_e, gt_e, le_e, ge_e, ltW, allW_e, anyW_e, sumW_e, lW, setW, lstAt, cutW, backW, isW, isiW, iLT_none, iLT_bool, iLT_int, iLT_str, iLT_list, iLT_tup, iL_none, iL_bool, iL_int, iL_str, iL_list, iL_tup, iT_none, iT_bool, iT_int, iT_str, iT_list, iT_tup, iS_none, iS_bool, iS_int, iS_str, iS_list, iS_tup, iI_none, iI_bool, iI_int, iI_str, iI_list, iI_tup, iB_none, iB_bool, iB_int, iB_str, iB_list, iB_tup, Bool.false_eq_true, reduceCtorEq, Bool.not_true, Bool.not_false, decide_true, decide_false, List.zip_cons_cons, List.zip_nil_left, List.foldl_cons, List.foldl_nil, and_self, and_true, true_and, Bool.and_true, Bool.true_and, Bool.or_true, Bool.true_or, *])
/-! ### what a call does to a row -/
/-- whom somebody is told -/
def goal (ps : List (Str × Str)) (s : Str) : Str := (ps.lookup s).getD s
/-- where somebody stands behind the call: by where whom they are told stood, then by where they stood -/
def keyN (r : List Str) (ps : List (Str × Str)) (s : Str) : Nat × Nat := (r.idxOf (goal ps s), r.idxOf s)
def leK (a b : Nat × Nat) : Bool := decide (a.1 < b.1 ∨ (a.1 = b.1 ∧ a.2 ≤ b.2))
def led (r : List Str) (ps : List (Str × Str)) : List Str := r.mergeSort fun a b => leK (keyN r ps a) (keyN r ps b)
theorem leK_trans (a b c : Nat × Nat) (h1 : leK a b = true) (h2 : leK b c = true) : leK a c = true := by
  unfold leK at *
  simp only [decide_eq_true_eq] at *
  omega
theorem leK_total (a b : Nat × Nat) : (leK a b || leK b a) = true := by
  unfold leK
  simp only [Bool.or_eq_true, decide_eq_true_eq]
  omega
theorem led_perm (r : List Str) (ps : List (Str × Str)) : (led r ps).Perm r := List.mergeSort_perm _ _
theorem led_pw (r : List Str) (ps : List (Str × Str)) : (led r ps).Pairwise fun a b => leK (keyN r ps a) (keyN r ps b) = true :=
  List.pairwise_mergeSort (le := fun a b => leK (keyN r ps a) (keyN r ps b)) (fun a b c => leK_trans _ _ _) (fun a b => leK_total _ _) r
/-- a call of the people of r -/
structure CallOf (r : List Str) (ps : List (Str × Str)) : Prop where
  perm : (ps.map (·.1)).Perm r
  tgt : ∀ p ∈ ps, p.2 ∈ r
theorem CallOf.nodup {r : List Str} {ps : List (Str × Str)} (c : CallOf r ps) (nd : r.Nodup) : (ps.map (·.1)).Nodup := c.perm.nodup_iff.mpr nd
theorem CallOf.of_perm {r r' : List Str} {ps : List (Str × Str)} (c : CallOf r ps) (p : r.Perm r') : CallOf r' ps := ⟨c.perm.trans p, fun q hq => p.mem_iff.mp (c.tgt q hq)⟩
theorem look_tld : ∀ (ps : List (Str × Str)) (s : Str), (tld ps).lookup s = (ps.lookup s).map .str
  | [], s => rfl
  | (a, b) :: ps, s => by
    have ih := look_tld ps s
    unfold tld at ih ⊢
    rw [List.map_cons, List.lookup_cons, List.lookup_cons]
    cases s == a with
    | true => rfl
    | false => exact ih
theorem look_mem : ∀ {ps : List (Str × Str)} {s : Str}, s ∈ ps.map (·.1) → ∃ t, ps.lookup s = some t ∧ (s, t) ∈ ps
  | [], s, h => by cases h
  | (a, b) :: ps, s, h => by
    rw [List.lookup_cons]
    cases e : s == a with
    | true =>
      have : s = a := by simpa using e
      subst this
      exact ⟨b, rfl, List.mem_cons_self⟩
    | false =>
      have hne : s ≠ a := by simpa using e
      rw [List.map_cons] at h
      rcases List.mem_cons.mp h with z | h
      · exact absurd z hne
      · obtain ⟨t, h1, h2⟩ := look_mem h
        exact ⟨t, h1, List.mem_cons_of_mem _ h2⟩
theorem CallOf.goal_mem {r : List Str} {ps : List (Str × Str)} (c : CallOf r ps) {s : Str} (hs : s ∈ r) : ps.lookup s = some (goal ps s) ∧ goal ps s ∈ r := by
  obtain ⟨t, h1, h2⟩ := look_mem (c.perm.mem_iff.mpr hs)
  have e : goal ps s = t := by unfold goal; rw [h1]; rfl
  rw [e]
  exact ⟨h1, c.tgt _ h2⟩
theorem keyA_at {r : List Str} {ps : List (Str × Str)} {x y : W} {s : Str} (c : CallOf r ps) (hs : s ∈ r) : keyA 3 2 [some x, some y, some (.dat (.dict (sdic (tld ps)))), some (.dat (.dict (sdic (plc 0 r))))] (.str s) = some (.tuple [.int ((keyN r ps s).1 : Int), .int ((keyN r ps s).2 : Int)]) := by
  obtain ⟨h1, h2⟩ := c.goal_mem hs
  have e1 : getK (sdic (tld ps)) (.inr s) = some (.str (goal ps s)) := by rw [getK_sdic, look_tld, h1]; rfl
  have e2 : getK (sdic (plc 0 r)) (.inr (goal ps s)) = some (.int (r.idxOf (goal ps s) : Int)) := by rw [getK_sdic, plc_look, if_pos h2, Nat.zero_add]
  have e3 : getK (sdic (plc 0 r)) (.inr s) = some (.int (r.idxOf s : Int)) := by rw [getK_sdic, plc_look, if_pos hs, Nat.zero_add]
  unfold keyA
  simp only [List.getElem?_cons_zero, List.getElem?_cons_succ, isT_sdic, Bool.or_self, Bool.false_eq_true, if_false, e1, e2, e3]
  rfl
theorem sortBy_led {r : List Str} {ps : List (Str × Str)} {x y : W} (c : CallOf r ps) : sortBy (keyA 3 2 [some x, some y, some (.dat (.dict (sdic (tld ps)))), some (.dat (.dict (sdic (plc 0 r))))]) (r.map .str) = (led r ps).map .str := by
  unfold sortBy led
  rw [← PySem.W.sort_maps (r := fun a b => leK (keyN r ps a) (keyN r ps b)) (fun s : Str => (.str s : D)) (l := r) fun a ha b hb => ?_]
  show leK (keyN r ps a) (keyN r ps b) = !PySem.W.dataLt ((keyA 3 2 [some x, some y, some (.dat (.dict (sdic (tld ps)))), some (.dat (.dict (sdic (plc 0 r))))] (.str b)).getD .none) ((keyA 3 2 [some x, some y, some (.dat (.dict (sdic (tld ps)))), some (.dat (.dict (sdic (plc 0 r))))] (.str a)).getD .none)
  rw [keyA_at c ha, keyA_at c hb, Option.getD_some, Option.getD_some, PySem.W.dataLt_ii]
  unfold leK
  rw [← decide_not]
  simp only [decide_eq_decide]
  omega
theorem called_ok {T : Nat → Addr} {x y : D} {l : Bool} {r : List Str} {ps : List (Str × Str)} {h : Hh} (h0 : h[0]? = some (some (.tab (lamN "called") (T 0)))) (hx : IsSeq x (r.map .str)) (hy : IsSeq y (ps.map (prW l))) (c : CallOf r ps) (nd : r.Nodup) (hl : r.length ≤ 1000) (ht : Txts r) :
    m_called T [.dat x, .dat y] h = some (.dat (.tuple ((led r ps).map .str)), h) := by
  have hp : ps.length = r.length := by have := c.perm.length_eq; rw [List.length_map] at this; exact this
  have e1 := people_ok (h := h) hy (by omega)
  have e2 := look_alike_ok (h := h) hx (y := .tuple ((ps.map (·.1)).map .str)) (.inr rfl) c.perm.symm ht
  have e3 := by_names_ok (h := h) hy (c.nodup nd) (by omega)
  have e4 := places_ok (h := h) hx nd hl
  have e5 := sortBy_led (x := .dat x) (y := .dat y) c
  have e6 : ((r.map PyData.str).all fun d => isSt d && okKey true (keyA 3 2 [some (.dat x), some (.dat y), some (.dat (.dict (sdic (tld ps)))), some (.dat (.dict (sdic (plc 0 r))))] d)) = true := by
    rw [List.all_eq_true]
    intro d hd
    obtain ⟨s, hs, rfl⟩ := List.mem_map.mp hd
    rw [keyA_at c hs]
    rfl
  have e7 : sortKW false true 0 (T 0) (lamN "called") (keyA 3 2 [some (.dat x), some (.dat y), some (.dat (.dict (sdic (tld ps)))), some (.dat (.dict (sdic (plc 0 r))))]) (.dat x) h = some (.dat (.list ((led r ps).map .str)), h) := by
    unfold sortKW
    rw [h0]
    simp only [decide_true, Bool.and_self, if_true, deref]
    rcases hx with rfl | rfl <;> (simp only [e6, if_true, e5]; rfl)
  have lv := leave_same' (h := h) (d := .tuple ((led r ps).map .str))
  have c2 : 2 ≤ sizeLine := by decide
  unfold m_called fSortK
  clear hx hy c nd hl ht hp h0 e5 e6
  walk_at "dl"
end DL
set_option maxHeartbeats 400000
namespace DL
open PySem L2
local macro_rules | `(tactic| walk_at "dl") => `(tactic| simp (config := { dsimp := false }) only [↓fnM_e, ↓sSeq_e, seqK_nx, seqK_rt, seqK_bk, seqK_ct, retK_rt, retK_nx, ↓sFrz_e, frK_some, ↓sAsg, ↓sRet, ↓sRetN, ↓sIf, ↓sExpr, ↓sSkip, ↓sNever, ↓sPar, ↓sFor, ↓sSub, ↓fVar, ↓fC, ↓fNil, ↓fCons, ↓fA, ↓f1, ↓f2, ↓fB, ↓fIf, ↓fNeg, ↓fNot, ↓fAnd, ↓fOr, ↓bNot, ↓bAnd, ↓bOr, ↓bYes, ↓obnd_x, ob_some, ↓sbnd_x, sb_some, ↓ite_x, iteK_t, iteK_f, gN, gT, gC, gE, ↓rng1I, ↓rng2I, ↓seqI, ↓enumA, ↓zipI, ↓strI, ↓fLc, ↓fDc, ↓fM, ↓fSl, ↓oNone, ↓oSome, ↓fRev, wipeE, ↓kwM, permM, permL, List.foldr, List.length_cons, List.length_nil, List.map_cons, List.map_nil, List.cons_append, List.nil_append, List.replicate, List.replicate_succ, List.replicate_zero, List.getElem?_cons_zero, List.getElem?_cons_succ, List.set_cons_zero, List.set_cons_succ, if_true, if_false, reduceIte, Nat.reduceAdd, Nat.reduceSub, Nat.reduceEqDiff, Nat.reduceLT, Nat.reduceLeDiff, Int.reduceLT, Int.reduceLE, Int.reduceNeg, Int.reduceMul, Int.reduceAdd, Int.reduceSub, Int.reduceToNat, Int.reducePow, Int.reduceEq, ok, bok, deref, mkL, lstW, tupW, dats, Option.map_some, appendW, insertW, setL, isL, listW, tupleW, lenW, absW, intC, maxW, minW, idxW, addW, subW_e, modW_e, divW_e, powW_e, mulW, intW, lt_e, gt_e, le_e, ge_e, ltW, allW_e, anyW_e, sumW_e, lW, setW, lstAt, cutW, backW, isW, isiW, iLT_none, iLT_bool, iLT_int, iLT_str, iLT_list, iLT_tup, iL_none, iL_bool, iL_int, iL_str, iL_list, iL_tup, iT_none, iT_bool, iT_int, iT_str, iT_list, iT_tup, iS_none, iS_bool, iS_int, iS_str, iS_list, iS_tup, iI_none, iI_bool, iI_int, iI_str, iI_list, iI_tup, iB_none, iB_bool, iB_int, iB_str, iB_list, iB_tup, Bool.false_eq_true, reduceCtorEq, Bool.not_true, Bool.not_false, decide_true, decide_false, List.zip_cons_cons, List.zip_nil_left, List.foldl_cons, List.foldl_nil, and_self, and_true, true_and, Bool.and_true, Bool.true_and, Bool.or_true, Bool.true_or, *])
/-! ### calls made by the program, and by draws -/
theorem prW_false : prW false = prT := by funext p; rfl
theorem stay_ok {x : D} {l : List Str} {h : Hh} (hx : IsSeq x (l.map .str)) (ht : Txts l) (hl : l.length ≤ 1000) : m_stay [.dat x] h = some (.dat (.tuple (((sortS l).map fun s => (s, s)).map prT)), h) := by
  have e1 := sortW_strs (h := h) hx ht
  have hs : (sortS l).length = l.length := (sortS_perm l).length_eq
  have c2 : 2 ≤ sizeLine := by decide
  have e2 : lcL (gN 1) bYes (fA tupW (fCons (fVar 1) (fCons (fVar 1) fNil))) [some (.dat x), none] ((sortS l).map .str) h = some (((sortS l).map fun s => (s, s)).map prT, h) := by
    rw [lcL_all (fun d => .tuple [d, d])]
    · rw [List.map_map, List.map_map]; rfl
    · intro d hd
      obtain ⟨s, hs, rfl⟩ := List.mem_map.mp hd
      refine ⟨[some (.dat x), some (.dat (.str s))], rfl, rfl, ?_⟩
      clear hx hl hd
      walk_at "dl"
  have l1 : (((sortS l).map fun s => (s, s)).map prT).length ≤ sizeLine := by rw [List.length_map, List.length_map, hs]; exact Nat.le_trans hl (by decide)
  have lv := leave_same' (h := h) (d := .tuple (((sortS l).map fun s => (s, s)).map prT))
  unfold m_stay
  clear hx hl hs
  walk_at "dl"
theorem look_name_ok {x : D} {l : List Str} {s : Str} {h : Hh} (hx : IsSeq x (l.map .str)) (hs : s ∈ l) : m_look_name [.dat x, .dat (.str s)] h = some (.dat .none, h) := by
  have e1 : ((l.map PyData.str).all flatD) = true := by
    rw [List.all_eq_true]
    intro d hd
    obtain ⟨s, hs, rfl⟩ := List.mem_map.mp hd
    rfl
  have e2 : ((l.map PyData.str).any fun z => PyData.eqv z (.str s)) = true := by
    rw [List.any_eq_true]
    exact ⟨.str s, List.mem_map.mpr ⟨s, hs, rfl⟩, by simp [PyData.eqv]⟩
  have e3 : inW true (.dat (.str s)) (.dat x) h = some (.dat (.bool false), h) := by
    unfold inW
    rcases hx with rfl | rfl <;> (simp only [deref, flatD, e1, e2, Bool.and_self, if_true]; rfl)
  have lv := leave_same' (h := h) (d := .none)
  unfold m_look_name
  clear hx hs
  walk_at "dl"
theorem all_to_ok {x : D} {l : List Str} {s : Str} {h : Hh} (hx : IsSeq x (l.map .str)) (hs : s ∈ l) (ht : Txts l) (hl : l.length ≤ 1000) : m_all_to [.dat x, .dat (.str s)] h = some (.dat (.tuple (((sortS l).map fun t => (t, s)).map prT)), h) := by
  have e0 := look_name_ok (h := h) hx hs
  have e1 := sortW_strs (h := h) hx ht
  have hz : (sortS l).length = l.length := (sortS_perm l).length_eq
  have c2 : 2 ≤ sizeLine := by decide
  have e2 : lcL (gN 2) bYes (fA tupW (fCons (fVar 2) (fCons (fVar 1) fNil))) [some (.dat x), some (.dat (.str s)), none] ((sortS l).map .str) h = some (((sortS l).map fun t => (t, s)).map prT, h) := by
    rw [lcL_all (fun d => .tuple [d, .str s])]
    · rw [List.map_map, List.map_map]; rfl
    · intro d hd
      obtain ⟨t, _, rfl⟩ := List.mem_map.mp hd
      refine ⟨[some (.dat x), some (.dat (.str s)), some (.dat (.str t))], rfl, rfl, ?_⟩
      clear hx hl hd
      walk_at "dl"
  have l1 : (((sortS l).map fun t => (t, s)).map prT).length ≤ sizeLine := by rw [List.length_map, List.length_map, hz]; exact Nat.le_trans hl (by decide)
  have lv := leave_same' (h := h) (d := .tuple (((sortS l).map fun t => (t, s)).map prT))
  unfold m_all_to
  clear hx hl hz hs
  walk_at "dl"
theorem of_ok {x : D} {ds : List D} {h : Hh} {b c : Nat} (hx : IsSeq x ds) (hb : BoxAt h b c) (hc : c < 1000000000) (h0 : 0 < ds.length) (h1 : ds.length ≤ 1000) :
    ∃ d h', m__law_of [.ref b, .dat x] h = some (.dat d, h') ∧ d ∈ ds ∧ BoxAt h' b (c + 1) ∧ Only b h h' := by
  obtain ⟨r, h', e, r0, r1, b1, o1⟩ := take_ok (n := (ds.length : Int)) hb (by omega) (by omega) (by omega)
  have hr : r.toNat < ds.length := by omega
  have e2 : L2.atI ds r = some ds[r.toNat] := by
    have := atI_nat (xs := ds) (j := r.toNat) (List.getElem?_eq_getElem hr)
    rwa [show ((r.toNat : Nat) : Int) = r by omega] at this
  obtain ⟨d, hd, e3⟩ : ∃ d, d ∈ ds ∧ L2.atI ds r = some d := ⟨_, List.getElem_mem hr, e2⟩
  refine ⟨d, h', ?_, hd, b1, o1⟩
  have lv := leave_dat' (d := d) hb b1 o1
  unfold m__law_of
  clear e2 hd hb b1 o1 r0 r1 hr h0 h1 hc
  rcases hx with rfl | rfl <;> walk_at "dl"
end DL
set_option maxHeartbeats 400000
namespace DL
open PySem L2
local macro_rules | `(tactic| walk_at "dl") => `(tactic| simp (config := { dsimp := false }) only [↓fnM_e, ↓sSeq_e, seqK_nx, seqK_rt, seqK_bk, seqK_ct, retK_rt, retK_nx, ↓sFrz_e, frK_some, ↓sAsg, ↓sRet, ↓sRetN, ↓sIf, ↓sExpr, ↓sSkip, ↓sNever, ↓sPar, ↓sFor, ↓sSub, ↓fVar, ↓fC, ↓fNil, ↓fCons, ↓fA, ↓f1, ↓f2, ↓fB, ↓fIf, ↓fNeg, ↓fNot, ↓fAnd, ↓fOr, ↓bNot, ↓bAnd, ↓bOr, ↓bYes, ↓obnd_x, ob_some, ↓sbnd_x, sb_some, ↓ite_x, iteK_t, iteK_f, gN, gT, gC, gE, ↓rng1I, ↓rng2I, ↓seqI, ↓enumA, ↓zipI, ↓strI, ↓fLc, ↓fDc, ↓fM, ↓fSl, ↓oNone, ↓oSome, ↓fRev, wipeE, ↓kwM, permM, permL, List.foldr, List.length_cons, List.length_nil, List.map_cons, List.map_nil, List.cons_append, List.nil_append, List.replicate, List.replicate_succ, List.replicate_zero, List.getElem?_cons_zero, List.getElem?_cons_succ, List.set_cons_zero, List.set_cons_succ, if_true, if_false, reduceIte, Nat.reduceAdd, Nat.reduceSub, Nat.reduceEqDiff, Nat.reduceLT, Nat.reduceLeDiff, Int.reduceLT, Int.reduceLE, Int.reduceNeg, Int.reduceMul, Int.reduceAdd, Int.reduceSub, Int.reduceToNat, Int.reducePow, Int.reduceEq, ok, bok, deref, mkL, lstW, tupW, dats, Option.map_some, appendW, insertW, setL, isL, listW, tupleW, lenW, absW, intC, maxW, minW, idxW, addW, subW_e, modW_e, divW_e, powW_e, mulW, intW, lt_e, gt_e, le_e, ge_e, ltW, allW_e, anyW_e, sumW_e, lW, setW, lstAt, cutW, backW, isW, isiW, iLT_none, iLT_bool, iLT_int, iLT_str, iLT_list, iLT_tup, iL_none, iL_bool, iL_int, iL_str, iL_list, iL_tup, iT_none, iT_bool, iT_int, iT_str, iT_list, iT_tup, iS_none, iS_bool, iS_int, iS_str, iS_list, iS_tup, iI_none, iI_bool, iI_int, iI_str, iI_list, iI_tup, iB_none, iB_bool, iB_int, iB_str, iB_list, iB_tup, Bool.false_eq_true, reduceCtorEq, Bool.not_true, Bool.not_false, decide_true, decide_false, List.zip_cons_cons, List.zip_nil_left, List.foldl_cons, List.foldl_nil, and_self, and_true, true_and, Bool.and_true, Bool.true_and, Bool.or_true, Bool.true_or, *])
/-! ### a call by draws -/
noncomputable def askBody : SM := sSeq (sPar (fCons (fA (m__law_of) (fCons (fVar 0) (fCons (fVar 3) (fNil)))) (fCons (fA (m__law_of) (fCons (fVar 0) (fCons (fVar 5) (fNil)))) (fNil))) [10, 11])
    (sSeq (sAsg (fIf (fB (f2 (eqW false) (fA (m__law_take) (fCons (fVar 0) (fCons (fC (.int 4)) (fNil)))) (fC (.int 0)))) (fVar 10) (fVar 8)) (gN 9))
    (sExpr (fM isL appendW (fVar 2) (fCons (fA tupW (fCons (fVar 8) (fCons (f2 idxW (fA (lstW false) (fCons (fVar 10) (fCons (fVar 10) (fCons (fVar 11) (fCons (fVar 9) (fCons (f2 idxW (fVar 6) (fVar 7)) (fCons (fVar 11) (fNil)))))))) (fVar 4)) (fNil)))) (fNil)))))
theorem eqW_ints {neg : Bool} {i j : Int} {h : Hh} : eqW neg (.dat (.int i)) (.dat (.int j)) h = bok (if neg = true then !decide (i = j) else decide (i = j)) h := by
  rfl
theorem ask_turn {b p : Nat} {x : W} {folk some_ swap fs : List D} {so j r : Int} {a n m w t : Str} {v9 v10 v11 : Option W} {g g1 g2 g3 : Hh} (e1 : m__law_of [.ref b, .dat (.list folk)] g = some (.dat (.str a), g1)) (e2 : m__law_of [.ref b, .dat (.list some_)] g1 = some (.dat (.str n), g2))
    (e3 : m__law_take [.ref b, .dat (.int 4)] g2 = some (.dat (.int r), g3)) (e5 : L2.atI swap j = some (.str w)) (e6 : L2.atI [PyData.str a, .str a, .str n, (if decide (r = 0) = true then .str a else .str m), .str w, .str n] so = some (.str t)) (hg : g3[p]? = some (some (.lst fs))) (hl : fs.length < sizeLine) :
    ∃ v9' : Option W, askBody [some (.ref b), some x, some (.ref p), some (.dat (.list folk)), some (.dat (.int so)), some (.dat (.list some_)), some (.dat (.list swap)), some (.dat (.int j)), some (.dat (.str m)), v9, v10, v11] g =
      some (.nx [some (.ref b), some x, some (.ref p), some (.dat (.list folk)), some (.dat (.int so)), some (.dat (.list some_)), some (.dat (.list swap)), some (.dat (.int j)), some (.dat (.str m)), v9', some (.dat (.str a)), some (.dat (.str n))], g3.set p (some (.lst (fs ++ [.tuple [.str m, .str t]])))) ∧ ∀ k, isR k v9' = false := by
  have e4 := eqW_ints (neg := false) (i := r) (j := 0) (h := g3)
  have c2 : 2 ≤ sizeLine := by decide
  have c6 : 6 ≤ sizeLine := by decide
  unfold askBody
  cases hz : decide (r = 0) with
  | true =>
    rw [hz] at e4 e6
    refine ⟨some (.dat (.str a)), ?_, fun _ => rfl⟩
    clear hz
    simp only [if_true] at e6
    walk_at "dl"
  | false =>
    rw [hz] at e4 e6
    refine ⟨some (.dat (.str m)), ?_, fun _ => rfl⟩
    clear hz
    simp only [Bool.false_eq_true, if_false] at e6
    walk_at "dl"
theorem cut_to {α : Type} (xs : List α) {k : Nat} : cutG xs none (some (k : Int)) = xs.take k := by
  have e : HT.sIx xs.length xs.length (some (k : Int)) = min k xs.length := HT.sIx_nat _ _ _
  have e0 : HT.sIx xs.length 0 none = 0 := rfl
  unfold cutG
  rw [e, e0]
  simp only [List.drop_zero, Nat.sub_zero]
  rw [List.take_eq_take_iff]
  omega
end DL
set_option maxHeartbeats 400000
namespace DL
open PySem L2
local macro_rules | `(tactic| walk_at "dl") => `(tactic| simp (config := { dsimp := false }) only [↓fnM_e, ↓sSeq_e, seqK_nx, seqK_rt, seqK_bk, seqK_ct, retK_rt, retK_nx, ↓sFrz_e, frK_some, ↓sAsg, ↓sRet, ↓sRetN, ↓sIf, ↓sExpr, ↓sSkip, ↓sNever, ↓sPar, ↓sFor, ↓sSub, ↓fVar, ↓fC, ↓fNil, ↓fCons, ↓fA, ↓f1, ↓f2, ↓fB, ↓fIf, ↓fNeg, ↓fNot, ↓fAnd, ↓fOr, ↓bNot, ↓bAnd, ↓bOr, ↓bYes, ↓obnd_x, ob_some, ↓sbnd_x, sb_some, ↓ite_x, iteK_t, iteK_f, gN, gT, gC, gE, ↓rng1I, ↓rng2I, ↓seqI, ↓enumA, ↓zipI, ↓strI, ↓fLc, ↓fDc, ↓fM, ↓fSl, ↓oNone, ↓oSome, ↓fRev, wipeE, ↓kwM, permM, permL, List.foldr, List.length_cons, List.length_nil, List.map_cons, List.map_nil, List.cons_append, List.nil_append, List.replicate, List.replicate_succ, List.replicate_zero, List.getElem?_cons_zero, List.getElem?_cons_succ, List.set_cons_zero, List.set_cons_succ, if_true, if_false, reduceIte, Nat.reduceAdd, Nat.reduceSub, Nat.reduceEqDiff, Nat.reduceLT, Nat.reduceLeDiff, Int.reduceLT, Int.reduceLE, Int.reduceNeg, Int.reduceMul, Int.reduceAdd, Int.reduceSub, Int.reduceToNat, Int.reducePow, Int.reduceEq, ok, bok, deref, mkL, lstW, tupW, dats, Option.map_some, appendW, insertW, setL, isL, listW, tupleW, lenW, absW, intC, maxW, minW, idxW, addW, subW_e, modW_e, divW_e, powW_e, mulW, intW, lt_e, gt_e, le_e, ge_e, ltW, allW_e, anyW_e, sumW_e, lW, setW, lstAt, cutW, backW, isW, isiW, iLT_none, iLT_bool, iLT_int, iLT_str, iLT_list, iLT_tup, iL_none, iL_bool, iL_int, iL_str, iL_list, iL_tup, iT_none, iT_bool, iT_int, iT_str, iT_list, iT_tup, iS_none, iS_bool, iS_int, iS_str, iS_list, iS_tup, iI_none, iI_bool, iI_int, iI_str, iI_list, iI_tup, iB_none, iB_bool, iB_int, iB_str, iB_list, iB_tup, Bool.false_eq_true, reduceCtorEq, Bool.not_true, Bool.not_false, decide_true, decide_false, List.zip_cons_cons, List.zip_nil_left, List.foldl_cons, List.foldl_nil, and_self, and_true, true_and, Bool.and_true, Bool.true_and, Bool.or_true, Bool.true_or, *])
/-! ### a call by draws, all of it -/
theorem ask_run {h g1 g2 g3 g4 g5 : Hh} {b p : Nat} {x : D} {folk st sw ps : List D} {r6 r3 : Int} {k3 : Nat} {v7 v8 v9 v10 v11 : Option W} (e0 : sortW false [.dat x] h = some (.dat (.list folk), h)) (e1 : m__law_take [.ref b, .dat (.int 6)] h = some (.dat (.int r6), g1))
    (e2 : m__law_strewn [.ref b, .dat (.list folk)] g1 = some (.dat (.list st), g2)) (e3 : m__law_take [.ref b, .dat (.int 3)] g2 = some (.dat (.int r3), g3)) (hk : 1 + r3 = (k3 : Int)) (e4 : m__law_strewn [.ref b, .dat (.list folk)] g3 = some (.dat (.list sw), g4)) (hp : p = g4.length)
    (key : forL (gT 2 (gC (gN 7) (gC (gN 8) (gE)))) askBody (enumD 0 folk) [some (.ref b), some (.dat x), some (.ref p), some (.dat (.list folk)), some (.dat (.int r6)), some (.dat (.list (st.take k3))), some (.dat (.list sw)), none, none, none, none, none] (g4 ++ [some (.lst [])]) =
      some (.nx [some (.ref b), some (.dat x), some (.ref p), some (.dat (.list folk)), some (.dat (.int r6)), some (.dat (.list (st.take k3))), some (.dat (.list sw)), v7, v8, v9, v10, v11], g5))
    (h7 : ∀ n, isR n v7 = false) (h8 : ∀ n, isR n v8 = false) (h9 : ∀ n, isR n v9 = false) (h10 : ∀ n, isR n v10 = false) (h11 : ∀ n, isR n v11 = false) (hg : g5[p]? = some (some (.lst ps))) (hbp : (b = p) = False) :
    m__law_ask [.ref b, .dat x] h = leave false h (.dat (.tuple ps)) (g5.set p none) := by
  have c8 : 0 ≤ sizeLine := Nat.zero_le _
  have ct := cut_to st (k := k3)
  have hf : frz 2 [some (.ref b), some (.dat x), some (.ref p), some (.dat (.list folk)), some (.dat (.int r6)), some (.dat (.list (st.take k3))), some (.dat (.list sw)), v7, v8, v9, v10, v11] g5 =
      some ([some (.ref b), some (.dat x), some (.dat (.list ps)), some (.dat (.list folk)), some (.dat (.int r6)), some (.dat (.list (st.take k3))), some (.dat (.list sw)), v7, v8, v9, v10, v11], g5.set p none) := by
    unfold frz
    simp only [List.getElem?_cons_zero, List.getElem?_cons_succ, hg, List.set_cons_zero, List.set_cons_succ, List.any_cons, List.any_nil, h7, h8, h9, h10, h11, isR_ref, isR_dat, isR_none, hbp, decide_false, Bool.or_false, isTab, Bool.false_eq_true, if_false, moD]
  unfold askBody at key
  subst hp
  unfold m__law_ask
  clear h7 h8 h9 h10 h11 hg hbp
  walk_at "dl"
theorem enum_get {r : List Str} {j : Nat} {d : D} (e : (enumD 0 (r.map .str))[j]? = some d) : ∃ hj : j < r.length, d = .tuple [.int (j : Int), .str r[j]] := by
  obtain ⟨s, hs, rfl⟩ := enumD_get e
  rw [List.getElem?_map] at hs
  cases q : r[j]? with
  | none => rw [q] at hs; cases hs
  | some t =>
    rw [q] at hs
    obtain ⟨hj, rfl⟩ := List.getElem?_eq_some_iff.mp q
    cases hs
    exact ⟨hj, by rw [Nat.zero_add]⟩
theorem atI_strs {l : List Str} {j : Nat} (hj : j < l.length) : L2.atI (l.map PyData.str) (j : Int) = some (.str l[j]) :=
  atI_nat (xs := l.map PyData.str) (j := j) (by rw [List.getElem?_map, List.getElem?_eq_getElem hj]; rfl)
theorem app_take {g : Hh} {o : Option MO} {n : Nat} (e : g.length = n) : (g ++ [o]).take n = g := by
  rw [← e, List.take_append_of_le_length (Nat.le_refl _), List.take_length]
theorem app_get {g : Hh} {o : Option MO} {n : Nat} (e : g.length = n) : (g ++ [o])[n]? = some o := by
  rw [List.getElem?_append_right (by omega), e]; simp
theorem app_set {g : Hh} {o o' : Option MO} {n : Nat} (e : g.length = n) : (g ++ [o]).set n o' = g ++ [o'] := by
  rw [List.set_append_right _ _ (by omega), show n - g.length = 0 by omega]; rfl
theorem ask_ok {x : D} {l : List Str} {h : Hh} {b c : Nat} (hx : IsSeq x (l.map .str)) (ht : Txts l) (hb : BoxAt h b c) (hc : c < 1000000) (h0 : 0 < l.length) (h1 : l.length ≤ 1000) :
    ∃ (ps : List (Str × Str)) (h' : Hh), m__law_ask [.ref b, .dat x] h = some (.dat (.tuple (ps.map prT)), h') ∧ ps.map (·.1) = sortS l ∧ (∀ p ∈ ps, p.2 ∈ l) ∧ BoxAt h' b (c + 2 + 5 * l.length) ∧ Only b h h' := by
  have hz : sizeLine = 16777216 := by rfl
  have e0 := sortW_strs (h := h) hx ht
  have sp := sortS_perm l
  have sl := sp.length_eq
  obtain ⟨r6, g1, e1, p1, q1, b1, o1⟩ := take_ok (n := 6) hb (by omega) (by omega) (by omega)
  obtain ⟨st', g2, e2, pm2, b2, o2⟩ := strewn_ok (x := .list ((sortS l).map .str)) (.inl rfl) b1 (by rw [List.length_map]; omega) (by rw [List.length_map]; omega)
  obtain ⟨st, rfl, ps2⟩ := perm_strs pm2
  obtain ⟨r3, g3, e3, p3, q3, b3, o3⟩ := take_ok (n := 3) b2 (by rw [List.length_map]; omega) (by omega) (by omega)
  obtain ⟨sw', g4, e4, pm4, b4, o4⟩ := strewn_ok (x := .list ((sortS l).map .str)) (.inl rfl) b3 (by rw [List.length_map]; omega) (by rw [List.length_map]; omega)
  obtain ⟨sw, rfl, ps4⟩ := perm_strs pm4
  obtain ⟨k3, hk, hk1⟩ : ∃ k3 : Nat, 1 + r3 = (k3 : Int) ∧ 0 < k3 := ⟨(1 + r3).toNat, by omega, by omega⟩
  have b4' : BoxAt g4 b (c + 2 + 2 * l.length) := b4.mono (by rw [List.length_map]; omega)
  have on4 := o1.trans (o2.trans (o3.trans o4))
  have lb := b4.lt
  have swl := ps4.length_eq
  have stl := ps2.length_eq
  have st3 : (st.map PyData.str).take k3 = (st.take k3).map .str := List.map_take.symm
  have st3l : 0 < (st.take k3).length := by rw [List.length_take]; omega
  have st3m : (st.take k3).length ≤ 1000 := by rw [List.length_take]; omega
  have key := forL_inv (k := gT 2 (gC (gN 7) (gC (gN 8) (gE)))) (body := askBody)
    (fun n ρ g => ∃ (v7 v8 v9 v10 v11 : Option W) (ps : List (Str × Str)) (g' : Hh), (∀ n, isR n v7 = false) ∧ (∀ n, isR n v8 = false) ∧ (∀ n, isR n v9 = false) ∧ (∀ n, isR n v10 = false) ∧ (∀ n, isR n v11 = false) ∧
      ρ = [some (.ref b), some (.dat x), some (.ref g4.length), some (.dat (.list ((sortS l).map .str))), some (.dat (.int r6)), some (.dat (.list ((st.take k3).map .str))), some (.dat (.list (sw.map .str))), v7, v8, v9, v10, v11] ∧ g = g' ++ [some (.lst (ps.map prT))] ∧
      ps.map (·.1) = (sortS l).take n ∧ (∀ p ∈ ps, p.2 ∈ l) ∧ BoxAt g' b (c + 2 + 2 * l.length + 3 * n) ∧ Only b g4 g') (ds := enumD 0 ((sortS l).map .str)) (n := 0)
    (ρ := [some (.ref b), some (.dat x), some (.ref g4.length), some (.dat (.list ((sortS l).map .str))), some (.dat (.int r6)), some (.dat (.list ((st.take k3).map .str))), some (.dat (.list (sw.map .str))), none, none, none, none, none]) (h := g4 ++ [some (.lst [])])
    ⟨none, none, none, none, none, [], g4, fun _ => rfl, fun _ => rfl, fun _ => rfl, fun _ => rfl, fun _ => rfl, rfl, rfl, rfl, by simp, b4', .refl _ _⟩ (by
      intro j d ej ρ g hi
      obtain ⟨v7, v8, v9, v10, v11, ps, g', i7, i8, i9, i10, i11, rfl, rfl, pf, pt, bx, on⟩ := hi
      obtain ⟨hj, rfl⟩ := enum_get ej
      rw [Nat.zero_add] at pf bx ⊢
      obtain ⟨d1, k1, f1, m1, bx1, on1⟩ := of_ok (x := .list ((sortS l).map .str)) (.inl rfl) (box_app (l := [some (.lst (ps.map prT))]) bx) (by omega) (by rw [List.length_map]; omega) (by rw [List.length_map]; omega)
      obtain ⟨a, ha, rfl⟩ := List.mem_map.mp m1
      obtain ⟨d2, k2, f2, m2, bx2, on2⟩ := of_ok (x := .list ((st.take k3).map .str)) (.inl rfl) bx1 (by omega) (by rw [List.length_map]; omega) (by rw [List.length_map]; omega)
      obtain ⟨n, hn, rfl⟩ := List.mem_map.mp m2
      obtain ⟨r4, g3', f3, p4, q4, bx3, on3⟩ := take_ok (n := 4) bx2 (by omega) (by omega) (by omega)
      obtain ⟨onA, gA, rfl, gAl⟩ := only_app bx.lt (on1.trans (on2.trans on3))
      have gl := on.len
      have hla : a ∈ l := sp.mem_iff.mp ha
      have hln : n ∈ l := sp.mem_iff.mp (ps2.mem_iff.mp (List.mem_of_mem_take hn))
      have hlm : (sortS l)[j] ∈ l := sp.mem_iff.mp (List.getElem_mem hj)
      have hlw : sw[j]'(by omega) ∈ l := sp.mem_iff.mp (ps4.mem_iff.mp (List.getElem_mem _))
      obtain ⟨t, htl, e6⟩ : ∃ t, t ∈ l ∧ L2.atI [PyData.str a, .str a, .str n, (if decide (r4 = 0) = true then .str a else .str (sortS l)[j]), .str (sw[j]'(by omega)), .str n] r6 = some (.str t) := by
        have : r6 = 0 ∨ r6 = 1 ∨ r6 = 2 ∨ r6 = 3 ∨ r6 = 4 ∨ r6 = 5 := by omega
        rcases this with rfl | rfl | rfl | rfl | rfl | rfl
        · exact ⟨_, hla, rfl⟩
        · exact ⟨_, hla, rfl⟩
        · exact ⟨_, hln, rfl⟩
        · cases decide (r4 = 0)
          · exact ⟨_, hlm, rfl⟩
          · exact ⟨_, hla, rfl⟩
        · exact ⟨_, hlw, rfl⟩
        · exact ⟨_, hln, rfl⟩
      have pl : ps.length = j := by
        have := congrArg List.length pf
        rw [List.length_map, List.length_take] at this
        omega
      obtain ⟨v9', et, h9'⟩ := ask_turn (p := g4.length) (x := .dat x) (v9 := v9) (v10 := v10) (v11 := v11) f1 f2 f3 (atI_strs (l := sw) (j := j) (by omega)) e6 (app_get (by omega)) (by rw [List.length_map]; omega)
      rw [app_set (by omega)] at et
      refine ⟨_, _, _, ?_, et, _, _, v9', _, _, ps ++ [((sortS l)[j], t)], gA, fun _ => rfl, fun _ => rfl, h9', fun _ => rfl, fun _ => rfl, rfl, ?_, ?_, ?_, ?_, ?_⟩
      · clear hz e0 e1 e2 e3 e4 f1 f2 f3 et e6 ej pl
        walk_at "dl"
      · simp
      · rw [List.map_append, pf, take_snoc (List.getElem?_eq_getElem hj)]; rfl
      · intro p hp
        rcases List.mem_append.mp hp with hp | hp
        · exact pt p hp
        · rw [List.mem_singleton] at hp; subst hp; exact htl
      · have := box_take bx3 (n := gA.length) (by rw [gAl]; exact bx.lt)
        rw [app_take rfl] at this
        exact this.mono (by omega)
      · rw [app_take gAl] at onA
        exact on.trans onA)
  obtain ⟨ρ', g5, ek, v7, v8, v9, v10, v11, ps, g', i7, i8, i9, i10, i11, rfl, rfl, pf, pt, bx, on⟩ := key
  rw [Nat.zero_add, enumD_len, List.length_map] at pf bx
  rw [List.take_length] at pf
  refine ⟨ps, g', ?_, pf, pt, bx.mono (by omega), on4.trans on⟩
  have gl := on.len
  rw [ask_run (st := st.map .str) (sw := sw.map .str) (k3 := k3) e0 e1 e2 e3 hk e4 rfl (by rw [st3]; exact ek) i7 i8 i9 i10 i11 (app_get (by omega)) (eq_false (by omega)), app_set (by omega)]
  exact leave_two hb bx (on4.trans on)
end DL
set_option maxHeartbeats 400000
namespace DL
open PySem L2
local macro_rules | `(tactic| walk_at "dl") => `(tactic| simp (config := { dsimp := false }) only [↓fnM_e, ↓sSeq_e, seqK_nx, seqK_rt, seqK_bk, seqK_ct, retK_rt, retK_nx, ↓sFrz_e, frK_some, ↓sAsg, ↓sRet, ↓sRetN, ↓sIf, ↓sExpr, ↓sSkip, ↓sNever, ↓sPar, ↓sFor, ↓sSub, ↓fVar, ↓fC, ↓fNil, ↓fCons, ↓fA, ↓f1, ↓f2, ↓fB, ↓fIf, ↓fNeg, ↓fNot, ↓fAnd, ↓fOr, ↓bNot, ↓bAnd, ↓bOr, ↓bYes, ↓obnd_x, ob_some, ↓sbnd_x, sb_some, ↓ite_x, iteK_t, iteK_f, gN, gT, gC, gE, ↓rng1I, ↓rng2I, ↓seqI, ↓enumA, ↓zipI, ↓strI, ↓fLc, ↓fDc, ↓fM, ↓fSl, ↓oNone, ↓oSome, ↓fRev, wipeE, ↓kwM, permM, permL, List.foldr, List.length_cons, List.length_nil, List.map_cons, List.map_nil, List.cons_append, List.nil_append, List.replicate, List.replicate_succ, List.replicate_zero, List.getElem?_cons_zero, List.getElem?_cons_succ, List.set_cons_zero, List.set_cons_succ, if_true, if_false, reduceIte, Nat.reduceAdd, Nat.reduceSub, Nat.reduceEqDiff, Nat.reduceLT, Nat.reduceLeDiff, Int.reduceLT, Int.reduceLE, Int.reduceNeg, Int.reduceMul, Int.reduceAdd, Int.reduceSub, Int.reduceToNat, Int.reducePow, Int.reduceEq, ok, bok, deref, mkL, lstW, tupW, dats, Option.map_some, appendW, insertW, setL, isL, listW, tupleW, lenW, absW, intC, maxW, minW, idxW, addW, subW_e, modW_e, divW_e, powW_e, mulW, intW, lt_e, gt_e, le_e, ge_e, ltW, allW_e, anyW_e, sumW_e, lW, setW, lstAt, cutW, backW, isW, isiW, iLT_none, iLT_bool, iLT_int, iLT_str, iLT_list, iLT_tup, iL_none, iL_bool, iL_int, iL_str, iL_list, iL_tup, iT_none, iT_bool, iT_int, iT_str, iT_list, iT_tup, iS_none, iS_bool, iS_int, iS_str, iS_list, iS_tup, iI_none, iI_bool, iI_int, iI_str, iI_list, iI_tup, iB_none, iB_bool, iB_int, iB_str, iB_list, iB_tup, Bool.false_eq_true, reduceCtorEq, Bool.not_true, Bool.not_false, decide_true, decide_false, List.zip_cons_cons, List.zip_nil_left, List.foldl_cons, List.foldl_nil, and_self, and_true, true_and, Bool.and_true, Bool.true_and, Bool.or_true, Bool.true_or, *])
/-! ### names and rows that are such -/
def NameOk (s : Str) : Prop := 1 ≤ s.length ∧ s.length ≤ 6 ∧ ∀ c ∈ s.cps.toList, 97 ≤ c ∧ c ≤ 122
theorem nm_name {st sp a : Nat} : NameOk (nm st sp a) := by
  refine ⟨?_, ?_, fun c hc => ?_⟩
  · unfold nm
    rw [len_app]
    show 1 ≤ 1 + _
    omega
  · unfold nm
    rw [len_app]
    have := sfx_le (a % 2 * (1 + st % 2))
    show 1 + _ ≤ _
    omega
  · rw [nm_cps] at hc
    rcases List.mem_cons.mp hc with rfl | hc
    · omega
    · generalize a % 2 * (1 + st % 2) = k at hc
      match k, hc with
      | 0, hc => rw [sfx_len.1] at hc; cases hc
      | 1, hc => rw [sfx_len.2.1] at hc; simp at hc; omega
      | _ + 2, hc =>
        have hc' : c ∈ (sfx 2).cps.toList := hc
        rw [sfx_len.2.2] at hc'; simp at hc'; omega
theorem Crew.names {most : Nat} {rs : List Str} (h : Crew most rs) : ∀ s ∈ rs, NameOk s := fun s hs => by
  obtain ⟨st, sp, a, _, _, rfl⟩ := h.nam s hs
  exact nm_name
theorem letters_mem {c : Nat} (h0 : 97 ≤ c) (h1 : c ≤ 122) : c ∈ letters.cps.toList := by
  have : ∀ i : Fin 26, 97 + i.1 ∈ letters.cps.toList := by decide +kernel
  have := this ⟨c - 97, by omega⟩
  rwa [show 97 + (c - 97) = c by omega] at this
theorem in_letters {c : Nat} {L : Str} {h : Hh} (hm : c ∈ L.cps.toList) : inW false (.dat (.str ⟨#[c]⟩)) (.dat (.str L)) h = some (.dat (.bool true), h) := by
  show bok (decide (c ∈ L.cps.toList)) h = _
  simp only [hm, decide_true]
  rfl
theorem fChain_e (s1 s2 : W → W → Hh → Option (W × Hh)) {f g k : EM} {ρ : Env} {h h1 h2 h3 h4 : Hh} {a b d : W} (e1 : f ρ h = some (a, h1)) (e2 : g ρ h1 = some (b, h2)) (e3 : s1 a b h2 = some (.dat (.bool true), h3)) (e4 : k ρ h3 = some (d, h4)) : fChain s1 s2 f g k ρ h = s2 b d h4 := by
  unfold fChain
  simp only [e1, e2, e3, e4, obnd]
theorem is_name_run {s L : Str} {h : Hh} (hL : L = letters) (h0 : (1 : Int) ≤ (s.length : Int)) (h1 : (s.length : Int) ≤ 6) (hz : s.length ≤ sizeLine) (el : lcL (gN 1) bYes (f2 (inW false) (fVar 1) (fC (.str L))) [some (.dat (.str s)), none] (signs s) h = some (List.replicate (signs s).length (.bool true), h)) (hl : (signs s).length ≤ sizeLine) :
    m_is_name [.dat (.str s)] h = some (.dat (.bool true), h) := by
  have e4 := bools_true (signs s).length
  have e5 := all_true (signs s).length
  have e6 : (List.replicate (signs s).length (PyData.bool true)).length ≤ sizeLine := by simpa using hl
  have lv := leave_same' (h := h) (d := .bool true)
  have ech : fChain le_W le_W (fC (.int 1)) (fA lenW (fCons (fVar 0) (fNil))) (fC (.int 6)) [some (.dat (.str s)), none] h = some (.dat (.bool true), h) := by
    rw [fChain_e le_W le_W (a := .dat (.int 1)) (b := .dat (.int (s.length : Int))) (d := .dat (.int 6)) (h1 := h) (h2 := h) (h3 := h) (h4 := h) rfl]
    · walk_at "dl"
    · walk_at "dl"
    · walk_at "dl"
    · rfl
  subst hL
  unfold m_is_name
  walk_at "dl"
theorem is_name_ok {s : Str} {h : Hh} (hs : NameOk s) : m_is_name [.dat (.str s)] h = some (.dat (.bool true), h) := by
  obtain ⟨h0, h1, h2⟩ := hs
  have hz : sizeLine = 16777216 := rfl
  have hl : (signs s).length = s.length := by simp [signs, Str.length]
  refine is_name_run (L := letters) rfl (by omega) (by omega) (by omega) ?_ (by omega)
  rw [lcL_all (fun _ => .bool true)]
  · congr 2
    apply List.eq_replicate_iff.mpr
    exact ⟨by simp, fun b hb => by obtain ⟨d, hd, rfl⟩ := List.mem_map.mp hb; rfl⟩
  · intro d hd
    unfold signs at hd
    obtain ⟨c, hc, rfl⟩ := List.mem_map.mp hd
    have e := in_letters (h := h) (letters_mem (h2 c hc).1 (h2 c hc).2)
    refine ⟨[some (.dat (.str s)), some (.dat (.str ⟨#[c]⟩))], rfl, rfl, ?_⟩
    generalize letters = L at e
    clear hz hl h0 h1 hd
    walk_at "dl"
def oneD (d : D) : Str × D := (unS d, .bool true)
theorem is_row_ok {l : List Str} {h : Hh} (hs : ∀ s ∈ l, NameOk s) (nd : l.Nodup) (h0 : 0 < l.length) (hl : l.length ≤ 1000) : m_is_row [.dat (.tuple (l.map .str))] h = some (.dat (.bool true), h) := by
  have hz : sizeLine = 16777216 := rfl
  have el : lcL (gN 1) bYes (fA (m_is_name) (fCons (fVar 1) (fNil))) [some (.dat (.tuple (l.map .str))), none] (l.map .str) h = some (List.replicate l.length (.bool true), h) := by
    rw [lcL_all (fun _ => .bool true)]
    · congr 2
      apply List.eq_replicate_iff.mpr
      exact ⟨by simp, fun b hb => by obtain ⟨d, hd, rfl⟩ := List.mem_map.mp hb; rfl⟩
    · intro d hd
      obtain ⟨s, hs', rfl⟩ := List.mem_map.mp hd
      have e := is_name_ok (h := h) (hs s hs')
      refine ⟨[some (.dat (.tuple (l.map .str))), some (.dat (.str s))], rfl, rfl, ?_⟩
      clear hz hd
      walk_at "dl"
  have ed := dcL_sdic (k := gN 1) (fk := fVar 1) (fv := fC (.bool true)) (ρ := [some (.dat (.tuple (l.map .str))), none]) (h := h) oneD (ds := l.map .str) (l := []) (by
      rw [List.nil_append, List.map_map, List.map_map]
      show (l.map fun s => s).Nodup
      rwa [List.map_id']) (by rw [List.nil_append, List.length_map, List.length_map]; omega) (by
      intro d hd
      obtain ⟨s, _, rfl⟩ := List.mem_map.mp hd
      exact ⟨[some (.dat (.tuple (l.map .str))), some (.dat (.str s))], rfl, rfl, rfl⟩)
  rw [List.nil_append] at ed
  have ed' : dcL (gN 1) bYes (fVar 1) (fC (.bool true)) [some (.dat (.tuple (l.map .str))), none] (l.map .str) [] h = some (sdic ((l.map .str).map oneD), h) := ed
  have el2 : ((sdic ((l.map PyData.str).map oneD)).length : Int) = (l.length : Int) := by simp [sdic]
  have el3 : ((l.map PyData.str).length : Int) = (l.length : Int) := by simp
  have it := isT_sdic ((l.map PyData.str).map oneD)
  have e4 := bools_true l.length
  have e5 := all_true l.length
  have e6 : (List.replicate l.length (PyData.bool true)).length ≤ sizeLine := by rw [List.length_replicate]; omega
  have lv := leave_same' (h := h) (d := .bool true)
  have e0 : eqW false (.dat (.int (l.length : Int))) (.dat (.int 0)) h = bok false h := by
    rw [eqW_ints]
    have : decide ((l.length : Int) = 0) = false := by simp; intro z; rw [z] at h0; simp at h0
    rw [this]; rfl
  have e1 := eqW_same (neg := false) (h := h) (eqS_self_int (l.length : Int))
  unfold m_is_row
  clear hz hs nd h0 hl ed
  walk_at "dl"
  simp only [mkK, Bool.false_eq_true, if_false]
  walk_at "dl"
/-! ### lists in the place of all tuples -/
mutual
def lsts : D → D
  | .list ds => .list (lstsA ds)
  | .tuple ds => .list (lstsA ds)
  | d => d
def lstsA : List D → List D
  | [] => []
  | d :: ds => lsts d :: lstsA ds
end
theorem lstsA_map : ∀ ds : List D, lstsA ds = ds.map lsts
  | [] => rfl
  | d :: ds => by rw [lstsA, lstsA_map ds, List.map_cons]
theorem lists_seq {n : Nat} {x : D} {ds : List D} {h : Hh} (ih : ∀ d ∈ ds, m__law_lists n [.dat d] h = some (.dat (lsts d), h)) :
    lcL (gN 1) bYes (fA (m__law_lists n) (fCons (fVar 1) (fNil))) [some (.dat x), none] ds h = some (lstsA ds, h) := by
  rw [lstsA_map]
  apply lcL_all
  intro d hd
  have e := ih d hd
  refine ⟨[some (.dat x), some (.dat d)], rfl, rfl, ?_⟩
  walk_at "dl"
theorem lstsA_len (ds : List D) : (lstsA ds).length = ds.length := by rw [lstsA_map, List.length_map]
theorem lists_ok : ∀ (n : Nat) (d : D) (h : Hh), plainD d = true → d.depth < n → m__law_lists n [.dat d] h = some (.dat (lsts d), h)
  | 0, _, _, _, hd => by omega
  | n + 1, d, h, hp, hd => by
    have tk := fun d : D => leave_same' (h := h) (d := d)
    cases d with
    | none => unfold m__law_lists; rw [show lsts .none = .none from rfl]; walk_at "dl"
    | bool b => unfold m__law_lists; rw [show lsts (.bool b) = .bool b from rfl]; walk_at "dl"
    | int i => unfold m__law_lists; rw [show lsts (.int i) = .int i from rfl]; walk_at "dl"
    | str s => unfold m__law_lists; rw [show lsts (.str s) = .str s from rfl]; walk_at "dl"
    | list ds =>
      simp only [plainD, Bool.and_eq_true, decide_eq_true_eq] at hp
      simp only [PyData.depth] at hd
      have e3 := lists_seq (n := n) (x := .list ds) (ds := ds) (h := h) (fun d hd' => lists_ok n d h (plainDs_mem hp.1 hd') (by have := depthAll_mem hd'; omega))
      have el : (lstsA ds).length ≤ sizeLine := by rw [lstsA_len]; exact hp.2
      rw [show lsts (.list ds) = .list (lstsA ds) from rfl]
      unfold m__law_lists
      clear hd hp
      walk_at "dl"
    | tuple ds =>
      simp only [plainD, Bool.and_eq_true, decide_eq_true_eq] at hp
      simp only [PyData.depth] at hd
      have e3 := lists_seq (n := n) (x := .tuple ds) (ds := ds) (h := h) (fun d hd' => lists_ok n d h (plainDs_mem hp.1 hd') (by have := depthAll_mem hd'; omega))
      have el : (lstsA ds).length ≤ sizeLine := by rw [lstsA_len]; exact hp.2
      rw [show lsts (.tuple ds) = .list (lstsA ds) from rfl]
      unfold m__law_lists
      clear hd hp
      walk_at "dl"
    | dict es => simp [plainD] at hp
theorem lsts_strs (l : List Str) : lstsA (l.map .str) = l.map .str := by
  rw [lstsA_map, List.map_map]; rfl
theorem lsts_call (ps : List (Str × Str)) : lstsA (ps.map prT) = ps.map (prW true) := by
  rw [lstsA_map, List.map_map]; rfl
end DL
set_option maxHeartbeats 400000
namespace DL
open PySem L2
local macro_rules | `(tactic| walk_at "dl") => `(tactic| simp (config := { dsimp := false }) only [↓fnM_e, ↓sSeq_e, seqK_nx, seqK_rt, seqK_bk, seqK_ct, retK_rt, retK_nx, ↓sFrz_e, frK_some, ↓sAsg, ↓sRet, ↓sRetN, ↓sIf, ↓sExpr, ↓sSkip, ↓sNever, ↓sPar, ↓sFor, ↓sSub, ↓fVar, ↓fC, ↓fNil, ↓fCons, ↓fA, ↓f1, ↓f2, ↓fB, ↓fIf, ↓fNeg, ↓fNot, ↓fAnd, ↓fOr, ↓bNot, ↓bAnd, ↓bOr, ↓bYes, ↓obnd_x, ob_some, ↓sbnd_x, sb_some, ↓ite_x, iteK_t, iteK_f, gN, gT, gC, gE, ↓rng1I, ↓rng2I, ↓seqI, ↓enumA, ↓zipI, ↓strI, ↓fLc, ↓fDc, ↓fM, ↓fSl, ↓oNone, ↓oSome, ↓fRev, wipeE, ↓kwM, permM, permL, List.foldr, List.length_cons, List.length_nil, List.map_cons, List.map_nil, List.cons_append, List.nil_append, List.replicate, List.replicate_succ, List.replicate_zero, List.getElem?_cons_zero, List.getElem?_cons_succ, List.set_cons_zero, List.set_cons_succ, if_true, if_false, reduceIte, Nat.reduceAdd, Nat.reduceSub, Nat.reduceEqDiff, Nat.reduceLT, Nat.reduceLeDiff, Int.reduceLT, Int.reduceLE, Int.reduceNeg, Int.reduceMul, Int.reduceAdd, Int.reduceSub, Int.reduceToNat, Int.reducePow, Int.reduceEq, ok, bok, deref, mkL, lstW, tupW, dats, Option.map_some, appendW, insertW, setL, isL, listW, tupleW, lenW, absW, intC, maxW, minW, idxW, addW, subW_e, modW_e, divW_e, powW_e, mulW, intW, lt_e, gt_e, le_e, ge_e, ltW, allW_e, anyW_e, sumW_e, lW, setW, lstAt, cutW, backW, isW, isiW, iLT_none, iLT_bool, iLT_int, iLT_str, iLT_list, iLT_tup, iL_none, iL_bool, iL_int, iL_str, iL_list, iL_tup, iT_none, iT_bool, iT_int, iT_str, iT_list, iT_tup, iS_none, iS_bool, iS_int, iS_str, iS_list, iS_tup, iI_none, iI_bool, iI_int, iI_str, iI_list, iI_tup, iB_none, iB_bool, iB_int, iB_str, iB_list, iB_tup, Bool.false_eq_true, reduceCtorEq, Bool.not_true, Bool.not_false, decide_true, decide_false, List.zip_cons_cons, List.zip_nil_left, List.foldl_cons, List.foldl_nil, and_self, and_true, true_and, Bool.and_true, Bool.true_and, Bool.or_true, Bool.true_or, *])
/-! ### plain things made of texts -/
theorem plain_strs : ∀ l : List Str, plainDs (l.map PyData.str) = true
  | [] => rfl
  | a :: l => by rw [List.map_cons, plainDs, plain_strs l]; rfl
theorem plain_pairs : ∀ ps : List (Str × Str), plainDs (ps.map prT) = true
  | [] => rfl
  | a :: l => by rw [List.map_cons, plainDs, plain_pairs l]; rfl
theorem depth_pairs : ∀ ps : List (Str × Str), PyData.depthAll (ps.map prT) ≤ 1
  | [] => Nat.zero_le _
  | a :: l => by
    rw [List.map_cons, PyData.depthAll]
    have := depth_pairs l
    have e : PyData.depth (prT a) = 1 := rfl
    omega
theorem plain_row {l : List Str} (hl : l.length ≤ 1000) : plainD (.tuple (l.map .str)) = true := by
  rw [plainD, plain_strs, Bool.true_and, decide_eq_true_eq, List.length_map]
  exact Nat.le_trans hl (by decide)
theorem plain_call {ps : List (Str × Str)} (hl : ps.length ≤ 1000) : plainD (.tuple (ps.map prT)) = true := by
  rw [plainD, plain_pairs, Bool.true_and, decide_eq_true_eq, List.length_map]
  exact Nat.le_trans hl (by decide)
theorem depth_row (l : List Str) : PyData.depth (.tuple (l.map .str)) = 1 := by rw [PyData.depth, depth_strs]
theorem depth_call (ps : List (Str × Str)) : PyData.depth (.tuple (ps.map prT)) ≤ 2 := by
  rw [PyData.depth]
  have := depth_pairs ps
  omega
abbrev TxtP (ps : List (Str × Str)) : Prop := ∀ p ∈ ps, TxtOk p.1 ∧ TxtOk p.2
theorem CallOf.txts {r : List Str} {ps : List (Str × Str)} (c : CallOf r ps) (ht : Txts r) : TxtP ps := fun p hp =>
  ⟨ht _ (c.perm.mem_iff.mp (List.mem_map.mpr ⟨p, hp, rfl⟩)), ht _ (c.tgt p hp)⟩
theorem tx_pairs : ∀ {ps : List (Str × Str)}, TxtP ps → txDs (ps.map prT) = true
  | [], _ => rfl
  | p :: ps, h => by
    obtain ⟨h1, h2⟩ := h p List.mem_cons_self
    rw [List.map_cons, txDs, tx_pairs fun q hq => h q (List.mem_cons_of_mem _ hq)]
    simp only [prT, txD, txDs, tx_str h1, tx_str h2, Bool.and_true]
    have a := tx_str h1
    have b := tx_str h2
    rw [txD] at a b
    rw [a, b]; rfl
theorem cost_pairs : ∀ {ps : List (Str × Str)}, TxtP ps → costDs (ps.map prT) ≤ 2013 * ps.length
  | [], _ => Nat.le_refl _
  | p :: ps, h => by
    obtain ⟨h1, h2⟩ := h p List.mem_cons_self
    have ih := cost_pairs fun q hq => h q (List.mem_cons_of_mem _ hq)
    have a := h1.1
    have b := h2.1
    rw [List.map_cons, costDs, List.length_cons]
    have e : costD (prT p) = (10 * p.1.length + 2) + 2 + ((10 * p.2.length + 2) + 2 + 0) + 3 := by simp [prT, costD, costDs]
    omega
theorem tx_row {l : List Str} (ht : Txts l) : txD (.tuple (l.map .str)) = true := by rw [txD]; exact tx_strs ht
theorem tx_call {ps : List (Str × Str)} (ht : TxtP ps) : txD (.tuple (ps.map prT)) = true := by rw [txD]; exact tx_pairs ht
theorem cost_row {l : List Str} (ht : Txts l) (hl : l.length ≤ 1000) : costD (.tuple (l.map .str)) ≤ 1004003 := by
  rw [costD]
  have := cost_strs ht
  omega
theorem cost_call {ps : List (Str × Str)} (ht : TxtP ps) (hl : ps.length ≤ 1000) : costD (.tuple (ps.map prT)) ≤ 2013003 := by
  rw [costD]
  have := cost_pairs ht
  omega
theorem repr_row_call {r : List Str} {ps : List (Str × Str)} {h : Hh} (ht : Txts r) (hp : TxtP ps) (hl : r.length ≤ 1000) (hl2 : ps.length ≤ 1000) : reprW [.dat (.list [.tuple (r.map .str), .tuple (ps.map prT)])] h = some (.dat (.str (PyData.list [.tuple (r.map .str), .tuple (ps.map prT)]).shown), h) := by
  apply repr_ok rfl
  · rw [txD, txDs, txDs, txDs, tx_row ht, tx_call hp]; rfl
  · rw [PyData.depth, PyData.depthAll, PyData.depthAll, PyData.depthAll, depth_row]
    have := depth_call ps
    omega
  · rw [costD, costDs, costDs, costDs]
    have := cost_row ht hl
    have := cost_call hp hl2
    omega
/-! ### what the law itself makes of a call -/
theorem prTx_pairs : ∀ ps : List (Str × Str), prTx (ps.map prT) = some ps
  | [] => rfl
  | p :: ps => by
    rw [List.map_cons]
    show (prTx (ps.map prT)).map ((p.1, p.2) :: ·) = _
    rw [prTx_pairs ps]; rfl
theorem callD_pairs {ps : List (Str × Str)} (h0 : 0 < ps.length) (nd : (ps.map (·.1)).Nodup) : callD (ps.map prT) = true := by
  suffices e : pairD (ps.map prT) = true by
    unfold callD
    rw [e, Bool.true_or]
  unfold pairD
  rw [prTx_pairs]
  cases ps with
  | nil => simp at h0
  | cons p ps => simp only [List.isEmpty_cons, Bool.not_false, Bool.true_and, decide_eq_true_eq]; exact nd
theorem prs_tld (ps : List (Str × Str)) : ps.map prT = prs (tld ps) := by
  unfold prs tld
  rw [List.map_map]; rfl
theorem dict_call {ps : List (Str × Str)} {h : Hh} (h0 : 0 < ps.length) (nd : (ps.map (·.1)).Nodup) : dictA false [.dat (.tuple (ps.map prT))] h = some (.dat (.dict (sdic (tld ps))), h) := by
  have e := pairsK_prs (tld ps)
  have e2 := merge_sdic (tld ps) [] (by rw [List.nil_append, tld_keys]; exact nd)
  have e3 : mergeD [] ((tld ps).map fun p => (Sum.inr p.1, p.2)) = sdic (tld ps) := e2
  have ec := callD_pairs h0 nd
  unfold dictA
  simp only [deref, ec, if_true]
  rw [prs_tld, e]
  simp only [e3, mkK, Bool.false_eq_true, if_false]
def swapT : D → D
  | .tuple [i, s] => .tuple [s, i]
  | d => d
theorem swap_plc : ∀ (k : Nat) (r : List Str), (enumD k (r.map .str)).map swapT = prs (plc k r)
  | _, [] => rfl
  | k, s :: r => by rw [List.map_cons, enumD, List.map_cons, swap_plc (k + 1) r]; rfl
theorem dict_plc {r : List Str} {h : Hh} (nd : r.Nodup) : dictA false [.dat (.list (prs (plc 0 r)))] h = some (.dat (.dict (sdic (plc 0 r))), h) := by
  have e := pairsK_prs (plc 0 r)
  have e2 := merge_sdic (plc 0 r) [] (by rw [List.nil_append, plc_keys]; exact nd)
  have e3 : mergeD [] ((plc 0 r).map fun p => (Sum.inr p.1, p.2)) = sdic (plc 0 r) := e2
  unfold dictA dictW
  simp only [deref, e, e3, mkK, Bool.false_eq_true, if_false]
/-- where somebody stands behind the call, as the law tells it -/
def keyD (r : List Str) (ps : List (Str × Str)) (s : Str) : D := .tuple [.int ((keyN r ps s).1 : Int), .int ((keyN r ps s).2 : Int)]
theorem sortD_keys (r : List Str) (ps : List (Str × Str)) : sortD (r.map (keyD r ps)) = (led r ps).map (keyD r ps) := by
  unfold sortD led
  rw [← PySem.W.sort_maps (r := fun a b => leK (keyN r ps a) (keyN r ps b)) (s := PySem.W.dataLe false fun d : D => d) (keyD r ps) (l := r) fun a _ b _ => ?_]
  show leK (keyN r ps a) (keyN r ps b) = !PySem.W.dataLt (keyD r ps b) (keyD r ps a)
  unfold keyD
  rw [PySem.W.dataLt_ii]
  unfold leK
  rw [← decide_not]
  simp only [decide_eq_decide]
  omega
theorem sortable_keys (r : List Str) (ps : List (Str × Str)) : sortable (r.map (keyD r ps)) = true := by
  unfold sortable
  have h1 : ((r.map (keyD r ps)).all fun d => (r.map (keyD r ps)).all fun e => PySem.W.alike d e) = true := by
    rw [List.all_eq_true]
    intro d hd
    rw [List.all_eq_true]
    intro e he
    obtain ⟨a, _, rfl⟩ := List.mem_map.mp hd
    obtain ⟨b, _, rfl⟩ := List.mem_map.mp he
    simp [keyD, PySem.W.alike, PySem.W.alikeAll]
  have h3 : (r.map (keyD r ps)).all shp = true := by
    rw [List.all_eq_true]
    intro d hd
    obtain ⟨a, _, rfl⟩ := List.mem_map.mp hd
    simp [keyD, shp, PyData.canLay0, PyData.canLayAll0, PyData.depth, PyData.depthAll]
  rw [h1, h3]
  simp only [Bool.true_and, Bool.and_true, Bool.or_eq_true]
  left
  rw [List.all_eq_true]
  intro d hd
  obtain ⟨a, _, rfl⟩ := List.mem_map.mp hd
  rfl
end DL
set_option maxHeartbeats 400000
namespace DL
open PySem L2
local macro_rules | `(tactic| walk_at "dl") => `(tactic| simp (config := { dsimp := false }) only [↓fnM_e, ↓sSeq_e, seqK_nx, seqK_rt, seqK_bk, seqK_ct, retK_rt, retK_nx, ↓sFrz_e, frK_some, ↓sAsg, ↓sRet, ↓sRetN, ↓sIf, ↓sExpr, ↓sSkip, ↓sNever, ↓sPar, ↓sFor, ↓sSub, ↓fVar, ↓fC, ↓fNil, ↓fCons, ↓fA, ↓f1, ↓f2, ↓fB, ↓fIf, ↓fNeg, ↓fNot, ↓fAnd, ↓fOr, ↓bNot, ↓bAnd, ↓bOr, ↓bYes, ↓obnd_x, ob_some, ↓sbnd_x, sb_some, ↓ite_x, iteK_t, iteK_f, gN, gT, gC, gE, ↓rng1I, ↓rng2I, ↓seqI, ↓enumA, ↓zipI, ↓strI, ↓fLc, ↓fDc, ↓fM, ↓fSl, ↓oNone, ↓oSome, ↓fRev, wipeE, ↓kwM, permM, permL, List.foldr, List.length_cons, List.length_nil, List.map_cons, List.map_nil, List.cons_append, List.nil_append, List.replicate, List.replicate_succ, List.replicate_zero, List.getElem?_cons_zero, List.getElem?_cons_succ, List.set_cons_zero, List.set_cons_succ, if_true, if_false, reduceIte, Nat.reduceAdd, Nat.reduceSub, Nat.reduceEqDiff, Nat.reduceLT, Nat.reduceLeDiff, Int.reduceLT, Int.reduceLE, Int.reduceNeg, Int.reduceMul, Int.reduceAdd, Int.reduceSub, Int.reduceToNat, Int.reducePow, Int.reduceEq, ok, bok, deref, mkL, lstW, tupW, dats, Option.map_some, appendW, insertW, setL, isL, listW, tupleW, lenW, absW, intC, maxW, minW, idxW, addW, subW_e, modW_e, divW_e, powW_e, mulW, intW, lt_e, gt_e, le_e, ge_e, ltW, allW_e, anyW_e, sumW_e, lW, setW, lstAt, cutW, backW, isW, isiW, iLT_none, iLT_bool, iLT_int, iLT_str, iLT_list, iLT_tup, iL_none, iL_bool, iL_int, iL_str, iL_list, iL_tup, iT_none, iT_bool, iT_int, iT_str, iT_list, iT_tup, iS_none, iS_bool, iS_int, iS_str, iS_list, iS_tup, iI_none, iI_bool, iI_int, iI_str, iI_list, iI_tup, iB_none, iB_bool, iB_int, iB_str, iB_list, iB_tup, Bool.false_eq_true, reduceCtorEq, Bool.not_true, Bool.not_false, decide_true, decide_false, List.zip_cons_cons, List.zip_nil_left, List.foldl_cons, List.foldl_nil, and_self, and_true, true_and, Bool.and_true, Bool.true_and, Bool.or_true, Bool.true_or, *])
theorem atI_idx {r : List Str} {s : Str} (hs : s ∈ r) : L2.atI (r.map PyData.str) ((r.idxOf s : Nat) : Int) = some (.str s) := by
  have h1 := List.idxOf_lt_length_of_mem hs
  rw [atI_strs h1, List.getElem_idxOf h1]
def unK (r : List Str) : D → D
  | .tuple [_, .int i] => (L2.atI (r.map PyData.str) i).getD .none
  | _ => .none
theorem led_ok {x : D} {r : List Str} {ps : List (Str × Str)} {h : Hh} (hx : IsSeq x (r.map .str)) (c : CallOf r ps) (nd : r.Nodup) (h0 : 0 < r.length) (hl : r.length ≤ 1000) : m__law_led [.dat x, .dat (.tuple (ps.map prT))] h = some (.dat (.tuple ((led r ps).map .str)), h) := by
  have hz : sizeLine = 16777216 := rfl
  have hpl : ps.length = r.length := by have := c.perm.length_eq; rw [List.length_map] at this; exact this
  have e1 := dict_call (h := h) (ps := ps) (by omega) (c.nodup nd)
  have e2 := dict_plc (h := h) nd
  have ll : (led r ps).length = r.length := (led_perm r ps).length_eq
  have c2 : 2 ≤ sizeLine := by decide
  have l1 : lcL (gT 2 (gC (gN 5) (gC (gN 6) (gE)))) (bYes) (fA tupW (fCons (fVar 6) (fCons (fVar 5) (fNil)))) [some (.dat x), some (.dat (.tuple (ps.map prT))), none, none, none, none, none] (enumD 0 (r.map .str)) h = some (prs (plc 0 r), h) := by
    rw [lcL_all swapT (ds := enumD 0 (r.map .str)), swap_plc]
    intro d hd
    obtain ⟨i, s, rfl⟩ := enum_mem hd
    refine ⟨[some (.dat x), some (.dat (.tuple (ps.map prT))), none, none, none, some (.dat (.int i)), some (.dat (.str s))], ?_, rfl, ?_⟩
    · clear e1 e2 hd hz hpl ll hx
      walk_at "dl"
    · clear e1 e2 hd hz hpl ll hx
      walk_at "dl"
      rfl
  have l2 : lcL (gN 6) (bYes) (fA tupW (fCons (f2 idxW (fVar 3) (f2 idxW (fVar 2) (fVar 6))) (fCons (f2 idxW (fVar 3) (fVar 6)) (fNil)))) [some (.dat x), some (.dat (.tuple (ps.map prT))), some (.dat (.dict (sdic (tld ps)))), some (.dat (.dict (sdic (plc 0 r)))), none, none, none] (r.map .str) h = some (r.map (keyD r ps), h) := by
    rw [lcL_all (fun d => keyD r ps (unS d)) (ds := r.map .str), List.map_map]
    · rfl
    · intro d hd
      obtain ⟨s, hs, rfl⟩ := List.mem_map.mp hd
      obtain ⟨k1, k2⟩ := c.goal_mem hs
      have g1 : getD (sdic (tld ps)) (.str s) = some (some (.str (goal ps s))) := by rw [getD_sdic, look_tld, k1]; rfl
      have g2 : getD (sdic (plc 0 r)) (.str (goal ps s)) = some (some (.int (r.idxOf (goal ps s) : Int))) := by rw [getD_sdic, plc_look, if_pos k2, Nat.zero_add]
      have g3 : getD (sdic (plc 0 r)) (.str s) = some (some (.int (r.idxOf s : Int))) := by rw [getD_sdic, plc_look, if_pos hs, Nat.zero_add]
      refine ⟨[some (.dat x), some (.dat (.tuple (ps.map prT))), some (.dat (.dict (sdic (tld ps)))), some (.dat (.dict (sdic (plc 0 r)))), none, none, some (.dat (.str s))], rfl, rfl, ?_⟩
      clear e1 e2 hd hz hpl ll hx l1 k1 k2 hs
      walk_at "dl"
      rfl
  have e3 : sortW false [.dat (.list (r.map (keyD r ps)))] h = some (.dat (.list ((led r ps).map (keyD r ps))), h) := by
    unfold sortW
    simp only [deref, sortable_keys, sortD_keys, if_true]
    rfl
  have l3 : lcL (gT 2 (gC (gN 4) (gC (gN 5) (gE)))) (bYes) (f2 idxW (fVar 0) (fVar 5)) [some (.dat x), some (.dat (.tuple (ps.map prT))), some (.dat (.dict (sdic (tld ps)))), some (.dat (.dict (sdic (plc 0 r)))), none, none, none] ((led r ps).map (keyD r ps)) h = some ((led r ps).map .str, h) := by
    rw [lcL_all (unK r) (ds := (led r ps).map (keyD r ps)), List.map_map]
    · congr 2
      apply List.map_congr_left
      intro s hs
      show (L2.atI (r.map PyData.str) ((r.idxOf s : Nat) : Int)).getD .none = _
      rw [atI_idx ((led_perm r ps).mem_iff.mp hs)]; rfl
    · intro d hd
      obtain ⟨s, hs, rfl⟩ := List.mem_map.mp hd
      have g := atI_idx ((led_perm r ps).mem_iff.mp hs)
      refine ⟨[some (.dat x), some (.dat (.tuple (ps.map prT))), some (.dat (.dict (sdic (tld ps)))), some (.dat (.dict (sdic (plc 0 r)))), some (.dat (.int ((keyN r ps s).1 : Int))), some (.dat (.int ((keyN r ps s).2 : Int))), none], ?_, rfl, ?_⟩
      · clear e1 e2 e3 hd hz hpl ll hx l1 l2 hs g
        unfold keyD
        walk_at "dl"
      · show _ = some (W.dat ((L2.atI (r.map PyData.str) ((r.idxOf s : Nat) : Int)).getD .none), h)
        rw [g]
        have g' : L2.atI (r.map PyData.str) (((keyN r ps s).2 : Nat) : Int) = some (.str s) := g
        clear e1 e2 e3 hd hz hpl ll l1 l2 hs g
        rcases hx with rfl | rfl <;> (walk_at "dl"; try rfl)
  have l4 : (prs (plc 0 r)).length ≤ sizeLine := by
    have : (prs (plc 0 r)).length = r.length := by
      unfold prs
      rw [List.length_map, ← List.length_map (f := fun p : Str × D => p.1), plc_keys]
    omega
  have l5 : (r.map (keyD r ps)).length ≤ sizeLine := by rw [List.length_map]; omega
  have l6 : ((led r ps).map PyData.str).length ≤ sizeLine := by rw [List.length_map]; omega
  have lv := leave_same' (h := h) (d := .tuple ((led r ps).map .str))
  unfold m__law_led
  clear c nd h0 hl hz hpl ll
  rcases hx with rfl | rfl <;> walk_at "dl"
/-! ### calls that leave the row -/
theorem led_self {r : List Str} {ps : List (Str × Str)} (h : r.Pairwise fun a b => leK (keyN r ps a) (keyN r ps b) = true) : led r ps = r := List.mergeSort_of_pairwise h
theorem goal_stay : ∀ (l : List Str) (s : Str), goal (l.map fun s => (s, s)) s = s
  | [], s => rfl
  | t :: l, s => by
    have ih := goal_stay l s
    unfold goal at ih ⊢
    rw [List.map_cons, List.lookup_cons]
    cases e : s == t with
    | true => have : s = t := by simpa using e
              subst this; rfl
    | false => exact ih
theorem goal_all {a : Str} : ∀ {l : List Str} {s : Str}, s ∈ l → goal (l.map fun t => (t, a)) s = a
  | [], s, h => by cases h
  | t :: l, s, h => by
    unfold goal
    rw [List.map_cons, List.lookup_cons]
    cases e : s == t with
    | true => rfl
    | false =>
      have hne : s ≠ t := by simpa using e
      rcases List.mem_cons.mp h with z | h
      · exact absurd z hne
      · have ih := goal_all (a := a) h
        unfold goal at ih
        exact ih
theorem pw_idx {r : List Str} (nd : r.Nodup) : r.Pairwise fun a b => r.idxOf a < r.idxOf b := by
  rw [List.pairwise_iff_getElem]
  intro i j hi hj hij
  rw [idx_of nd hi, idx_of nd hj]
  exact hij
theorem call_stay {r l : List Str} (p : l.Perm r) : CallOf r (l.map fun s => (s, s)) := by
  refine ⟨?_, fun q hq => ?_⟩
  · rw [List.map_map]
    show (l.map fun s => s).Perm r
    rwa [List.map_id']
  · obtain ⟨s, hs, rfl⟩ := List.mem_map.mp hq
    exact p.mem_iff.mp hs
theorem call_all {r l : List Str} {a : Str} (p : l.Perm r) (ha : a ∈ r) : CallOf r (l.map fun s => (s, a)) := by
  refine ⟨?_, fun q hq => ?_⟩
  · rw [List.map_map]
    show (l.map fun s => s).Perm r
    rwa [List.map_id']
  · obtain ⟨s, hs, rfl⟩ := List.mem_map.mp hq
    exact ha
theorem led_stay {r : List Str} (nd : r.Nodup) (l : List Str) : led r (l.map fun s => (s, s)) = r := led_self (by
  refine (pw_idx nd).imp ?_
  intro a b hab
  unfold leK keyN
  simp only [goal_stay, decide_eq_true_eq]
  omega)
theorem led_all {r : List Str} (nd : r.Nodup) {l : List Str} (p : l.Perm r) (a : Str) : led r (l.map fun t => (t, a)) = r := led_self (by
  refine List.Pairwise.imp_of_mem ?_ (pw_idx nd)
  intro x y hx hy hab
  have e1 := goal_all (a := a) (p.mem_iff.mpr hx)
  have e2 := goal_all (a := a) (p.mem_iff.mpr hy)
  unfold leK keyN
  rw [e1, e2, decide_eq_true_eq]
  exact .inr ⟨rfl, Nat.le_of_lt hab⟩)
theorem led_nodup {r : List Str} (nd : r.Nodup) (ps : List (Str × Str)) : (led r ps).Nodup := (led_perm r ps).nodup_iff.mpr nd
end DL
set_option maxHeartbeats 400000
namespace DL
open PySem L2
local macro_rules | `(tactic| walk_at "dl") => `(tactic| simp (config := { dsimp := false }) only [↓fnM_e, ↓sSeq_e, seqK_nx, seqK_rt, seqK_bk, seqK_ct, retK_rt, retK_nx, ↓sFrz_e, frK_some, ↓sAsg, ↓sRet, ↓sRetN, ↓sIf, ↓sExpr, ↓sSkip, ↓sNever, ↓sPar, ↓sFor, ↓sSub, ↓fVar, ↓fC, ↓fNil, ↓fCons, ↓fA, ↓f1, ↓f2, ↓fB, ↓fIf, ↓fNeg, ↓fNot, ↓fAnd, ↓fOr, ↓bNot, ↓bAnd, ↓bOr, ↓bYes, ↓obnd_x, ob_some, ↓sbnd_x, sb_some, ↓ite_x, iteK_t, iteK_f, gN, gT, gC, gE, ↓rng1I, ↓rng2I, ↓seqI, ↓enumA, ↓zipI, ↓strI, ↓fLc, ↓fDc, ↓fM, ↓fSl, ↓oNone, ↓oSome, ↓fRev, wipeE, ↓kwM, permM, permL, List.foldr, List.length_cons, List.length_nil, List.map_cons, List.map_nil, List.cons_append, List.nil_append, List.replicate, List.replicate_succ, List.replicate_zero, List.getElem?_cons_zero, List.getElem?_cons_succ, List.set_cons_zero, List.set_cons_succ, if_true, if_false, reduceIte, Nat.reduceAdd, Nat.reduceSub, Nat.reduceEqDiff, Nat.reduceLT, Nat.reduceLeDiff, Int.reduceLT, Int.reduceLE, Int.reduceNeg, Int.reduceMul, Int.reduceAdd, Int.reduceSub, Int.reduceToNat, Int.reducePow, Int.reduceEq, ok, bok, deref, mkL, lstW, tupW, dats, Option.map_some, appendW, insertW, setL, isL, listW, tupleW, lenW, absW, intC, maxW, minW, idxW, addW, subW_e, modW_e, divW_e, powW_e, mulW, intW, lt_e, gt_e, le_e, ge_e, ltW, allW_e, anyW_e, sumW_e, lW, setW, lstAt, cutW, backW, isW, isiW, iLT_none, iLT_bool, iLT_int, iLT_str, iLT_list, iLT_tup, iL_none, iL_bool, iL_int, iL_str, iL_list, iL_tup, iT_none, iT_bool, iT_int, iT_str, iT_list, iT_tup, iS_none, iS_bool, iS_int, iS_str, iS_list, iS_tup, iI_none, iI_bool, iI_int, iI_str, iI_list, iI_tup, iB_none, iB_bool, iB_int, iB_str, iB_list, iB_tup, Bool.false_eq_true, reduceCtorEq, Bool.not_true, Bool.not_false, decide_true, decide_false, List.zip_cons_cons, List.zip_nil_left, List.foldl_cons, List.foldl_nil, and_self, and_true, true_and, Bool.and_true, Bool.true_and, Bool.or_true, Bool.true_or, *])
/-! ### people, with one more -/
structure Folk (most : Nat) (rs : List Str) : Prop where
  nd : rs.Nodup
  pos : 0 < rs.length
  le : rs.length ≤ most
  nam : ∀ s ∈ rs, NameOk s
theorem NameOk.txt {s : Str} (h : NameOk s) : TxtOk s := ⟨by have := h.2.1; omega, fun c hc => by have := h.2.2 c hc; omega⟩
theorem Folk.txts {n : Nat} {rs : List Str} (h : Folk n rs) : Txts rs := fun s hs => (h.nam s hs).txt
theorem Crew.folk {n : Nat} {rs : List Str} (h : Crew n rs) : Folk n rs := ⟨h.nd, h.pos, h.le, h.names⟩
theorem Folk.perm {n : Nat} {rs ms : List Str} (h : Folk n rs) (p : ms.Perm rs) : Folk n ms := ⟨p.nodup_iff.mpr h.nd, by rw [p.length_eq]; exact h.pos, by rw [p.length_eq]; exact h.le, fun s hs => h.nam s (p.mem_iff.mp hs)⟩
abbrev qqq : Str := "qqq"
theorem qqq_cps : qqq.cps.toList = [113, 113, 113] := by decide +kernel
theorem qqq_nm {st sp a : Nat} : nm st sp a ≠ qqq := fun e => by
  have e' := congrArg (fun s : Str => s.cps.toList) e
  simp only [nm_cps, qqq_cps] at e'
  injection e' with _ e2
  generalize a % 2 * (1 + st % 2) = k at e2
  match k, e2 with
  | 0, e2 => rw [sfx_len.1] at e2; cases e2
  | 1, e2 => rw [sfx_len.2.1] at e2; simp at e2
  | _ + 2, e2 =>
    have e3 : (sfx 2).cps.toList = [113, 113] := e2
    rw [sfx_len.2.2] at e3; simp at e3
theorem qqq_len : qqq.length = 3 := by decide +kernel
theorem Crew.more {n : Nat} {rs : List Str} (h : Crew n rs) : Folk (n + 1) (rs ++ [qqq]) ∧ 2 ≤ (rs ++ [qqq]).length := by
  refine ⟨⟨?_, by simp, by simp; exact h.le, fun s hs => ?_⟩, by simp; exact h.pos⟩
  · rw [List.nodup_append]
    refine ⟨h.nd, by simp, fun a ha b hb e => ?_⟩
    rw [List.mem_singleton] at hb
    subst hb e
    obtain ⟨st, sp, x, _, _, e⟩ := h.nam _ ha
    exact qqq_nm e.symm
  · rcases List.mem_append.mp hs with hs | hs
    · exact h.names s hs
    · rw [List.mem_singleton] at hs
      subst hs
      refine ⟨by rw [qqq_len]; omega, by rw [qqq_len]; omega, fun c hc => ?_⟩
      rw [qqq_cps] at hc
      simp at hc
      omega
/-! ### two unlike ones -/
theorem two_run {b : Nat} {x : D} {ds : List D} {h g1 g2 : Hh} {i j n : Int} {d e : D} (hx : IsSeq x ds) (hn : (ds.length : Int) = n) (e1 : m__law_take [.ref b, .dat (.int n)] h = some (.dat (.int i), g1)) (e2 : m__law_take [.ref b, .dat (.int (n - 1))] g1 = some (.dat (.int j), g2)) (n0 : 0 < n)
    (a1 : L2.atI ds i = some d) (a2 : L2.atI ds ((i + 1 + j) % n) = some e) : m__law_two [.ref b, .dat x] h = leave false h (.dat (.tuple [d, e])) g2 := by
  have c2 : 2 ≤ sizeLine := by decide
  have m1 : decide (0 < n) = true := by simpa using n0
  unfold m__law_two
  clear n0
  rcases hx with rfl | rfl <;> walk_at "dl"
theorem two_ok {x : D} {l : List Str} {h : Hh} {b c : Nat} (hx : IsSeq x (l.map .str)) (nd : l.Nodup) (hb : BoxAt h b c) (hc : c < 1000000000) (h0 : 2 ≤ l.length) (h1 : l.length ≤ 1000) :
    ∃ (a e : Str) (h' : Hh), m__law_two [.ref b, .dat x] h = some (.dat (prT (a, e)), h') ∧ a ∈ l ∧ e ∈ l ∧ a ≠ e ∧ BoxAt h' b (c + 2) ∧ Only b h h' := by
  obtain ⟨i, g1, e1, i0, i1, b1, o1⟩ := take_ok (n := (l.length : Int)) hb (by omega) (by omega) (by omega)
  obtain ⟨j, g2, e2, j0, j1, b2, o2⟩ := take_ok (n := (l.length : Int) - 1) b1 (by omega) (by omega) (by omega)
  obtain ⟨i, rfl⟩ : ∃ k : Nat, i = k := ⟨i.toNat, by omega⟩
  obtain ⟨j, rfl⟩ : ∃ k : Nat, j = k := ⟨j.toNat, by omega⟩
  have hi : i < l.length := by omega
  have hk : (i + 1 + j) % l.length < l.length := Nat.mod_lt _ (by omega)
  have ek : ((i : Int) + 1 + (j : Int)) % (l.length : Int) = (((i + 1 + j) % l.length : Nat) : Int) := by push_cast; rfl
  have hne : i ≠ (i + 1 + j) % l.length := by
    intro z
    rcases Nat.lt_or_ge (i + 1 + j) l.length with q | q
    · rw [Nat.mod_eq_of_lt q] at z; omega
    · rw [Nat.mod_eq_sub_mod q, Nat.mod_eq_of_lt (by omega)] at z; omega
  refine ⟨l[i], l[(i + 1 + j) % l.length], g2, ?_, List.getElem_mem _, List.getElem_mem _, fun z => hne (by have q := congrArg l.idxOf z; rwa [idx_of nd hi, idx_of nd hk] at q), b2, o1.trans o2⟩
  rw [two_run (n := (l.length : Int)) hx (by rw [List.length_map]) e1 e2 (by omega) (atI_strs hi) (by rw [ek]; exact atI_strs hk)]
  exact leave_dat' hb b2 (o1.trans o2)
/-! ### words by draws -/
abbrev cT (ps : List (Str × Str)) : D := .tuple (ps.map prT)
theorem asks_run {b : Nat} {x : D} {h g1 g2 : Hh} {n r : Int} {cs : List D} (e1 : m__law_take [.ref b, .dat (.int (n + 1))] h = some (.dat (.int r), g1)) (b0 : -1000000000 ≤ r) (b1 : r ≤ 1000000000) (hl : cs.length ≤ sizeLine)
    (e2 : lcL (gN 3) bYes (fA (m__law_ask) (fCons (fVar 0) (fCons (fVar 1) (fNil)))) [some (.ref b), some (.dat x), some (.dat (.int n)), none] (rngD 0 r.toNat) g1 = some (cs, g2)) :
    m__law_asks [.ref b, .dat x, .dat (.int n)] h = leave false h (.dat (.list cs)) g2 := by
  unfold m__law_asks
  walk_at "dl"
/-- calls of the people of r -/
abbrev Words (r : List Str) (ws : List (List (Str × Str))) : Prop := ∀ ps ∈ ws, CallOf r ps
theorem Words.perm {r r' : List Str} {ws : List (List (Str × Str))} (h : Words r ws) (p : r.Perm r') : Words r' ws := fun ps hp => (h ps hp).of_perm p
theorem asks_ok {x : D} {l : List Str} {h : Hh} {b c n : Nat} (hx : IsSeq x (l.map .str)) (ht : Txts l) (hb : BoxAt h b c) (hc : c < 100000) (h0 : 0 < l.length) (h1 : l.length ≤ 30) (hn : n ≤ 100) :
    ∃ (ws : List (List (Str × Str))) (h' : Hh), m__law_asks [.ref b, .dat x, .dat (.int n)] h = some (.dat (.list (ws.map cT)), h') ∧ Words l ws ∧ ws.length ≤ n ∧ BoxAt h' b (c + 1 + n * 152) ∧ Only b h h' := by
  obtain ⟨r, g1, e1, r0, r1, b1, o1⟩ := take_ok (n := (n : Int) + 1) hb (by omega) (by omega) (by omega)
  have key := lcL_inv (k := gN 3) (f := fA (m__law_ask) (fCons (fVar 0) (fCons (fVar 1) (fNil)))) (ρ := [some (.ref b), some (.dat x), some (.dat (.int n)), none])
    (fun k g => BoxAt g b (c + 1 + k * 152) ∧ Only b h g) (fun _ d => ∃ ps, d = cT ps ∧ CallOf l ps) (ds := rngD 0 r.toNat) (n := 0) (h := g1) ⟨by rw [Nat.zero_mul]; exact b1, o1⟩ (by
      intro j d ej g hi
      obtain ⟨bx, on⟩ := hi
      rw [Nat.zero_add] at bx ⊢
      have hj := (rng_get ej).1
      have j1 : j ≤ 100 := by omega
      obtain ⟨ps, g', e3, pf, pt, b3, o3⟩ := ask_ok hx ht bx (by omega) h0 (by omega)
      refine ⟨[some (.ref b), some (.dat x), some (.dat (.int n)), some (.dat d)], cT ps, g', rfl, ?_, ⟨ps, rfl, by rw [pf]; exact sortS_perm l, pt⟩, b3.mono (by omega), on.trans o3⟩
      clear hx ht hb hc h0 h1 hn r0 r1 b1 o1 bx on hj pf pt b3 o3 ej e1
      walk_at "dl")
  obtain ⟨cs, g2, e2, hl, hr, b2, o2⟩ := key
  rw [rng_len] at hl
  rw [rng_len, Nat.zero_add] at b2
  have hw : ∃ ws : List (List (Str × Str)), cs = ws.map cT ∧ Words l ws := by
    have : ∀ cs : List D, (∀ d ∈ cs, ∃ ps, d = cT ps ∧ CallOf l ps) → ∃ ws : List (List (Str × Str)), cs = ws.map cT ∧ Words l ws := fun cs => by
      induction cs with
      | nil => exact fun _ => ⟨[], rfl, fun ps hp => by cases hp⟩
      | cons d cs ih =>
        intro H
        obtain ⟨ps, rfl, hp⟩ := H d List.mem_cons_self
        obtain ⟨ws, rfl, hw⟩ := ih fun e he => H e (List.mem_cons_of_mem _ he)
        exact ⟨ps :: ws, rfl, fun q hq => by
          rcases List.mem_cons.mp hq with rfl | hq
          · exact hp
          · exact hw q hq⟩
    refine this cs fun d hd => ?_
    obtain ⟨j, hj, rfl⟩ := List.getElem_of_mem hd
    exact hr j _ (List.getElem?_eq_getElem hj)
  obtain ⟨ws, rfl, hw⟩ := hw
  rw [List.length_map] at hl
  have rn : r.toNat ≤ n := by omega
  have bn : BoxAt g2 b (c + 1 + n * 152) := b2.mono (by omega)
  have hz : sizeLine = 16777216 := rfl
  refine ⟨ws, g2, ?_, hw, by omega, bn, o2⟩
  rw [asks_run e1 (by omega) (by omega) (by rw [List.length_map]; omega) e2]
  exact leave_dat' hb bn o2
end DL
set_option maxHeartbeats 400000
namespace DL
open PySem L2
local macro_rules | `(tactic| walk_at "dl") => `(tactic| simp (config := { dsimp := false }) only [↓fnM_e, ↓sSeq_e, seqK_nx, seqK_rt, seqK_bk, seqK_ct, retK_rt, retK_nx, ↓sFrz_e, frK_some, ↓sAsg, ↓sRet, ↓sRetN, ↓sIf, ↓sExpr, ↓sSkip, ↓sNever, ↓sPar, ↓sFor, ↓sSub, ↓fVar, ↓fC, ↓fNil, ↓fCons, ↓fA, ↓f1, ↓f2, ↓fB, ↓fIf, ↓fNeg, ↓fNot, ↓fAnd, ↓fOr, ↓bNot, ↓bAnd, ↓bOr, ↓bYes, ↓obnd_x, ob_some, ↓sbnd_x, sb_some, ↓ite_x, iteK_t, iteK_f, gN, gT, gC, gE, ↓rng1I, ↓rng2I, ↓seqI, ↓enumA, ↓zipI, ↓strI, ↓fLc, ↓fDc, ↓fM, ↓fSl, ↓oNone, ↓oSome, ↓fRev, wipeE, ↓kwM, permM, permL, List.foldr, List.length_cons, List.length_nil, List.map_cons, List.map_nil, List.cons_append, List.nil_append, List.replicate, List.replicate_succ, List.replicate_zero, List.getElem?_cons_zero, List.getElem?_cons_succ, List.set_cons_zero, List.set_cons_succ, if_true, if_false, reduceIte, Nat.reduceAdd, Nat.reduceSub, Nat.reduceEqDiff, Nat.reduceLT, Nat.reduceLeDiff, Int.reduceLT, Int.reduceLE, Int.reduceNeg, Int.reduceMul, Int.reduceAdd, Int.reduceSub, Int.reduceToNat, Int.reducePow, Int.reduceEq, ok, bok, deref, mkL, lstW, tupW, dats, Option.map_some, appendW, insertW, setL, isL, listW, tupleW, lenW, absW, intC, maxW, minW, idxW, addW, subW_e, modW_e, divW_e, powW_e, mulW, intW, lt_e, gt_e, le_e, ge_e, ltW, allW_e, anyW_e, sumW_e, lW, setW, lstAt, cutW, backW, isW, isiW, iLT_none, iLT_bool, iLT_int, iLT_str, iLT_list, iLT_tup, iL_none, iL_bool, iL_int, iL_str, iL_list, iL_tup, iT_none, iT_bool, iT_int, iT_str, iT_list, iT_tup, iS_none, iS_bool, iS_int, iS_str, iS_list, iS_tup, iI_none, iI_bool, iI_int, iI_str, iI_list, iI_tup, iB_none, iB_bool, iB_int, iB_str, iB_list, iB_tup, Bool.false_eq_true, reduceCtorEq, Bool.not_true, Bool.not_false, decide_true, decide_false, List.zip_cons_cons, List.zip_nil_left, List.foldl_cons, List.foldl_nil, and_self, and_true, true_and, Bool.and_true, Bool.true_and, Bool.or_true, Bool.true_or, *])
/-! ### two walkers -/
def goneP (ps : List (Str × Str)) (p : Str × Str) : Str × Str := if goal ps p.1 = goal ps p.2 then p else (goal ps p.1, goal ps p.2)
def walkL : List (List (Str × Str)) → Str × Str → List (Str × Str)
  | [], p => [p]
  | ps :: ws, p => p :: walkL ws (goneP ps p)
def lastW (ws : List (List (Str × Str))) (p : Str × Str) : Str × Str := ws.foldl (fun q ps => goneP ps q) p
theorem walkL_snoc (ps : List (Str × Str)) : ∀ (ws : List (List (Str × Str))) (p : Str × Str), walkL (ws ++ [ps]) p = walkL ws p ++ [goneP ps (lastW ws p)]
  | [], p => rfl
  | qs :: ws, p => by
    show p :: walkL (ws ++ [ps]) (goneP qs p) = p :: (walkL ws (goneP qs p) ++ _)
    rw [walkL_snoc ps ws]; rfl
theorem walkL_len : ∀ (ws : List (List (Str × Str))) (p : Str × Str), (walkL ws p).length = ws.length + 1
  | [], p => rfl
  | qs :: ws, p => by rw [walkL, List.length_cons, walkL_len ws, List.length_cons]
theorem walkL_last : ∀ (ws : List (List (Str × Str))) (p : Str × Str), ∃ l, walkL ws p = l ++ [lastW ws p]
  | [], p => ⟨[], rfl⟩
  | qs :: ws, p => by
    obtain ⟨l, e⟩ := walkL_last ws (goneP qs p)
    exact ⟨p :: l, by rw [walkL, e]; rfl⟩
theorem goneP_in {r : List Str} {ps : List (Str × Str)} (c : CallOf r ps) {p : Str × Str} (h1 : p.1 ∈ r) (h2 : p.2 ∈ r) : (goneP ps p).1 ∈ r ∧ (goneP ps p).2 ∈ r := by
  unfold goneP
  split
  · exact ⟨h1, h2⟩
  · exact ⟨(c.goal_mem h1).2, (c.goal_mem h2).2⟩
theorem goneP_ne {ps : List (Str × Str)} {p : Str × Str} (h : p.1 ≠ p.2) : (goneP ps p).1 ≠ (goneP ps p).2 := by
  unfold goneP
  split
  · exact h
  · assumption
theorem lastW_in {r : List Str} : ∀ {ws : List (List (Str × Str))}, Words r ws → ∀ {p : Str × Str}, p.1 ∈ r → p.2 ∈ r → (lastW ws p).1 ∈ r ∧ (lastW ws p).2 ∈ r
  | [], _, p, h1, h2 => ⟨h1, h2⟩
  | ps :: ws, c, p, h1, h2 => by
    obtain ⟨q1, q2⟩ := goneP_in (c ps List.mem_cons_self) h1 h2
    exact lastW_in (ws := ws) (fun q hq => c q (List.mem_cons_of_mem _ hq)) q1 q2
theorem lastW_ne : ∀ (ws : List (List (Str × Str))) {p : Str × Str}, p.1 ≠ p.2 → (lastW ws p).1 ≠ (lastW ws p).2
  | [], p, h => h
  | ps :: ws, p, h => lastW_ne ws (goneP_ne (ps := ps) h)
abbrev dW (ps : List (Str × Str)) : D := .dict (sdic (tld ps))
theorem eqW_strs {neg : Bool} {i j : Str} {h : Hh} : eqW neg (.dat (.str i)) (.dat (.str j)) h = bok (if neg = true then !decide (i = j) else decide (i = j)) h := by
  unfold eqW
  simp only [deref, eqS]
theorem gone_ok {r : List Str} {ps : List (Str × Str)} {p : Str × Str} {h : Hh} (c : CallOf r ps) (h1 : p.1 ∈ r) (h2 : p.2 ∈ r) : m_gone [.dat (dW ps), .dat (prT p)] h = some (.dat (prT (goneP ps p)), h) := by
  obtain ⟨k1, _⟩ := c.goal_mem h1
  obtain ⟨k2, _⟩ := c.goal_mem h2
  have g1 : getD (sdic (tld ps)) (.str p.1) = some (some (.str (goal ps p.1))) := by rw [getD_sdic, look_tld, k1]; rfl
  have g2 : getD (sdic (tld ps)) (.str p.2) = some (some (.str (goal ps p.2))) := by rw [getD_sdic, look_tld, k2]; rfl
  have a0 : L2.atI [PyData.str p.1, .str p.2] 0 = some (.str p.1) := rfl
  have a1 : L2.atI [PyData.str p.1, .str p.2] 1 = some (.str p.2) := rfl
  have e3 := eqW_strs (neg := false) (i := goal ps p.1) (j := goal ps p.2) (h := h)
  have c2 : 2 ≤ sizeLine := by decide
  have lv := fun d : D => leave_same' (h := h) (d := d)
  unfold m_gone goneP
  by_cases z : goal ps p.1 = goal ps p.2
  · rw [if_pos z]
    have z' : decide (goal ps p.1 = goal ps p.2) = true := by simpa using z
    clear c h1 h2 k1 k2 z
    walk_at "dl"
  · rw [if_neg z]
    have z' : decide (goal ps p.1 = goal ps p.2) = false := by simpa using z
    clear c h1 h2 k1 k2 z
    walk_at "dl"
/-- a call as tuples or as lists -/
def cD (l : Bool) (ps : List (Str × Str)) : D := if l = true then .list (ps.map (prW true)) else .tuple (ps.map prT)
theorem cD_seq (l : Bool) (ps : List (Str × Str)) : IsSeq (cD l ps) (ps.map (prW l)) := by
  cases l
  · exact .inr (by rw [prW_false]; rfl)
  · exact .inl rfl
theorem cD_false : cD false = cT := by funext ps; rfl
theorem ways_ok {x : D} {l : Bool} {r : List Str} {ws : List (List (Str × Str))} {h : Hh} (hx : IsSeq x (ws.map (cD l))) (c : Words r ws) (nd : r.Nodup) (hr : r.length ≤ 1000) (hw : ws.length ≤ 1000) : m_ways_back [.dat x] h = some (.dat (.list (ws.reverse.map dW)), h) := by
  have hz : sizeLine = 16777216 := rfl
  have e1 : lcL (gN 1) bYes (fA (m_by_names) (fCons (fVar 1) (fNil))) [some (.dat x), none] (ws.reverse.map (cD l)) h = some (ws.reverse.map dW, h) := by
    have : ∀ vs : List (List (Str × Str)), (∀ v ∈ vs, CallOf r v) → lcL (gN 1) bYes (fA (m_by_names) (fCons (fVar 1) (fNil))) [some (.dat x), none] (vs.map (cD l)) h = some (vs.map dW, h) := fun vs => by
      induction vs with
      | nil => exact fun _ => rfl
      | cons ps vs ih =>
        intro H
        have hc := H ps List.mem_cons_self
        have hl : ps.length = r.length := by have := hc.perm.length_eq; rw [List.length_map] at this; exact this
        have e := by_names_ok (h := h) (cD_seq l ps) (hc.nodup nd) (by omega)
        have ih := ih fun v hv => H v (List.mem_cons_of_mem _ hv)
        have e' : fA (m_by_names) (fCons (fVar 1) (fNil)) [some (.dat x), some (.dat (cD l ps))] h = some (.dat (dW ps), h) := by
          clear hx c nd hr hw hz hc hl ih H
          walk_at "dl"
        rw [List.map_cons, List.map_cons]
        unfold lcL
        have k : gN 1 (.dat (cD l ps)) [some (.dat x), none] h = some [some (.dat x), some (.dat (cD l ps))] := rfl
        simp only [k, bYes, obnd, if_true, e', ih]
    exact this _ fun v hv => c v (List.mem_reverse.mp hv)
  have l1 : (ws.reverse.map dW).length ≤ sizeLine := by rw [List.length_map, List.length_reverse]; omega
  have lv := leave_same' (h := h) (d := .list (ws.reverse.map dW))
  rw [List.map_reverse] at e1
  unfold m_ways_back revI
  clear c nd hr hw hz
  rcases hx with rfl | rfl <;> walk_at "dl"
end DL
set_option maxHeartbeats 400000
namespace DL
open PySem L2
local macro_rules | `(tactic| walk_at "dl") => `(tactic| simp (config := { dsimp := false }) only [↓fnM_e, ↓sSeq_e, seqK_nx, seqK_rt, seqK_bk, seqK_ct, retK_rt, retK_nx, ↓sFrz_e, frK_some, ↓sAsg, ↓sRet, ↓sRetN, ↓sIf, ↓sExpr, ↓sSkip, ↓sNever, ↓sPar, ↓sFor, ↓sSub, ↓fVar, ↓fC, ↓fNil, ↓fCons, ↓fA, ↓f1, ↓f2, ↓fB, ↓fIf, ↓fNeg, ↓fNot, ↓fAnd, ↓fOr, ↓bNot, ↓bAnd, ↓bOr, ↓bYes, ↓obnd_x, ob_some, ↓sbnd_x, sb_some, ↓ite_x, iteK_t, iteK_f, gN, gT, gC, gE, ↓rng1I, ↓rng2I, ↓seqI, ↓enumA, ↓zipI, ↓strI, ↓fLc, ↓fDc, ↓fM, ↓fSl, ↓oNone, ↓oSome, ↓fRev, wipeE, ↓kwM, permM, permL, List.foldr, List.length_cons, List.length_nil, List.map_cons, List.map_nil, List.cons_append, List.nil_append, List.replicate, List.replicate_succ, List.replicate_zero, List.getElem?_cons_zero, List.getElem?_cons_succ, List.set_cons_zero, List.set_cons_succ, if_true, if_false, reduceIte, Nat.reduceAdd, Nat.reduceSub, Nat.reduceEqDiff, Nat.reduceLT, Nat.reduceLeDiff, Int.reduceLT, Int.reduceLE, Int.reduceNeg, Int.reduceMul, Int.reduceAdd, Int.reduceSub, Int.reduceToNat, Int.reducePow, Int.reduceEq, ok, bok, deref, mkL, lstW, tupW, dats, Option.map_some, appendW, insertW, setL, isL, listW, tupleW, lenW, absW, intC, maxW, minW, idxW, addW, subW_e, modW_e, divW_e, powW_e, mulW, intW, lt_e, gt_e, le_e, ge_e, ltW, allW_e, anyW_e, sumW_e, lW, setW, lstAt, cutW, backW, isW, isiW, iLT_none, iLT_bool, iLT_int, iLT_str, iLT_list, iLT_tup, iL_none, iL_bool, iL_int, iL_str, iL_list, iL_tup, iT_none, iT_bool, iT_int, iT_str, iT_list, iT_tup, iS_none, iS_bool, iS_int, iS_str, iS_list, iS_tup, iI_none, iI_bool, iI_int, iI_str, iI_list, iI_tup, iB_none, iB_bool, iB_int, iB_str, iB_list, iB_tup, Bool.false_eq_true, reduceCtorEq, Bool.not_true, Bool.not_false, decide_true, decide_false, List.zip_cons_cons, List.zip_nil_left, List.foldl_cons, List.foldl_nil, and_self, and_true, true_and, Bool.and_true, Bool.true_and, Bool.or_true, Bool.true_or, *])
theorem atI_neg1 {α : Type} (l : List α) (x : α) : L2.atI (l ++ [x]) (-1) = some x := atI_last l x
theorem walked_ok {r : List Str} {ws : List (List (Str × Str))} {p : Str × Str} {h : Hh} (c : Words r ws) (h1 : p.1 ∈ r) (h2 : p.2 ∈ r) (hw : ws.length ≤ 1000) : m_walked [.dat (.list (ws.map dW)), .dat (prT p)] h = some (.dat (.list ((walkL ws p).map prT)), h) := by
  have hz : sizeLine = 16777216 := rfl
  have key := forL_inv (k := gN 3) (body := sExpr (fM isL appendW (fVar 2) (fCons (fA (m_gone) (fCons (fVar 3) (fCons (f2 idxW (fVar 2) (fNeg (fC (.int 1)))) (fNil)))) (fNil))))
    (fun n ρ g => ∃ v : Option W, ρ = [some (.dat (.list (ws.map dW))), some (.dat (prT p)), some (.ref h.length), v] ∧ g = h ++ [some (.lst ((walkL (ws.take n) p).map prT))]) (ds := ws.map dW) (n := 0)
    (ρ := [some (.dat (.list (ws.map dW))), some (.dat (prT p)), some (.ref h.length), none]) (h := h ++ [some (.lst [prT p])]) ⟨none, rfl, rfl⟩ (by
      intro j d ej ρ g hi
      obtain ⟨v, rfl, rfl⟩ := hi
      rw [Nat.zero_add]
      rw [List.getElem?_map] at ej
      obtain ⟨ps, ep, rfl⟩ := Option.map_eq_some_iff.mp ej
      have hj : j < ws.length := (List.getElem?_eq_some_iff.mp ep).1
      have hc : CallOf r ps := c ps (List.mem_of_getElem? ep)
      obtain ⟨m1, m2⟩ := lastW_in (ws := ws.take j) (fun q hq => c q (List.mem_of_mem_take hq)) h1 h2
      have e1 := gone_ok (h := h ++ [some (.lst ((walkL (ws.take j) p).map prT))]) hc m1 m2
      obtain ⟨l, el⟩ := walkL_last (ws.take j) p
      have al : L2.atI ((walkL (ws.take j) p).map prT) (-1) = some (prT (lastW (ws.take j) p)) := by rw [el, List.map_append]; exact atI_neg1 _ _
      have hg : (h ++ [some (MO.lst ((walkL (ws.take j) p).map prT))])[h.length]? = some (some (.lst ((walkL (ws.take j) p).map prT))) := app_get rfl
      have hl : ((walkL (ws.take j) p).map prT).length < sizeLine := by rw [List.length_map, walkL_len, List.length_take]; omega
      have hs : (h ++ [some (MO.lst ((walkL (ws.take j) p).map prT))]).set h.length (some (.lst ((walkL (ws.take j) p).map prT ++ [prT (goneP ps (lastW (ws.take j) p))]))) = h ++ [some (.lst ((walkL (ws.take (j + 1)) p).map prT))] := by
        rw [app_set rfl, take_snoc ep, walkL_snoc, List.map_append]; rfl
      refine ⟨_, _, _, rfl, ?_, some (.dat (dW ps)), rfl, rfl⟩
      clear c h1 h2 hw hz ej ep hj hc m1 m2 el
      generalize (walkL (ws.take j) p).map prT = wl at *
      walk_at "dl")
  obtain ⟨ρ', h', e, v, rfl, rfl⟩ := key
  rw [Nat.zero_add, List.length_map, List.take_length] at e
  have hg : (h ++ [some (MO.lst ((walkL ws p).map prT))])[h.length]? = some (some (.lst ((walkL ws p).map prT))) := app_get rfl
  have et : (h ++ [some (MO.lst ((walkL ws p).map prT))]).take h.length = h := app_take rfl
  have nl : ¬ h.length < h.length := by omega
  have c1 : 1 ≤ sizeLine := by omega
  unfold m_walked
  clear c h1 h2 hw hz
  generalize (walkL ws p).map prT = wl at *
  walk_at "dl"
  unfold leave
  walk_at "dl"
theorem walks_ok {x : D} {l : Bool} {r : List Str} {ws : List (List (Str × Str))} {a b : Str} {h : Hh} (hx : IsSeq x (ws.map (cD l))) (c : Words r ws) (nd : r.Nodup) (hr : r.length ≤ 1000) (hw : ws.length ≤ 1000) (h1 : a ∈ r) (h2 : b ∈ r) :
    m_walks [.dat x, .dat (.str a), .dat (.str b)] h = some (.dat (.list ((walkL ws.reverse (a, b)).map prT)), h) := by
  have e1 := ways_ok (h := h) hx c nd hr hw
  have e2 := walked_ok (h := h) (ws := ws.reverse) (p := (a, b)) (fun q hq => c q (List.mem_reverse.mp hq)) h1 h2 (by rw [List.length_reverse]; exact hw)
  have c2 : 2 ≤ sizeLine := by decide
  have lv := leave_same' (h := h) (d := .list ((walkL ws.reverse (a, b)).map prT))
  unfold m_walks
  clear hx c nd hr hw h1 h2
  walk_at "dl"
theorem pair_of_ok {x : D} {l : Bool} {r : List Str} {ws : List (List (Str × Str))} {a b : Str} {h : Hh} (hx : IsSeq x (ws.map (cD l))) (c : Words r ws) (nd : r.Nodup) (hr : r.length ≤ 1000) (hw : ws.length ≤ 1000) (h1 : a ∈ r) (h2 : b ∈ r) :
    m_pair_of [.dat x, .dat (.str a), .dat (.str b)] h = some (.dat (prT (lastW ws.reverse (a, b))), h) := by
  have e1 := walks_ok (h := h) hx c nd hr hw h1 h2
  obtain ⟨wl, el⟩ := walkL_last ws.reverse (a, b)
  have al : L2.atI ((walkL ws.reverse (a, b)).map prT) (-1) = some (prT (lastW ws.reverse (a, b))) := by rw [el, List.map_append]; exact atI_neg1 _ _
  have lv := leave_same' (h := h) (d := prT (lastW ws.reverse (a, b)))
  unfold m_pair_of
  clear hx c nd hr hw h1 h2 el
  walk_at "dl"
/-! ### the row behind a word -/
def ledAll (r : List Str) (ws : List (List (Str × Str))) : List Str := ws.foldl led r
theorem ledAll_perm : ∀ (ws : List (List (Str × Str))) (r : List Str), (ledAll r ws).Perm r
  | [], r => List.Perm.refl r
  | ps :: ws, r => (ledAll_perm ws (led r ps)).trans (led_perm r ps)
abbrev rowT (r : List Str) : D := .tuple (r.map .str)
/-- the rows behind none, one, .. -/
def rowsL : List Str → List (List (Str × Str)) → List (List Str)
  | r, [] => [r]
  | r, ps :: ws => r :: rowsL (led r ps) ws
theorem rowsL_snoc (ps : List (Str × Str)) : ∀ (ws : List (List (Str × Str))) (r : List Str), rowsL r (ws ++ [ps]) = rowsL r ws ++ [led (ledAll r ws) ps]
  | [], r => rfl
  | qs :: ws, r => by
    show r :: rowsL (led r qs) (ws ++ [ps]) = r :: (rowsL (led r qs) ws ++ _)
    rw [rowsL_snoc ps ws]; rfl
theorem rowsL_len : ∀ (ws : List (List (Str × Str))) (r : List Str), (rowsL r ws).length = ws.length + 1
  | [], r => rfl
  | qs :: ws, r => by rw [rowsL, List.length_cons, rowsL_len ws, List.length_cons]
theorem rowsL_last : ∀ (ws : List (List (Str × Str))) (r : List Str), ∃ l, rowsL r ws = l ++ [ledAll r ws]
  | [], r => ⟨[], rfl⟩
  | qs :: ws, r => by
    obtain ⟨l, e⟩ := rowsL_last ws (led r qs)
    exact ⟨r :: l, by rw [rowsL, e]; rfl⟩
theorem Pre0 {T : Nat → Addr} {h l : Hh} (h0 : h[0]? = some (some (.tab (lamN "called") (T 0)))) : (h ++ l)[0]? = some (some (.tab (lamN "called") (T 0))) := by
  rw [List.getElem?_append_left]
  · exact h0
  · exact (List.getElem?_eq_some_iff.mp h0).1
theorem rows_behind_ok {T : Nat → Addr} {x y : D} {l : Bool} {r : List Str} {ws : List (List (Str × Str))} {h : Hh} (h0 : h[0]? = some (some (.tab (lamN "called") (T 0)))) (hx : IsSeq x (r.map .str)) (hy : IsSeq y (ws.map (cD l))) (c : Words r ws) (nd : r.Nodup) (hr : r.length ≤ 1000) (ht : Txts r) (hw : ws.length ≤ 1000) :
    m_rows_behind T [.dat x, .dat y] h = some (.dat (.list ((rowsL r ws).map rowT)), h) := by
  have hz : sizeLine = 16777216 := rfl
  have key := forL_inv (k := gN 3) (body := sExpr (fM isL appendW (fVar 2) (fCons (fA (m_called T) (fCons (f2 idxW (fVar 2) (fNeg (fC (.int 1)))) (fCons (fVar 3) (fNil)))) (fNil))))
    (fun n ρ g => ∃ v : Option W, ρ = [some (.dat x), some (.dat y), some (.ref h.length), v] ∧ g = h ++ [some (.lst ((rowsL r (ws.take n)).map rowT))]) (ds := ws.map (cD l)) (n := 0)
    (ρ := [some (.dat x), some (.dat y), some (.ref h.length), none]) (h := h ++ [some (.lst [rowT r])]) ⟨none, rfl, rfl⟩ (by
      intro j d ej ρ g hi
      obtain ⟨v, rfl, rfl⟩ := hi
      rw [Nat.zero_add]
      rw [List.getElem?_map] at ej
      obtain ⟨ps, ep, rfl⟩ := Option.map_eq_some_iff.mp ej
      have hj : j < ws.length := (List.getElem?_eq_some_iff.mp ep).1
      have pm := ledAll_perm (ws.take j) r
      have hc : CallOf (ledAll r (ws.take j)) ps := (c ps (List.mem_of_getElem? ep)).of_perm pm.symm
      have e1 := called_ok (T := T) (h := h ++ [some (.lst ((rowsL r (ws.take j)).map rowT))]) (l := l) (Pre0 h0) (x := rowT (ledAll r (ws.take j))) (y := cD l ps) (.inr rfl) (cD_seq l ps) hc (pm.nodup_iff.mpr nd) (by rw [pm.length_eq]; exact hr) (ht.perm pm)
      obtain ⟨rl, el⟩ := rowsL_last (ws.take j) r
      have al : L2.atI ((rowsL r (ws.take j)).map rowT) (-1) = some (rowT (ledAll r (ws.take j))) := by rw [el, List.map_append]; exact atI_neg1 _ _
      have hg : (h ++ [some (MO.lst ((rowsL r (ws.take j)).map rowT))])[h.length]? = some (some (.lst ((rowsL r (ws.take j)).map rowT))) := app_get rfl
      have hl : ((rowsL r (ws.take j)).map rowT).length < sizeLine := by rw [List.length_map, rowsL_len, List.length_take]; omega
      have hs : (h ++ [some (MO.lst ((rowsL r (ws.take j)).map rowT))]).set h.length (some (.lst ((rowsL r (ws.take j)).map rowT ++ [.tuple ((led (ledAll r (ws.take j)) ps).map .str)]))) = h ++ [some (.lst ((rowsL r (ws.take (j + 1))).map rowT))] := by
        rw [app_set rfl, take_snoc ep, rowsL_snoc, List.map_append]; rfl
      refine ⟨_, _, _, rfl, ?_, some (.dat (cD l ps)), rfl, rfl⟩
      clear h0 hx hy c nd hr ht hw hz ej ep hj hc pm el
      generalize (rowsL r (ws.take j)).map rowT = wl at *
      walk_at "dl")
  obtain ⟨ρ', h', e, v, rfl, rfl⟩ := key
  rw [Nat.zero_add, List.length_map, List.take_length] at e
  have hg : (h ++ [some (MO.lst ((rowsL r ws).map rowT))])[h.length]? = some (some (.lst ((rowsL r ws).map rowT))) := app_get rfl
  have et : (h ++ [some (MO.lst ((rowsL r ws).map rowT))]).take h.length = h := app_take rfl
  have nl : ¬ h.length < h.length := by omega
  have c1 : 1 ≤ sizeLine := by omega
  unfold m_rows_behind
  clear h0 c nd hr ht hw hz
  generalize (rowsL r ws).map rowT = wl at *
  rcases hx with rfl | rfl <;> rcases hy with rfl | rfl <;> (walk_at "dl"; unfold leave; walk_at "dl")
theorem called_all_ok {T : Nat → Addr} {x y : D} {l : Bool} {r : List Str} {ws : List (List (Str × Str))} {h : Hh} (h0 : h[0]? = some (some (.tab (lamN "called") (T 0)))) (hx : IsSeq x (r.map .str)) (hy : IsSeq y (ws.map (cD l))) (c : Words r ws) (nd : r.Nodup) (hr : r.length ≤ 1000) (ht : Txts r) (hw : ws.length ≤ 1000) :
    m_called_all T [.dat x, .dat y] h = some (.dat (rowT (ledAll r ws)), h) := by
  have e1 := rows_behind_ok h0 hx hy c nd hr ht hw
  obtain ⟨rl, el⟩ := rowsL_last ws r
  have al : L2.atI ((rowsL r ws).map rowT) (-1) = some (rowT (ledAll r ws)) := by rw [el, List.map_append]; exact atI_neg1 _ _
  have lv := leave_same' (h := h) (d := rowT (ledAll r ws))
  unfold m_called_all
  clear h0 hx hy c nd hr ht hw el
  walk_at "dl"
end DL
set_option maxHeartbeats 400000
namespace DL
open PySem L2
local macro_rules | `(tactic| walk_at "dl") => `(tactic| simp (config := { dsimp := false }) only [↓fnM_e, ↓sSeq_e, seqK_nx, seqK_rt, seqK_bk, seqK_ct, retK_rt, retK_nx, ↓sFrz_e, frK_some, ↓sAsg, ↓sRet, ↓sRetN, ↓sIf, ↓sExpr, ↓sSkip, ↓sNever, ↓sPar, ↓sFor, ↓sSub, ↓fVar, ↓fC, ↓fNil, ↓fCons, ↓fA, ↓f1, ↓f2, ↓fB, ↓fIf, ↓fNeg, ↓fNot, ↓fAnd, ↓fOr, ↓bNot, ↓bAnd, ↓bOr, ↓bYes, ↓obnd_x, ob_some, ↓sbnd_x, sb_some, ↓ite_x, iteK_t, iteK_f, gN, gT, gC, gE, ↓rng1I, ↓rng2I, ↓seqI, ↓enumA, ↓zipI, ↓strI, ↓fLc, ↓fDc, ↓fM, ↓fSl, ↓oNone, ↓oSome, ↓fRev, wipeE, ↓kwM, permM, permL, List.foldr, List.length_cons, List.length_nil, List.map_cons, List.map_nil, List.cons_append, List.nil_append, List.replicate, List.replicate_succ, List.replicate_zero, List.getElem?_cons_zero, List.getElem?_cons_succ, List.set_cons_zero, List.set_cons_succ, if_true, if_false, reduceIte, Nat.reduceAdd, Nat.reduceSub, Nat.reduceEqDiff, Nat.reduceLT, Nat.reduceLeDiff, Int.reduceLT, Int.reduceLE, Int.reduceNeg, Int.reduceMul, Int.reduceAdd, Int.reduceSub, Int.reduceToNat, Int.reducePow, Int.reduceEq, ok, bok, deref, mkL, lstW, tupW, dats, Option.map_some, appendW, insertW, setL, isL, listW, tupleW, lenW, absW, intC, maxW, minW, idxW, addW, subW_e, modW_e, divW_e, powW_e, mulW, intW, lt_e, gt_e, le_e, ge_e, ltW, allW_e, anyW_e, sumW_e, lW, setW, lstAt, cutW, backW, isW, isiW, iLT_none, iLT_bool, iLT_int, iLT_str, iLT_list, iLT_tup, iL_none, iL_bool, iL_int, iL_str, iL_list, iL_tup, iT_none, iT_bool, iT_int, iT_str, iT_list, iT_tup, iS_none, iS_bool, iS_int, iS_str, iS_list, iS_tup, iI_none, iI_bool, iI_int, iI_str, iI_list, iI_tup, iB_none, iB_bool, iB_int, iB_str, iB_list, iB_tup, Bool.false_eq_true, reduceCtorEq, Bool.not_true, Bool.not_false, decide_true, decide_false, List.zip_cons_cons, List.zip_nil_left, List.foldl_cons, List.foldl_nil, and_self, and_true, true_and, Bool.and_true, Bool.true_and, Bool.or_true, Bool.true_or, *])
/-! ### the law's own row behind a word; all rows -/
theorem all_led_ok {x y : D} {r : List Str} {ws : List (List (Str × Str))} {h : Hh} (hx : IsSeq x (r.map .str)) (hy : IsSeq y (ws.map cT)) (c : Words r ws) (nd : r.Nodup) (hp : 0 < r.length) (hr : r.length ≤ 1000) : m__law_all_led [.dat x, .dat y] h = some (.dat (rowT (ledAll r ws)), h) := by
  have hz : sizeLine = 16777216 := rfl
  have key := forL_inv (k := gN 2) (body := sAsg (fA (m__law_led) (fCons (fVar 0) (fCons (fVar 2) (fNil)))) (gN 0))
    (fun n ρ g => g = h ∧ ∃ (v : Option W) (z : D), ρ = [some (.dat z), some (.dat y), v] ∧ IsSeq z ((ledAll r (ws.take n)).map .str)) (ds := ws.map cT) (n := 0) (ρ := [some (.dat x), some (.dat y), none]) (h := h) ⟨rfl, none, x, rfl, hx⟩ (by
      intro j d ej ρ g hi
      obtain ⟨rfl, v, z, rfl, hz'⟩ := hi
      rw [Nat.zero_add] at hz' ⊢
      rw [List.getElem?_map] at ej
      obtain ⟨ps, ep, rfl⟩ := Option.map_eq_some_iff.mp ej
      have pm := ledAll_perm (ws.take j) r
      have hc : CallOf (ledAll r (ws.take j)) ps := (c ps (List.mem_of_getElem? ep)).of_perm pm.symm
      have e1 := led_ok (h := g) hz' hc (pm.nodup_iff.mpr nd) (by rw [pm.length_eq]; exact hp) (by rw [pm.length_eq]; exact hr)
      have e2 : ledAll r (ws.take (j + 1)) = led (ledAll r (ws.take j)) ps := by
        unfold ledAll
        rw [take_snoc ep, List.foldl_append]; rfl
      refine ⟨_, [some (.dat (rowT (led (ledAll r (ws.take j)) ps))), some (.dat y), some (.dat (cT ps))], g, rfl, ?_, rfl, some (.dat (cT ps)), rowT (led (ledAll r (ws.take j)) ps), rfl, by rw [e2]; exact .inr rfl⟩
      clear hx hy c nd hp hr hz ej ep hz' hc pm e2
      walk_at "dl")
  obtain ⟨ρ', h', e, rfl, v, z, rfl, hz'⟩ := key
  rw [Nat.zero_add, List.length_map, List.take_length] at hz'
  have lv := leave_same' (h := h') (d := rowT (ledAll r ws))
  unfold m__law_all_led
  clear hx c nd hp hr hz
  rcases hy with rfl | rfl <;> rcases hz' with rfl | rfl <;> walk_at "dl"
/-- rows in the making: unlike ones of cr, j of them -/
def Part (cr : List Str) (j : Nat) (r : List Str) : Prop := r.Nodup ∧ r.length = j ∧ ∀ s ∈ r, s ∈ cr
theorem perm_sub : ∀ {r cr : List Str}, r.Nodup → r.length = cr.length → (∀ s ∈ r, s ∈ cr) → r.Perm cr
  | [], cr, _, h2, _ => by
    have : cr = [] := List.length_eq_zero_iff.mp h2.symm
    rw [this]
  | a :: r, cr, h1, h2, h3 => by
    have ha : a ∈ cr := h3 a List.mem_cons_self
    have pe := List.perm_cons_erase ha
    have hl := pe.length_eq
    rw [List.length_cons] at hl h2
    obtain ⟨n1, n2⟩ := List.nodup_cons.mp h1
    have ih := perm_sub (r := r) (cr := cr.erase a) n2 (by omega) fun s hs => by
      have ne : s ≠ a := fun z => by subst z; exact n1 hs
      exact (List.mem_erase_of_ne ne).mpr (h3 s (List.mem_cons_of_mem _ hs))
    exact (List.Perm.cons a ih).trans pe.symm
theorem part_all {cr r : List Str} (h : Part cr cr.length r) : r.Perm cr := perm_sub h.1 h.2.1 h.2.2
theorem notin_row {s : Str} {r : List Str} {h : Hh} : inW true (.dat (.str s)) (.dat (rowT r)) h = some (.dat (.bool (decide (s ∉ r))), h) := by
  have e1 : ((r.map PyData.str).all flatD) = true := by
    rw [List.all_eq_true]
    intro d hd
    obtain ⟨s, hs, rfl⟩ := List.mem_map.mp hd
    rfl
  have e2 : ((r.map PyData.str).any fun z => PyData.eqv z (.str s)) = decide (s ∈ r) := by
    rw [List.any_map]
    induction r with
    | nil => rfl
    | cons t r ih =>
      have := ih (by
        rw [List.all_eq_true]
        intro d hd
        obtain ⟨s, hs, rfl⟩ := List.mem_map.mp hd
        rfl)
      rw [List.any_cons, this]
      have q : (((fun z => PyData.eqv z (.str s)) ∘ PyData.str) t) = decide (s = t) := by
        show PyData.eqv (.str t) (.str s) = _
        by_cases z : s = t
        · subst z; simp [PyData.eqv]
        · have z' : ¬ t = s := fun w => z w.symm
          simp [PyData.eqv, z, z']
      rw [q]
      simp [List.mem_cons]
  unfold inW
  simp only [deref, flatD, e1, e2, Bool.and_self, if_true]
  show bok (!decide (s ∈ r)) h = _
  rw [decide_not]; rfl
def moreR (cr r : List Str) : List (List Str) := (cr.filter fun s => decide (s ∉ r)).map fun s => r ++ [s]
theorem more_lc {x : W} {cr r : List Str} {v1 v2 v3 : Option W} {h : Hh} (hr : r.length ≤ 1000) : lcL (gN 5) (fB (f2 (inW true) (fVar 5) (fVar 4))) (f2 (addW false) (fVar 4) (fA tupW (fCons (fVar 5) (fNil)))) [some x, v1, v2, v3, some (.dat (rowT r)), none] (cr.map .str) h = some ((moreR cr r).map rowT, h) := by
  have hz : sizeLine = 16777216 := rfl
  have e := lcL_map (k := gN 5) (t := fB (f2 (inW true) (fVar 5) (fVar 4))) (f := f2 (addW false) (fVar 4) (fA tupW (fCons (fVar 5) (fNil)))) (ρ := [some x, v1, v2, v3, some (.dat (rowT r)), none]) (h := h) (fun d => decide (unS d ∉ r)) (fun d => rowT (r ++ [unS d])) (ds := cr.map .str) (by
    intro d hd
    obtain ⟨s, hs, rfl⟩ := List.mem_map.mp hd
    refine ⟨[some x, v1, v2, v3, some (.dat (rowT r)), some (.dat (.str s))], rfl, ?_, fun _ => ?_⟩
    · have e := notin_row (s := s) (r := r) (h := h)
      clear hr hz hd hs
      walk_at "dl"
      rfl
    · have e : (r.map PyData.str).length + 1 ≤ sizeLine := by rw [List.length_map]; omega
      have e2 : rowT (r ++ [unS (.str s)]) = .tuple (r.map .str ++ [.str s]) := by
        show PyData.tuple _ = _
        rw [List.map_append]; rfl
      have c1 : 1 ≤ sizeLine := by omega
      rw [e2]
      clear hr hz hd hs e2
      walk_at "dl")
  rw [e]
  congr 2
  unfold moreR
  rw [List.filter_map, List.map_map, List.map_map]
  rfl
theorem more_part {cr r : List Str} {j : Nat} (h : Part cr j r) : ∀ r' ∈ moreR cr r, Part cr (j + 1) r' := fun r' hr' => by
  obtain ⟨s, hs, rfl⟩ := List.mem_map.mp hr'
  obtain ⟨h1, h2⟩ := List.mem_filter.mp hs
  have h2 : s ∉ r := by simpa using h2
  obtain ⟨p1, p2, p3⟩ := h
  refine ⟨?_, by simp [p2], fun t ht => ?_⟩
  · rw [List.nodup_append]
    refine ⟨p1, by simp, fun a ha b hb e => ?_⟩
    rw [List.mem_singleton] at hb
    subst hb e
    exact h2 ha
  · rcases List.mem_append.mp ht with ht | ht
    · exact p3 t ht
    · rw [List.mem_singleton] at ht; subst ht; exact h1
theorem more_len (cr r : List Str) : (moreR cr r).length ≤ cr.length := by
  unfold moreR
  rw [List.length_map]
  exact List.length_filter_le _ _
end DL
set_option maxHeartbeats 400000
namespace DL
open PySem L2
local macro_rules | `(tactic| walk_at "dl") => `(tactic| simp (config := { dsimp := false }) only [↓fnM_e, ↓sSeq_e, seqK_nx, seqK_rt, seqK_bk, seqK_ct, retK_rt, retK_nx, ↓sFrz_e, frK_some, ↓sAsg, ↓sRet, ↓sRetN, ↓sIf, ↓sExpr, ↓sSkip, ↓sNever, ↓sPar, ↓sFor, ↓sSub, ↓fVar, ↓fC, ↓fNil, ↓fCons, ↓fA, ↓f1, ↓f2, ↓fB, ↓fIf, ↓fNeg, ↓fNot, ↓fAnd, ↓fOr, ↓bNot, ↓bAnd, ↓bOr, ↓bYes, ↓obnd_x, ob_some, ↓sbnd_x, sb_some, ↓ite_x, iteK_t, iteK_f, gN, gT, gC, gE, ↓rng1I, ↓rng2I, ↓seqI, ↓enumA, ↓zipI, ↓strI, ↓fLc, ↓fDc, ↓fM, ↓fSl, ↓oNone, ↓oSome, ↓fRev, wipeE, ↓kwM, permM, permL, List.foldr, List.length_cons, List.length_nil, List.map_cons, List.map_nil, List.cons_append, List.nil_append, List.replicate, List.replicate_succ, List.replicate_zero, List.getElem?_cons_zero, List.getElem?_cons_succ, List.set_cons_zero, List.set_cons_succ, if_true, if_false, reduceIte, Nat.reduceAdd, Nat.reduceSub, Nat.reduceEqDiff, Nat.reduceLT, Nat.reduceLeDiff, Int.reduceLT, Int.reduceLE, Int.reduceNeg, Int.reduceMul, Int.reduceAdd, Int.reduceSub, Int.reduceToNat, Int.reducePow, Int.reduceEq, ok, bok, deref, mkL, lstW, tupW, dats, Option.map_some, appendW, insertW, setL, isL, listW, tupleW, lenW, absW, intC, maxW, minW, idxW, addW, subW_e, modW_e, divW_e, powW_e, mulW, intW, lt_e, gt_e, le_e, ge_e, ltW, allW_e, anyW_e, sumW_e, lW, setW, lstAt, cutW, backW, isW, isiW, iLT_none, iLT_bool, iLT_int, iLT_str, iLT_list, iLT_tup, iL_none, iL_bool, iL_int, iL_str, iL_list, iL_tup, iT_none, iT_bool, iT_int, iT_str, iT_list, iT_tup, iS_none, iS_bool, iS_int, iS_str, iS_list, iS_tup, iI_none, iI_bool, iI_int, iI_str, iI_list, iI_tup, iB_none, iB_bool, iB_int, iB_str, iB_list, iB_tup, Bool.false_eq_true, reduceCtorEq, Bool.not_true, Bool.not_false, decide_true, decide_false, List.zip_cons_cons, List.zip_nil_left, List.foldl_cons, List.foldl_nil, and_self, and_true, true_and, Bool.and_true, Bool.true_and, Bool.or_true, Bool.true_or, *])
noncomputable def rowsIn : SM := sAsg (f2 (addW false) (fVar 3) (fLc false (seqI (fVar 0)) (gN 5) (fB (f2 (inW true) (fVar 5) (fVar 4))) (f2 (addW false) (fVar 4) (fA tupW (fCons (fVar 5) (fNil)))) [5])) (gN 3)
noncomputable def rowsOut : SM := (sSeq (sAsg (fA (lstW false) (fNil)) (gN 3))
    (sSeq (sFor (seqI (fVar 1)) (gN 4)
    (sAsg (f2 (addW false) (fVar 3) (fLc false (seqI (fVar 0)) (gN 5) (fB (f2 (inW true) (fVar 5) (fVar 4))) (f2 (addW false) (fVar 4) (fA tupW (fCons (fVar 5) (fNil)))) [5])) (gN 3)))
    (sAsg (fVar 3) (gN 1))))
theorem rows_inner {x : D} {cr : List Str} {f v2 : Option W} {h : Hh} (hx : IsSeq x (cr.map .str)) (hc : cr.length ≤ 1000) : ∀ (rows acc : List (List Str)) (v4 : Option W), (∀ r ∈ rows, r.length ≤ 1000) → acc.length + rows.length * cr.length ≤ 10000 →
    ∃ v4' : Option W, forL (gN 4) rowsIn (rows.map rowT) [some (.dat x), f, v2, some (.dat (.list (acc.map rowT))), v4, none] h = some (.nx [some (.dat x), f, v2, some (.dat (.list ((acc ++ rows.flatMap (moreR cr)).map rowT))), v4', none], h)
  | [], acc, v4, _, _ => ⟨v4, by simp [forL]⟩
  | r :: rows, acc, v4, hr, hl => by
    have hz : sizeLine = 16777216 := rfl
    have ml := more_len cr r
    have hl' : acc.length + (rows.length * cr.length + cr.length) ≤ 10000 := by rw [List.length_cons, Nat.succ_mul] at hl; exact hl
    obtain ⟨v4', ih⟩ := rows_inner (f := f) (v2 := v2) (h := h) hx hc rows (acc ++ moreR cr r) (some (.dat (rowT r))) (fun q hq => hr q (List.mem_cons_of_mem _ hq)) (by rw [List.length_append]; omega)
    refine ⟨v4', ?_⟩
    have e1 := more_lc (x := .dat x) (cr := cr) (r := r) (v1 := f) (v2 := v2) (v3 := some (.dat (.list (acc.map rowT)))) (h := h) (hr r List.mem_cons_self)
    have e2 : (acc.map rowT).length + ((moreR cr r).map rowT).length ≤ sizeLine := by rw [List.length_map, List.length_map]; omega
    have e3 : rowsIn [some (.dat x), f, v2, some (.dat (.list (acc.map rowT))), some (.dat (rowT r)), none] h = some (.nx [some (.dat x), f, v2, some (.dat (.list ((acc ++ moreR cr r).map rowT))), some (.dat (rowT r)), none], h) := by
      rw [List.map_append]
      have e4 : ((moreR cr r).map rowT).length ≤ sizeLine := by omega
      unfold rowsIn
      clear ih hl hl' ml hz hr hc
      rcases hx with rfl | rfl <;> walk_at "dl"
    have k : gN 4 (.dat (rowT r)) [some (.dat x), f, v2, some (.dat (.list (acc.map rowT))), v4, none] h = some [some (.dat x), f, v2, some (.dat (.list (acc.map rowT))), some (.dat (rowT r)), none] := rfl
    rw [List.map_cons]
    unfold forL
    simp only [k, e3, ih]
    rw [List.append_assoc, List.flatMap_cons]
theorem flat_part {cr : List Str} {j : Nat} {rows : List (List Str)} (h : ∀ r ∈ rows, Part cr j r) : ∀ r ∈ rows.flatMap (moreR cr), Part cr (j + 1) r := fun r hr => by
  obtain ⟨q, hq, hr⟩ := List.mem_flatMap.mp hr
  exact more_part (h q hq) r hr
theorem flat_len (cr : List Str) : ∀ rows : List (List Str), (rows.flatMap (moreR cr)).length ≤ rows.length * cr.length
  | [] => Nat.zero_le _
  | r :: rows => by
    have h1 := more_len cr r
    have h2 := flat_len cr rows
    rw [List.flatMap_cons, List.length_append, List.length_cons, Nat.succ_mul]
    omega
theorem all_rows_ok {x : D} {cr : List Str} {h : Hh} (hx : IsSeq x (cr.map .str)) (hc : cr.length ≤ 4) : ∃ rows : List (List Str), m__law_all_rows [.dat x] h = some (.dat (.list (rows.map rowT)), h) ∧ ∀ r ∈ rows, r.Perm cr := by
  have hz : sizeLine = 16777216 := rfl
  have key := forL_inv (k := gN 2) (body := rowsOut) (fun n ρ g => g = h ∧ n ≤ cr.length ∧ ∃ (rows : List (List Str)) (v2 v3 v4 : Option W), ρ = [some (.dat x), some (.dat (.list (rows.map rowT))), v2, v3, v4, none] ∧ (∀ r ∈ rows, Part cr n r) ∧ rows.length ≤ 4 ^ n) (ds := cr.map .str) (n := 0)
    (ρ := [some (.dat x), some (.dat (.list [rowT []])), none, none, none, none]) (h := h) ⟨rfl, Nat.zero_le _, [[]], none, none, none, rfl, fun r hr => by rw [List.mem_singleton] at hr; subst hr; exact ⟨.nil, rfl, fun s hs => by cases hs⟩, by simp⟩ (by
      intro j d ej ρ g hi
      obtain ⟨rfl, hn, rows, v2, v3, v4, rfl, hp, hl⟩ := hi
      rw [Nat.zero_add] at hn hp hl ⊢
      have hj : j < cr.length := by have := (List.getElem?_eq_some_iff.mp ej).1; rwa [List.length_map] at this
      have h256 : rows.length ≤ 64 := Nat.le_trans hl (Nat.le_trans (Nat.pow_le_pow_right (by omega) (show j ≤ 3 by omega)) (by decide))
      have hmul : rows.length * cr.length ≤ rows.length * 4 := Nat.mul_le_mul_left _ hc
      obtain ⟨v4', e1⟩ := rows_inner (f := some (.dat (.list (rows.map rowT)))) (v2 := some (.dat d)) (h := g) hx (by omega) rows [] v4 (fun r hr => by have := (hp r hr).2.1; omega) (by rw [List.length_nil]; omega)
      rw [List.nil_append] at e1
      have fl := flat_len cr rows
      refine ⟨_, [some (.dat x), some (.dat (.list ((rows.flatMap (moreR cr)).map rowT))), some (.dat d), some (.dat (.list ((rows.flatMap (moreR cr)).map rowT))), v4', none], g, rfl, ?_, rfl, by omega, rows.flatMap (moreR cr), some (.dat d), _, v4', rfl, flat_part hp, by rw [Nat.pow_succ]; omega⟩
      have c0 : 0 ≤ sizeLine := Nat.zero_le _
      unfold rowsOut
      unfold rowsIn at e1
      rw [List.map_nil] at e1
      clear hx hc hz ej hn hp hl hj h256 hmul fl
      walk_at "dl")
  obtain ⟨ρ', h', e, rfl, hn, rows, v2, v3, v4, rfl, hp, hl⟩ := key
  rw [Nat.zero_add, List.length_map] at hp
  refine ⟨rows, ?_, fun r hr => part_all (hp r hr)⟩
  have lv := leave_same' (h := h') (d := .list (rows.map rowT))
  have c0 : 0 ≤ sizeLine := Nat.zero_le _
  have c1 : 1 ≤ sizeLine := by omega
  unfold rowsOut at e
  unfold m__law_all_rows
  rw [show rowT [] = .tuple [] from rfl] at e
  clear hc hz hp hl hn
  rcases hx with rfl | rfl <;> walk_at "dl"
end DL
set_option maxHeartbeats 400000
namespace DL
open PySem L2
local macro_rules | `(tactic| walk_at "dl") => `(tactic| simp (config := { dsimp := false }) only [↓fnM_e, ↓sSeq_e, seqK_nx, seqK_rt, seqK_bk, seqK_ct, retK_rt, retK_nx, ↓sFrz_e, frK_some, ↓sAsg, ↓sRet, ↓sRetN, ↓sIf, ↓sExpr, ↓sSkip, ↓sNever, ↓sPar, ↓sFor, ↓sSub, ↓fVar, ↓fC, ↓fNil, ↓fCons, ↓fA, ↓f1, ↓f2, ↓fB, ↓fIf, ↓fNeg, ↓fNot, ↓fAnd, ↓fOr, ↓bNot, ↓bAnd, ↓bOr, ↓bYes, ↓obnd_x, ob_some, ↓sbnd_x, sb_some, ↓ite_x, iteK_t, iteK_f, gN, gT, gC, gE, ↓rng1I, ↓rng2I, ↓seqI, ↓enumA, ↓zipI, ↓strI, ↓fLc, ↓fDc, ↓fM, ↓fSl, ↓oNone, ↓oSome, ↓fRev, wipeE, ↓kwM, permM, permL, List.foldr, List.length_cons, List.length_nil, List.map_cons, List.map_nil, List.cons_append, List.nil_append, List.replicate, List.replicate_succ, List.replicate_zero, List.getElem?_cons_zero, List.getElem?_cons_succ, List.set_cons_zero, List.set_cons_succ, if_true, if_false, reduceIte, Nat.reduceAdd, Nat.reduceSub, Nat.reduceEqDiff, Nat.reduceLT, Nat.reduceLeDiff, Int.reduceLT, Int.reduceLE, Int.reduceNeg, Int.reduceMul, Int.reduceAdd, Int.reduceSub, Int.reduceToNat, Int.reducePow, Int.reduceEq, ok, bok, deref, mkL, lstW, tupW, dats, Option.map_some, appendW, insertW, setL, isL, listW, tupleW, lenW, absW, intC, maxW, minW, idxW, addW, subW_e, modW_e, divW_e, powW_e, mulW, intW, lt_e, gt_e, le_e, ge_e, ltW, allW_e, anyW_e, sumW_e, lW, setW, lstAt, cutW, backW, isW, isiW, iLT_none, iLT_bool, iLT_int, iLT_str, iLT_list, iLT_tup, iL_none, iL_bool, iL_int, iL_str, iL_list, iL_tup, iT_none, iT_bool, iT_int, iT_str, iT_list, iT_tup, iS_none, iS_bool, iS_int, iS_str, iS_list, iS_tup, iI_none, iI_bool, iI_int, iI_str, iI_list, iI_tup, iB_none, iB_bool, iB_int, iB_str, iB_list, iB_tup, Bool.false_eq_true, reduceCtorEq, Bool.not_true, Bool.not_false, decide_true, decide_false, List.zip_cons_cons, List.zip_nil_left, List.foldl_cons, List.foldl_nil, and_self, and_true, true_and, Bool.and_true, Bool.true_and, Bool.or_true, Bool.true_or, *])
/-! ### who is ahead behind a call, behind a word -/
theorem idx_inj {r : List Str} {s t : Str} (hs : s ∈ r) (ht : t ∈ r) (e : r.idxOf s = r.idxOf t) : s = t := by
  have h1 := List.getElem_idxOf (List.idxOf_lt_length_of_mem hs)
  have h2 := List.getElem_idxOf (List.idxOf_lt_length_of_mem ht)
  rw [← h1, ← h2]
  simp only [e]
theorem pw_at {r : List Str} {R : Str → Str → Prop} (p : r.Pairwise R) {s t : Str} (hs : s ∈ r) (ht : t ∈ r) (e : r.idxOf s < r.idxOf t) : R s t := by
  have := List.pairwise_iff_getElem.mp p _ _ (List.idxOf_lt_length_of_mem hs) (List.idxOf_lt_length_of_mem ht) e
  rwa [List.getElem_idxOf, List.getElem_idxOf] at this
theorem led_ahead {r : List Str} {ps : List (Str × Str)} {a b : Str} (c : CallOf r ps) (ha : a ∈ r) (hb : b ∈ r) (ne : a ≠ b) : (led r ps).idxOf a < (led r ps).idxOf b ↔ r.idxOf (goneP ps (a, b)).1 < r.idxOf (goneP ps (a, b)).2 := by
  have pm := led_perm r ps
  have ha' := pm.mem_iff.mpr ha
  have hb' := pm.mem_iff.mpr hb
  have n1 : (led r ps).idxOf a ≠ (led r ps).idxOf b := fun e => ne (idx_inj ha' hb' e)
  have n2 : r.idxOf a ≠ r.idxOf b := fun e => ne (idx_inj ha hb e)
  obtain ⟨_, ga⟩ := c.goal_mem ha
  obtain ⟨_, gb⟩ := c.goal_mem hb
  have k1 : (led r ps).idxOf a < (led r ps).idxOf b → leK (keyN r ps a) (keyN r ps b) = true := pw_at (led_pw r ps) ha' hb'
  have k2 : (led r ps).idxOf b < (led r ps).idxOf a → leK (keyN r ps b) (keyN r ps a) = true := pw_at (led_pw r ps) hb' ha'
  unfold leK keyN at k1 k2
  simp only [decide_eq_true_eq] at k1 k2
  unfold goneP
  by_cases z : goal ps a = goal ps b
  · rw [if_pos z]
    simp only [z] at k1 k2
    show _ ↔ r.idxOf a < r.idxOf b
    omega
  · rw [if_neg z]
    have n3 : r.idxOf (goal ps a) ≠ r.idxOf (goal ps b) := fun e => z (idx_inj ga gb e)
    show _ ↔ r.idxOf (goal ps a) < r.idxOf (goal ps b)
    omega
theorem ahead_all : ∀ (ws : List (List (Str × Str))) {r : List Str} {a b : Str}, Words r ws → a ∈ r → b ∈ r → a ≠ b → ((ledAll r ws).idxOf a < (ledAll r ws).idxOf b ↔ r.idxOf (lastW ws.reverse (a, b)).1 < r.idxOf (lastW ws.reverse (a, b)).2)
  | [], r, a, b, _, _, _, _ => Iff.rfl
  | ps :: ws, r, a, b, c, ha, hb, ne => by
    have hc := c ps List.mem_cons_self
    have cw : Words r ws := fun q hq => c q (List.mem_cons_of_mem _ hq)
    have pm := led_perm r ps
    have ih := ahead_all ws (r := led r ps) (cw.perm pm.symm) (pm.mem_iff.mpr ha) (pm.mem_iff.mpr hb) ne
    have cr : Words r ws.reverse := fun q hq => cw q (List.mem_reverse.mp hq)
    obtain ⟨m1, m2⟩ := lastW_in cr (p := (a, b)) ha hb
    have m3 := lastW_ne ws.reverse (p := (a, b)) ne
    have e : lastW (ps :: ws).reverse (a, b) = goneP ps (lastW ws.reverse (a, b)) := by
      rw [List.reverse_cons]
      unfold lastW
      rw [List.foldl_append]; rfl
    rw [e]
    exact ih.trans (led_ahead hc m1 m2 m3)
theorem shp_pairs {l : List (Str × Str)} (ht : TxtP l) : shp (.list (l.map prT)) = true := by
  have h1 := (tx_lays (tx_pairs ht)).1
  have h2 := depth_pairs l
  unfold shp
  rw [PyData.canLay0, h1, PyData.depth]
  simp only [Bool.true_and, decide_eq_true_eq]
  omega
theorem same_pairs_ok {l : List (Str × Str)} {h : Hh} (ht : TxtP l) (hl : l.length ≤ 10000) : m_same_pairs [.dat (.list (l.map prT)), .dat (.list (l.map prT))] h = some (.dat (.bool true), h) := by
  have hz : sizeLine = 16777216 := rfl
  have e1 := eqW_list (neg := false) (h := h) (shp_pairs ht)
  have e2 : lcL (gN 2) bYes (f1 (isiW ["tuple"]) (fVar 2)) [some (.dat (.list (l.map prT))), some (.dat (.list (l.map prT))), none] (l.map prT) h = some (List.replicate l.length (.bool true), h) := by
    rw [lcL_all (fun _ => .bool true)]
    · congr 2
      apply List.eq_replicate_iff.mpr
      exact ⟨by simp, fun b hb => by obtain ⟨d, hd, rfl⟩ := List.mem_map.mp hb; rfl⟩
    · intro d hd
      obtain ⟨p, _, rfl⟩ := List.mem_map.mp hd
      refine ⟨[some (.dat (.list (l.map prT))), some (.dat (.list (l.map prT))), some (.dat (prT p))], rfl, rfl, ?_⟩
      clear e1 hz hl ht hd
      generalize l.map prT = w
      walk_at "dl"
  have e4 := bools_true l.length
  have e5 := all_true l.length
  have e6 : (List.replicate l.length (PyData.bool true)).length ≤ sizeLine := by rw [List.length_replicate]; omega
  have lv := leave_same' (h := h) (d := .bool true)
  unfold m_same_pairs
  clear ht hl hz
  generalize l.map prT = w at *
  walk_at "dl"
theorem walkL_txt {r : List Str} (ht : Txts r) : ∀ {ws : List (List (Str × Str))}, Words r ws → ∀ {p : Str × Str}, p.1 ∈ r → p.2 ∈ r → TxtP (walkL ws p)
  | [], _, p, h1, h2 => fun q hq => by
    rw [walkL, List.mem_singleton] at hq
    subst hq
    exact ⟨ht _ h1, ht _ h2⟩
  | ps :: ws, c, p, h1, h2 => fun q hq => by
    obtain ⟨q1, q2⟩ := goneP_in (c ps List.mem_cons_self) h1 h2
    rw [walkL] at hq
    rcases List.mem_cons.mp hq with rfl | hq
    · exact ⟨ht _ h1, ht _ h2⟩
    · exact walkL_txt ht (fun q hq => c q (List.mem_cons_of_mem _ hq)) q1 q2 q hq
theorem shows_ahead_ok {x y : D} {l : Bool} {r : List Str} {ws : List (List (Str × Str))} {a b : Str} {h : Hh} (hx : IsSeq x (r.map .str)) (hy : IsSeq y (ws.map (cD l))) (c : Words r ws) (nd : r.Nodup) (hr : r.length ≤ 1000) (ht : Txts r) (hw : ws.length ≤ 1000) (h1 : a ∈ r) (h2 : b ∈ r) :
    m_shows_ahead [.dat x, .dat y, .dat (.str a), .dat (.str b), .dat (.list ((walkL ws.reverse (a, b)).map prT))] h = some (.dat (.bool (decide (r.idxOf (lastW ws.reverse (a, b)).1 < r.idxOf (lastW ws.reverse (a, b)).2))), h) := by
  have cr : Words r ws.reverse := fun q hq => c q (List.mem_reverse.mp hq)
  obtain ⟨m1, m2⟩ := lastW_in cr (p := (a, b)) h1 h2
  have e1 := walks_ok (h := h) hy c nd hr hw h1 h2
  have e2 := same_pairs_ok (h := h) (walkL_txt ht cr (p := (a, b)) h1 h2) (by rw [walkL_len, List.length_reverse]; omega)
  have e3 := ahead_ok (h := h) hx nd hr m1 m2
  obtain ⟨wl, el⟩ := walkL_last ws.reverse (a, b)
  have al : L2.atI ((walkL ws.reverse (a, b)).map prT) (-1) = some (prT (lastW ws.reverse (a, b))) := by rw [el, List.map_append]; exact atI_neg1 _ _
  generalize lastW ws.reverse (a, b) = q at *
  generalize (walkL ws.reverse (a, b)).map prT = w at *
  have a0 : L2.atI [PyData.str q.1, .str q.2] 0 = some (.str q.1) := rfl
  have a1 : L2.atI [PyData.str q.1, .str q.2] 1 = some (.str q.2) := rfl
  obtain ⟨ρ', h', e4, rfl, v, rfl⟩ := forL_end (k := gN 5) (body := sExpr (fA (m_look_alike) (fCons (fVar 0) (fCons (fA (m_people) (fCons (fVar 5) (fNil))) (fNil))))) (fun _ ρ g => g = h ∧ ∃ v : Option W, ρ = [some (.dat x), some (.dat y), some (.dat (.str a)), some (.dat (.str b)), some (.dat (.list w)), v, none]) (ds := ws.map (cD l)) (ρ := [some (.dat x), some (.dat y), some (.dat (.str a)), some (.dat (.str b)), some (.dat (.list w)), none, none]) (h := h) ⟨rfl, none, rfl⟩ (by
      intro j d ej ρ g hi
      obtain ⟨rfl, v, rfl⟩ := hi
      rw [List.getElem?_map] at ej
      obtain ⟨ps, ep, rfl⟩ := Option.map_eq_some_iff.mp ej
      have hc := c ps (List.mem_of_getElem? ep)
      have hl : ps.length = r.length := by have := hc.perm.length_eq; rw [List.length_map] at this; exact this
      have f1 := people_ok (h := g) (cD_seq l ps) (by omega)
      have f2 := look_alike_ok (h := g) hx (y := .tuple ((ps.map (·.1)).map .str)) (.inr rfl) hc.perm.symm ht
      refine ⟨_, [some (.dat x), some (.dat y), some (.dat (.str a)), some (.dat (.str b)), some (.dat (.list w)), some (.dat (cD l ps)), none], g, rfl, ?_, rfl, _, rfl⟩
      clear hx hy c nd hr ht hw h1 h2 cr m1 m2 e1 e2 e3 el al a0 a1 ej ep hc hl
      walk_at "dl")
  have lv := fun d : D => leave_same' (h := h') (d := d)
  unfold m_shows_ahead
  clear hx c nd hr ht hw h1 h2 cr m1 m2 el
  rcases hy with rfl | rfl <;> walk_at "dl"
end DL
set_option maxHeartbeats 400000
namespace DL
open PySem L2
local macro_rules | `(tactic| walk_at "dl") => `(tactic| simp (config := { dsimp := false }) only [↓fnM_e, ↓sSeq_e, seqK_nx, seqK_rt, seqK_bk, seqK_ct, retK_rt, retK_nx, ↓sFrz_e, frK_some, ↓sAsg, ↓sRet, ↓sRetN, ↓sIf, ↓sExpr, ↓sSkip, ↓sNever, ↓sPar, ↓sFor, ↓sSub, ↓fVar, ↓fC, ↓fNil, ↓fCons, ↓fA, ↓f1, ↓f2, ↓fB, ↓fIf, ↓fNeg, ↓fNot, ↓fAnd, ↓fOr, ↓bNot, ↓bAnd, ↓bOr, ↓bYes, ↓obnd_x, ob_some, ↓sbnd_x, sb_some, ↓ite_x, iteK_t, iteK_f, gN, gT, gC, gE, ↓rng1I, ↓rng2I, ↓seqI, ↓enumA, ↓zipI, ↓strI, ↓fLc, ↓fDc, ↓fM, ↓fSl, ↓oNone, ↓oSome, ↓fRev, wipeE, ↓kwM, permM, permL, List.foldr, List.length_cons, List.length_nil, List.map_cons, List.map_nil, List.cons_append, List.nil_append, List.replicate, List.replicate_succ, List.replicate_zero, List.getElem?_cons_zero, List.getElem?_cons_succ, List.set_cons_zero, List.set_cons_succ, if_true, if_false, reduceIte, Nat.reduceAdd, Nat.reduceSub, Nat.reduceEqDiff, Nat.reduceLT, Nat.reduceLeDiff, Int.reduceLT, Int.reduceLE, Int.reduceNeg, Int.reduceMul, Int.reduceAdd, Int.reduceSub, Int.reduceToNat, Int.reducePow, Int.reduceEq, ok, bok, deref, mkL, lstW, tupW, dats, Option.map_some, appendW, insertW, setL, isL, listW, tupleW, lenW, absW, intC, maxW, minW, idxW, addW, subW_e, modW_e, divW_e, powW_e, mulW, intW, lt_e, gt_e, le_e, ge_e, ltW, allW_e, anyW_e, sumW_e, lW, setW, lstAt, cutW, backW, isW, isiW, iLT_none, iLT_bool, iLT_int, iLT_str, iLT_list, iLT_tup, iL_none, iL_bool, iL_int, iL_str, iL_list, iL_tup, iT_none, iT_bool, iT_int, iT_str, iT_list, iT_tup, iS_none, iS_bool, iS_int, iS_str, iS_list, iS_tup, iI_none, iI_bool, iI_int, iI_str, iI_list, iI_tup, iB_none, iB_bool, iB_int, iB_str, iB_list, iB_tup, Bool.false_eq_true, reduceCtorEq, Bool.not_true, Bool.not_false, decide_true, decide_false, List.zip_cons_cons, List.zip_nil_left, List.foldl_cons, List.foldl_nil, and_self, and_true, true_and, Bool.and_true, Bool.true_and, Bool.or_true, Bool.true_or, *])
/-! ### t.index, t == t, heaps that keep what lay there -/
theorem isTp_row {r : List Str} {h : Hh} (nd : r.Nodup) (hp : 0 < r.length) : isTp (.dat (rowT r)) h = true := by
  show rowD (r.map .str) = true
  unfold rowD
  rw [rowS_strs]
  cases r with
  | nil => simp at hp
  | cons a r => simp only [List.isEmpty_cons, Bool.not_false, Bool.true_and, decide_eq_true_eq]; exact nd
theorem index_row {r : List Str} {s : Str} {h : Hh} (hs : s ∈ r) : indexT (.dat (rowT r)) [.dat (.str s)] h = some (.dat (.int (r.idxOf s : Int)), h) := by
  unfold indexT
  simp only [deref, rowS_strs, hs, if_true]
  rfl
theorem shp_row {l : List Str} (ht : Txts l) : shp (rowT l) = true := by
  unfold shp
  rw [PyData.canLay0, canLay_strs ht, PyData.depth, depth_strs]
  rfl
theorem eqW_row {neg : Bool} {l : List Str} {h : Hh} (ht : Txts l) : eqW neg (.dat (rowT l)) (.dat (rowT l)) h = some (.dat (.bool (!neg)), h) := by
  have hs := shp_row ht
  have e : PyData.eqv (rowT l) (rowT l) = true := SeqAt.eqv_refl _ (SeqAt.canLay_of_shaped hs)
  unfold eqW
  simp only [deref, eqS, hs, e, Bool.and_self, if_true]
  cases neg <;> rfl
structure OnlyP (b : Nat) (h g : Hh) : Prop where
  len : h.length ≤ g.length
  off : ∀ i : Nat, i < h.length → i ≠ b → g[i]? = h[i]?
theorem Only.p {b : Nat} {h g : Hh} (o : Only b h g) : OnlyP b h g := ⟨Nat.le_of_eq o.len.symm, fun i _ n => o.off i n⟩
theorem OnlyP.only {b : Nat} {h g g' : Hh} (o : OnlyP b h g) (o' : Only b g g') : OnlyP b h g' := ⟨by rw [o'.len]; exact o.len, fun i hi n => (o'.off i n).trans (o.off i hi n)⟩
theorem OnlyP.app {b : Nat} {h g l : Hh} (o : OnlyP b h g) : OnlyP b h (g ++ l) := ⟨by rw [List.length_append]; have := o.len; omega, fun i hi n => by
  rw [List.getElem?_append_left (by have := o.len; omega)]; exact o.off i hi n⟩
theorem leave_P {b c c' : Nat} {h g : Hh} {d : D} (x : BoxAt h b c) (y : BoxAt g b c') (o : OnlyP b h g) : ∃ h', leave false h (.dat d) g = some (.dat d, h') ∧ BoxAt h' b c' ∧ Only b h h' := by
  have lb := x.lt
  have y' := box_take y lb
  have on : Only b h (g.take h.length) := ⟨by rw [List.length_take]; have := o.len; omega, fun i n => by
    by_cases hi : i < h.length
    · rw [List.getElem?_take_of_lt hi]; exact o.off i hi n
    · rw [List.getElem?_eq_none (by rw [List.length_take]; omega), List.getElem?_eq_none (by omega)]⟩
  exact ⟨_, leave_dat (live_only x y' on), y', on⟩
theorem atI_first {l : List Str} (h : 0 < l.length) : ∃ s ∈ l, L2.atI (l.map PyData.str) 0 = some (.str s) ∧ l.idxOf s = 0 := by
  refine ⟨l[0], List.getElem_mem h, atI_strs (l := l) (j := 0) h, ?_⟩
  cases l with
  | nil => simp at h
  | cons a l => simp
theorem atI_end {l : List Str} (s : Str) : L2.atI ((l ++ [s]).map PyData.str) (-1) = some (.str s) := by rw [List.map_append]; exact atI_neg1 _ _
theorem Folk.mono {n m : Nat} {rs : List Str} (h : Folk n rs) (k : n ≤ m) : Folk m rs := ⟨h.nd, h.pos, Nat.le_trans h.le k, h.nam⟩
theorem dec_cast (i j : Nat) : decide ((i : Int) < (j : Int)) = decide (i < j) := by simp
end DL
set_option maxHeartbeats 400000
namespace DL
open PySem L2
local macro_rules | `(tactic| walk_at "dl") => `(tactic| simp (config := { dsimp := false }) only [↓fnM_e, ↓sSeq_e, seqK_nx, seqK_rt, seqK_bk, seqK_ct, retK_rt, retK_nx, ↓sFrz_e, frK_some, ↓sAsg, ↓sRet, ↓sRetN, ↓sIf, ↓sExpr, ↓sSkip, ↓sNever, ↓sPar, ↓sFor, ↓sSub, ↓fVar, ↓fC, ↓fNil, ↓fCons, ↓fA, ↓f1, ↓f2, ↓fB, ↓fIf, ↓fNeg, ↓fNot, ↓fAnd, ↓fOr, ↓bNot, ↓bAnd, ↓bOr, ↓bYes, ↓obnd_x, ob_some, ↓sbnd_x, sb_some, ↓ite_x, iteK_t, iteK_f, gN, gT, gC, gE, ↓rng1I, ↓rng2I, ↓seqI, ↓enumA, ↓zipI, ↓strI, ↓fLc, ↓fDc, ↓fM, ↓fSl, ↓oNone, ↓oSome, ↓fRev, wipeE, ↓kwM, permM, permL, List.foldr, List.length_cons, List.length_nil, List.map_cons, List.map_nil, List.cons_append, List.nil_append, List.replicate, List.replicate_succ, List.replicate_zero, List.getElem?_cons_zero, List.getElem?_cons_succ, List.set_cons_zero, List.set_cons_succ, if_true, if_false, reduceIte, Nat.reduceAdd, Nat.reduceSub, Nat.reduceEqDiff, Nat.reduceLT, Nat.reduceLeDiff, Int.reduceLT, Int.reduceLE, Int.reduceNeg, Int.reduceMul, Int.reduceAdd, Int.reduceSub, Int.reduceToNat, Int.reducePow, Int.reduceEq, ok, bok, deref, mkL, lstW, tupW, dats, Option.map_some, appendW, insertW, setL, isL, listW, tupleW, lenW, absW, intC, maxW, minW, idxW, addW, subW_e, modW_e, divW_e, powW_e, mulW, intW, lt_e, gt_e, le_e, ge_e, ltW, allW_e, anyW_e, sumW_e, lW, setW, lstAt, cutW, backW, isW, isiW, iLT_none, iLT_bool, iLT_int, iLT_str, iLT_list, iLT_tup, iL_none, iL_bool, iL_int, iL_str, iL_list, iL_tup, iT_none, iT_bool, iT_int, iT_str, iT_list, iT_tup, iS_none, iS_bool, iS_int, iS_str, iS_list, iS_tup, iI_none, iI_bool, iI_int, iI_str, iI_list, iI_tup, iB_none, iB_bool, iB_int, iB_str, iB_list, iB_tup, Bool.false_eq_true, reduceCtorEq, Bool.not_true, Bool.not_false, decide_true, decide_false, List.zip_cons_cons, List.zip_nil_left, List.foldl_cons, List.foldl_nil, and_self, and_true, true_and, Bool.and_true, Bool.true_and, Bool.or_true, Bool.true_or, *])
/-! ### whom, groups -/
theorem look_name_dict {ps : List (Str × Str)} {s t : Str} {h : Hh} (k : ps.lookup s = some t) : m_look_name [.dat (dW ps), .dat (.str s)] h = some (.dat .none, h) := by
  have e2 : getD (sdic (tld ps)) (.str s) = some (some (.str t)) := by rw [getD_sdic, look_tld, k]; rfl
  have e3 : inW true (.dat (.str s)) (.dat (dW ps)) h = some (.dat (.bool false), h) := by
    unfold inW
    simp only [deref, e2]
    rfl
  have lv := leave_same' (h := h) (d := .none)
  unfold m_look_name
  walk_at "dl"
theorem whom_ok {y : D} {l : Bool} {r : List Str} {ps : List (Str × Str)} {s : Str} {h : Hh} (hy : IsSeq y (ps.map (prW l))) (c : CallOf r ps) (nd : r.Nodup) (hr : r.length ≤ 1000) (hs : s ∈ r) : m_whom [.dat y, .dat (.str s)] h = some (.dat (.str (goal ps s)), h) := by
  obtain ⟨k, _⟩ := c.goal_mem hs
  have hl : ps.length = r.length := by have := c.perm.length_eq; rw [List.length_map] at this; exact this
  have e1 := by_names_ok (h := h) hy (c.nodup nd) (by omega)
  have e2 := look_name_dict (h := h) k
  have e3 : getD (sdic (tld ps)) (.str s) = some (some (.str (goal ps s))) := by rw [getD_sdic, look_tld, k]; rfl
  have lv := leave_same' (h := h) (d := .str (goal ps s))
  unfold m_whom
  clear hy c nd hr hs k hl
  walk_at "dl"
/-- those who are told t -/
def grp (ps : List (Str × Str)) (t : Str) : List Str := (ps.filter fun p => decide (p.2 = t)).map (·.1)
def grpD (ps : List (Str × Str)) (t : Str) : D := .list ((grp ps t).map .str)
/-- the dict of groups in the making -/
def gDic (hs : List Str) (ps : List (Str × Str)) : List (D × D) := sdic (hs.map fun t => (t, grpD ps t))
theorem look_map {F : Str → D} : ∀ (hs : List Str) (s : Str), (hs.map fun t => (t, F t)).lookup s = if s ∈ hs then some (F s) else none
  | [], s => rfl
  | t :: hs, s => by
    rw [List.map_cons, List.lookup_cons]
    by_cases h : s = t
    · subst h; simp
    · have h1 : (s == t) = false := by simpa using h
      rw [h1, look_map hs s]
      simp only [List.mem_cons, h, false_or]
theorem grp_snoc (ps : List (Str × Str)) (p : Str × Str) (t : Str) : grp (ps ++ [p]) t = if p.2 = t then grp ps t ++ [p.1] else grp ps t := by
  unfold grp
  rw [List.filter_append, List.map_append]
  by_cases h : p.2 = t
  · simp [h]
  · simp [h]
theorem grp_none {ps : List (Str × Str)} {t : Str} (h : ¬ ∃ p ∈ ps, p.2 = t) : grp ps t = [] := by
  unfold grp
  rw [List.map_eq_nil_iff, List.filter_eq_nil_iff]
  intro p hp z
  exact h ⟨p, hp, by simpa using z⟩
theorem put_old {hs : List Str} {ps : List (Str × Str)} {p : Str × Str} (hm : p.2 ∈ hs) : putK' (gDic hs ps) (.inr p.2) (.list ((grp ps p.2 ++ [p.1]).map .str)) = gDic hs (ps ++ [p]) := by
  unfold putK' gDic
  rw [getK_sdic, look_map, if_pos hm]
  unfold sdic
  simp only [Option.isSome_some, if_true]
  rw [List.map_map, List.map_map, List.map_map]
  apply List.map_congr_left
  intro t _
  show (if dKey (.str t) = some (Sum.inr p.2) then (PyData.str t, _) else (PyData.str t, grpD ps t)) = (PyData.str t, grpD (ps ++ [p]) t)
  unfold grpD
  rw [grp_snoc, dKey_str]
  by_cases h : t = p.2
  · subst h; simp
  · have h2 : ¬ p.2 = t := fun z => h z.symm
    have h1 : ¬ (some (Sum.inr t : Key) = some (Sum.inr p.2)) := fun z => h (by cases z; rfl)
    rw [if_neg h1, if_neg h2]
theorem put_new {hs : List Str} {ps : List (Str × Str)} {p : Str × Str} (hm : p.2 ∉ hs) (hg : grp ps p.2 = []) : putK' (gDic hs ps) (.inr p.2) (.list ((grp ps p.2 ++ [p.1]).map .str)) = gDic (hs ++ [p.2]) (ps ++ [p]) := by
  have e : (hs.map fun t => (t, grpD ps t)) = hs.map fun t => (t, grpD (ps ++ [p]) t) := by
    apply List.map_congr_left
    intro t ht
    have h2 : ¬ p.2 = t := fun z => hm (z ▸ ht)
    unfold grpD
    rw [grp_snoc, if_neg h2]
  have e3 : PyData.list ((grp ps p.2 ++ [p.1]).map .str) = grpD (ps ++ [p]) p.2 := by
    unfold grpD
    rw [grp_snoc, if_pos rfl]
  unfold gDic
  rw [e3, putK_sdic _ (by rw [look_map, if_neg hm]), e, List.map_append]
  rfl
theorem keyS_dic (F : Str → D) : ∀ hs : List Str, keyS (sdic (hs.map fun t => (t, F t))) = some hs
  | [] => rfl
  | t :: hs => by
    show (keyS (sdic (hs.map fun t => (t, F t)))).map (t :: ·) = _
    rw [keyS_dic F hs]; rfl
noncomputable def groupsIn : SM := sPut (f2 (addW false) (fGet (fVar 1) (fVar 3) (fA (lstW false) (fNil))) (fA (lstW false) (fCons (fVar 2) (fNil)))) (fVar 1) (fVar 3)
theorem groups_turn {x : W} {n : Nat} {a t : Str} {es es' : List (D × D)} {old : List D} {g : Hh} (hg : g[n]? = some (some (.dic es))) (e1 : (getD es (.str t)).map (fun o => o.getD (.list [])) = some (.list old)) (e2 : putK' es (.inr t) (.list (old ++ [.str a])) = es') (hl : es.length < sizeLine) (hl2 : old.length + 1 ≤ sizeLine) :
    groupsIn [some x, some (.ref n), some (.dat (.str a)), some (.dat (.str t))] g = some (.nx [some x, some (.ref n), some (.dat (.str a)), some (.dat (.str t))], g.set n (some (.dic es'))) := by
  have f1 : isDc (.ref n) g = true := by
    unfold isDc
    simp only [deref, hg]
  have f2 : getW (.ref n) (.dat (.str t)) (.dat (.list [])) g = some (.dat (.list old), g) := by
    unfold getW
    cases q : getD es (.str t) with
    | none => rw [q] at e1; cases e1
    | some o =>
      rw [q] at e1
      have e1' : o.getD (.list []) = .list old := by simpa using e1
      simp only [deref, hg, q, e1']
      rfl
  have f3 : putW (.ref n) (.dat (.str t)) (.dat (.list (old ++ [.str a]))) g = some (g.set n (some (.dic es'))) := by
    unfold putW dicAt
    simp only [hg, dKey_str, hl, if_true, e2]
  have c0 : 0 ≤ sizeLine := Nat.zero_le _
  have c1 : 1 ≤ sizeLine := by decide
  unfold groupsIn sPut fGet
  clear e1 e2 hl hg
  walk_at "dl"
theorem groups_okS {y : D} {ps : List (Str × Str)} {h : Hh} (hy : IsSeq y (ps.map prT)) (hl : ps.length < 64) : ∃ hs : List Str, hs.Nodup ∧ hs.Pairwise (fun a b => leT a b = true) ∧ (∀ t, t ∈ hs ↔ ∃ p ∈ ps, p.2 = t) ∧ m_groups [.dat y] h = some (.dat (.list (hs.map fun t => .tuple [.str t, .tuple ((grp ps t).map .str)])), h) := by
  have hz : sizeLine = 16777216 := rfl
  have key := forL_inv (k := gT 2 (gC (gN 2) (gC (gN 3) (gE)))) (body := groupsIn) (fun n ρ g => ∃ (hs : List Str) (v2 v3 : Option W), ρ = [some (.dat y), some (.ref h.length), v2, v3] ∧ (∀ n, isR n v2 = false) ∧ (∀ n, isR n v3 = false) ∧ g = h ++ [some (.dic (gDic hs (ps.take n)))] ∧ hs.Nodup ∧ (∀ t, t ∈ hs ↔ ∃ p ∈ ps.take n, p.2 = t) ∧ hs.length ≤ n) (ds := ps.map prT) (n := 0)
    (ρ := [some (.dat y), some (.ref h.length), none, none]) (h := h ++ [some (.dic [])]) ⟨[], none, none, rfl, fun _ => rfl, fun _ => rfl, rfl, .nil, fun t => by simp, Nat.le_refl _⟩ (by
      intro j d ej ρ g hi
      obtain ⟨hs, v2, v3, rfl, i2, i3, rfl, nd, hm, hlen⟩ := hi
      rw [Nat.zero_add] at hm hlen ⊢
      rw [List.getElem?_map] at ej
      obtain ⟨p, ep, rfl⟩ := Option.map_eq_some_iff.mp ej
      have hj : j < ps.length := (List.getElem?_eq_some_iff.mp ep).1
      have ts : ps.take (j + 1) = ps.take j ++ [p] := take_snoc ep
      have gl : (grp (ps.take j) p.2).length ≤ 64 := by
        unfold grp
        rw [List.length_map]
        refine Nat.le_trans (List.length_filter_le _ _) ?_
        rw [List.length_take]; omega
      have gdl : (gDic hs (ps.take j)).length < sizeLine := by unfold gDic sdic; rw [List.length_map, List.length_map]; omega
      have key : ∀ hs', putK' (gDic hs (ps.take j)) (.inr p.2) (.list ((grp (ps.take j) p.2).map .str ++ [.str p.1])) = gDic hs' (ps.take j ++ [p]) → groupsIn [some (.dat y), some (.ref h.length), some (.dat (.str p.1)), some (.dat (.str p.2))] (h ++ [some (.dic (gDic hs (ps.take j)))]) = some (.nx [some (.dat y), some (.ref h.length), some (.dat (.str p.1)), some (.dat (.str p.2))], h ++ [some (.dic (gDic hs' (ps.take j ++ [p])))]) := fun hs' e => by
        rw [groups_turn (x := .dat y) (n := h.length) (a := p.1) (t := p.2) (es := gDic hs (ps.take j)) (old := (grp (ps.take j) p.2).map .str) (app_get rfl) ?_ e gdl (by rw [List.length_map]; omega), app_set rfl]
        unfold gDic
        rw [getD_sdic, look_map]
        by_cases q : p.2 ∈ hs
        · rw [if_pos q]; rfl
        · rw [if_neg q, grp_none (fun z => q ((hm _).mpr z))]; rfl
      have kk : gT 2 (gC (gN 2) (gC (gN 3) (gE))) (.dat (prT p)) [some (.dat y), some (.ref h.length), v2, v3] (h ++ [some (.dic (gDic hs (ps.take j)))]) = some [some (.dat y), some (.ref h.length), some (.dat (.str p.1)), some (.dat (.str p.2))] := by
        clear key hy hl hz ej ep hm hlen nd i2 i3 gl gdl ts hj
        walk_at "dl"
      by_cases q : p.2 ∈ hs
      · have e := put_old (ps := ps.take j) (p := p) q
        rw [List.map_append] at e
        refine ⟨_, _, _, kk, key hs e, hs, _, _, rfl, fun _ => rfl, fun _ => rfl, by rw [ts], nd, fun t => ?_, by omega⟩
        rw [ts, hm]
        constructor
        · rintro ⟨w, hw, e⟩; exact ⟨w, List.mem_append_left _ hw, e⟩
        · rintro ⟨w, hw, e9⟩
          rcases List.mem_append.mp hw with hw | hw
          · exact ⟨w, hw, e9⟩
          · rw [List.mem_singleton] at hw; subst hw; rw [← e9]; exact (hm _).mp q
      · have e := put_new (ps := ps.take j) (p := p) q (grp_none (fun z => q ((hm _).mpr z)))
        rw [List.map_append] at e
        refine ⟨_, _, _, kk, key (hs ++ [p.2]) e, hs ++ [p.2], _, _, rfl, fun _ => rfl, fun _ => rfl, by rw [ts], ?_, fun t => ?_, by simp; omega⟩
        · rw [List.nodup_append]
          refine ⟨nd, by simp, fun a ha b hb e => ?_⟩
          rw [List.mem_singleton] at hb
          subst hb e
          exact q ha
        · rw [ts, List.mem_append, hm, List.mem_singleton]
          constructor
          · rintro (⟨w, hw, e⟩ | e)
            · exact ⟨w, List.mem_append_left _ hw, e⟩
            · exact ⟨p, List.mem_append_right _ (List.mem_singleton.mpr rfl), e.symm⟩
          · rintro ⟨w, hw, e9⟩
            rcases List.mem_append.mp hw with hw | hw
            · exact .inl ⟨w, hw, e9⟩
            · rw [List.mem_singleton] at hw; subst hw; exact .inr e9.symm)
  obtain ⟨ρ', g, e, hs, v2, v3, rfl, i2, i3, rfl, nd, hm, hlen⟩ := key
  rw [Nat.zero_add, List.length_map] at hm hlen
  rw [Nat.zero_add, List.length_map] at e
  rw [List.take_length] at hm e
  refine ⟨hs.mergeSort leT, (List.mergeSort_perm hs leT).nodup_iff.mpr nd, List.pairwise_mergeSort leT_trans leT_total hs, fun t => by rw [(List.mergeSort_perm hs leT).mem_iff]; exact hm t, ?_⟩
  have hf : frz 1 [some (.dat y), some (.ref h.length), v2, v3] (h ++ [some (.dic (gDic hs ps))]) = some ([some (.dat y), some (.dat (.dict (gDic hs ps))), v2, v3], h ++ [none]) := by
    have g1 : (h ++ [some (MO.dic (gDic hs ps))])[h.length]? = some (some (.dic (gDic hs ps))) := app_get rfl
    have g2 : (h ++ [some (MO.dic (gDic hs ps))]).set h.length none = h ++ [none] := app_set rfl
    unfold frz
    simp only [List.getElem?_cons_zero, List.getElem?_cons_succ, g1, g2, List.set_cons_zero, List.set_cons_succ, List.any_cons, List.any_nil, i2, i3, isR_ref, isR_dat, isR_none, Bool.or_false, isTab, Bool.false_eq_true, if_false, moD]
  have e1 : sortDW false [.dat (.dict (gDic hs ps))] (h ++ [none]) = some (.dat (.list ((hs.mergeSort leT).map .str)), h ++ [none]) := by
    have l1 : hs.length < 64 := by omega
    unfold sortDW gDic
    simp only [deref, isT_sdic, Bool.false_eq_true, if_false, keyS_dic, l1, if_true]
    rfl
  have e2 : lcL (gN 3) bYes (fA tupW (fCons (fVar 3) (fCons (fA tupleW (fCons (f2 idxW (fVar 1) (fVar 3)) (fNil))) (fNil)))) [some (.dat y), some (.dat (.dict (gDic hs ps))), v2, none] ((hs.mergeSort leT).map .str) (h ++ [none]) = some ((hs.mergeSort leT).map (fun t => .tuple [.str t, .tuple ((grp ps t).map .str)]), h ++ [none]) := by
    rw [lcL_all (fun d => .tuple [d, .tuple ((grp ps (unS d)).map .str)])]
    · rw [List.map_map]; rfl
    · intro d hd
      obtain ⟨t, ht, rfl⟩ := List.mem_map.mp hd
      have ht' : t ∈ hs := (List.mergeSort_perm hs leT).mem_iff.mp ht
      have g1 : getD (gDic hs ps) (.str t) = some (some (.list ((grp ps t).map .str))) := by
        unfold gDic
        rw [getD_sdic, look_map, if_pos ht']; rfl
      have c2 : 2 ≤ sizeLine := by omega
      refine ⟨[some (.dat y), some (.dat (.dict (gDic hs ps))), v2, some (.dat (.str t))], rfl, rfl, ?_⟩
      clear e e1 hf hy hl hz hd ht ht' nd hm hlen i2 i3
      walk_at "dl"
      rfl
  have l3 : ((hs.mergeSort leT).map (fun t => PyData.tuple [.str t, .tuple ((grp ps t).map .str)])).length ≤ sizeLine := by
    rw [List.length_map, (List.mergeSort_perm hs leT).length_eq]; omega
  have lv : leave false h (.dat (.list ((hs.mergeSort leT).map (fun t => PyData.tuple [.str t, .tuple ((grp ps t).map .str)])))) (h ++ [none]) = some (.dat (.list ((hs.mergeSort leT).map (fun t => PyData.tuple [.str t, .tuple ((grp ps t).map .str)]))), h) := by
    have e : (h ++ [none]).take h.length = h := app_take rfl
    rw [leave_dat (by rw [e]), e]
  have dn : fDn true [some (.dat y), none, none, none] h = some (.ref h.length, h ++ [some (.dic [])]) := rfl
  unfold groupsIn at e
  unfold m_groups
  clear hl hz nd hm hlen i2 i3
  generalize (hs.mergeSort leT).map (fun t => PyData.tuple [.str t, .tuple ((grp ps t).map .str)]) = R at *
  rcases hy with rfl | rfl <;> walk_at "dl"
theorem groups_ok {y : D} {ps : List (Str × Str)} {h : Hh} (hy : IsSeq y (ps.map prT)) (hl : ps.length < 64) : ∃ hs : List Str, hs.Nodup ∧ (∀ t, t ∈ hs ↔ ∃ p ∈ ps, p.2 = t) ∧ m_groups [.dat y] h = some (.dat (.list (hs.map fun t => .tuple [.str t, .tuple ((grp ps t).map .str)])), h) := by
  obtain ⟨hs, a, _, b, c⟩ := groups_okS (h := h) hy hl
  exact ⟨hs, a, b, c⟩
end DL
set_option maxHeartbeats 400000
namespace DL
open PySem L2
local macro_rules | `(tactic| walk_at "dl") => `(tactic| simp (config := { dsimp := false }) only [↓fnM_e, ↓sSeq_e, seqK_nx, seqK_rt, seqK_bk, seqK_ct, retK_rt, retK_nx, ↓sFrz_e, frK_some, ↓sAsg, ↓sRet, ↓sRetN, ↓sIf, ↓sExpr, ↓sSkip, ↓sNever, ↓sPar, ↓sFor, ↓sSub, ↓fVar, ↓fC, ↓fNil, ↓fCons, ↓fA, ↓f1, ↓f2, ↓fB, ↓fIf, ↓fNeg, ↓fNot, ↓fAnd, ↓fOr, ↓bNot, ↓bAnd, ↓bOr, ↓bYes, ↓obnd_x, ob_some, ↓sbnd_x, sb_some, ↓ite_x, iteK_t, iteK_f, gN, gT, gC, gE, ↓rng1I, ↓rng2I, ↓seqI, ↓enumA, ↓zipI, ↓strI, ↓fLc, ↓fDc, ↓fM, ↓fSl, ↓oNone, ↓oSome, ↓fRev, wipeE, ↓kwM, permM, permL, List.foldr, List.length_cons, List.length_nil, List.map_cons, List.map_nil, List.cons_append, List.nil_append, List.replicate, List.replicate_succ, List.replicate_zero, List.getElem?_cons_zero, List.getElem?_cons_succ, List.set_cons_zero, List.set_cons_succ, if_true, if_false, reduceIte, Nat.reduceAdd, Nat.reduceSub, Nat.reduceEqDiff, Nat.reduceLT, Nat.reduceLeDiff, Int.reduceLT, Int.reduceLE, Int.reduceNeg, Int.reduceMul, Int.reduceAdd, Int.reduceSub, Int.reduceToNat, Int.reducePow, Int.reduceEq, ok, bok, deref, mkL, lstW, tupW, dats, Option.map_some, appendW, insertW, setL, isL, listW, tupleW, lenW, absW, intC, maxW, minW, idxW, addW, subW_e, modW_e, divW_e, powW_e, mulW, intW, lt_e, gt_e, le_e, ge_e, ltW, allW_e, anyW_e, sumW_e, lW, setW, lstAt, cutW, backW, isW, isiW, iLT_none, iLT_bool, iLT_int, iLT_str, iLT_list, iLT_tup, iL_none, iL_bool, iL_int, iL_str, iL_list, iL_tup, iT_none, iT_bool, iT_int, iT_str, iT_list, iT_tup, iS_none, iS_bool, iS_int, iS_str, iS_list, iS_tup, iI_none, iI_bool, iI_int, iI_str, iI_list, iI_tup, iB_none, iB_bool, iB_int, iB_str, iB_list, iB_tup, Bool.false_eq_true, reduceCtorEq, Bool.not_true, Bool.not_false, decide_true, decide_false, List.zip_cons_cons, List.zip_nil_left, List.foldl_cons, List.foldl_nil, and_self, and_true, true_and, Bool.and_true, Bool.true_and, Bool.or_true, Bool.true_or, *])
/-! ### turned about, side by side, stretches -/
theorem idx_rev {r : List Str} (nd : r.Nodup) {s : Str} (hs : s ∈ r) : r.reverse.idxOf s = r.length - 1 - r.idxOf s := by
  have hi := List.idxOf_lt_length_of_mem hs
  have hk : r.length - 1 - r.idxOf s < r.reverse.length := by rw [List.length_reverse]; omega
  have nr : r.reverse.Nodup := (List.reverse_perm r).nodup_iff.mpr nd
  have e := idx_of nr hk
  rw [List.getElem_reverse] at e
  have e2 : r.length - 1 - (r.length - 1 - r.idxOf s) = r.idxOf s := by omega
  simp only [e2] at e
  rwa [List.getElem_idxOf hi] at e
theorem led_eq {r m : List Str} {ps : List (Str × Str)} (p : m.Perm r) (h : m.Pairwise fun a b => leK (keyN r ps a) (keyN r ps b) = true) : m = led r ps := by
  have pm := p.trans (led_perm r ps).symm
  refine List.Perm.eq_of_pairwise (fun a b ha hb h1 h2 => ?_) h (led_pw r ps) pm
  unfold leK keyN at h1 h2
  simp only [decide_eq_true_eq] at h1 h2
  exact idx_inj (p.mem_iff.mp ha) ((led_perm r ps).mem_iff.mp hb) (by omega)
theorem led_rev {r : List Str} {ps : List (Str × Str)} (c : CallOf r ps) (nd : r.Nodup) : led r.reverse ps = (led r ps).reverse := by
  symm
  apply led_eq
  · exact (List.reverse_perm _).trans ((led_perm r ps).trans (List.reverse_perm r).symm)
  · rw [List.pairwise_reverse]
    refine List.Pairwise.imp_of_mem ?_ (led_pw r ps)
    intro a b ha hb h
    have ha := (led_perm r ps).mem_iff.mp ha
    have hb := (led_perm r ps).mem_iff.mp hb
    obtain ⟨_, ga⟩ := c.goal_mem ha
    obtain ⟨_, gb⟩ := c.goal_mem hb
    have l1 := List.idxOf_lt_length_of_mem ha
    have l2 := List.idxOf_lt_length_of_mem hb
    have l3 := List.idxOf_lt_length_of_mem ga
    have l4 := List.idxOf_lt_length_of_mem gb
    unfold leK keyN at h ⊢
    rw [idx_rev nd ha, idx_rev nd hb, idx_rev nd ga, idx_rev nd gb]
    simp only [decide_eq_true_eq] at h ⊢
    omega
theorem split_by (f : Str → Nat) (k : Nat) : ∀ {m : List Str}, m.Pairwise (fun a b => f a ≤ f b) → m = m.filter (fun s => decide (f s < k)) ++ (m.filter (fun s => decide (f s = k)) ++ m.filter (fun s => decide (k < f s)))
  | [], _ => rfl
  | a :: m, h => by
    obtain ⟨h1, h2⟩ := List.pairwise_cons.mp h
    have ih := split_by f k h2
    rcases Nat.lt_trichotomy (f a) k with z | z | z
    · rw [List.filter_cons_of_pos (by simpa using z), List.filter_cons_of_neg (by simp; omega), List.filter_cons_of_neg (by simp; omega), List.cons_append, ← ih]
    · have e0 : m.filter (fun s => decide (f s < k)) = [] := by
        rw [List.filter_eq_nil_iff]
        intro b hb
        have := h1 b hb
        simp; omega
      rw [e0, List.nil_append] at ih
      rw [List.filter_cons_of_neg (by simp; omega), e0, List.filter_cons_of_pos (by simpa using z), List.filter_cons_of_neg (by simp; omega), List.nil_append, List.cons_append, ← ih]
    · have e0 : m.filter (fun s => decide (f s < k)) = [] := by
        rw [List.filter_eq_nil_iff]
        intro b hb
        have := h1 b hb
        simp; omega
      have e1 : m.filter (fun s => decide (f s = k)) = [] := by
        rw [List.filter_eq_nil_iff]
        intro b hb
        have := h1 b hb
        simp; omega
      rw [e0, e1, List.nil_append, List.nil_append] at ih
      rw [List.filter_cons_of_neg (by simp; omega), e0, List.filter_cons_of_neg (by simp; omega), e1, List.filter_cons_of_pos (by simpa using z), List.nil_append, List.nil_append, ← ih]
/-- those of the row who are told t -/
def told (r : List Str) (ps : List (Str × Str)) (t : Str) : List Str := r.filter fun s => decide (goal ps s = t)
theorem led_mono (r : List Str) (ps : List (Str × Str)) : (led r ps).Pairwise fun a b => r.idxOf (goal ps a) ≤ r.idxOf (goal ps b) :=
  (led_pw r ps).imp fun {a b} h => by
    unfold leK keyN at h
    simp only [decide_eq_true_eq] at h
    omega
theorem led_told {r : List Str} {ps : List (Str × Str)} (c : CallOf r ps) (nd : r.Nodup) {t : Str} (ht : t ∈ r) : (led r ps).filter (fun s => decide (r.idxOf (goal ps s) = r.idxOf t)) = told r ps t := by
  have pf : ∀ s ∈ r, decide (r.idxOf (goal ps s) = r.idxOf t) = decide (goal ps s = t) := fun s hs => by
    rw [decide_eq_decide]
    exact ⟨fun e => idx_inj (c.goal_mem hs).2 ht e, fun e => by rw [e]⟩
  have e1 : told r ps t = r.filter fun s => decide (r.idxOf (goal ps s) = r.idxOf t) := List.filter_congr fun s hs => (pf s hs).symm
  rw [e1]
  refine List.Perm.eq_of_pairwise (le := fun a b => r.idxOf a ≤ r.idxOf b) (fun a b ha hb h1 h2 => ?_) ?_ ?_ ((led_perm r ps).filter _)
  · exact idx_inj ((led_perm r ps).mem_iff.mp (List.mem_filter.mp ha).1) (List.mem_filter.mp hb).1 (by omega)
  · refine List.Pairwise.imp_of_mem ?_ ((led_pw r ps).filter _)
    intro a b ha hb h
    have za := (List.mem_filter.mp ha).2
    have zb := (List.mem_filter.mp hb).2
    simp only [decide_eq_true_eq] at za zb
    unfold leK keyN at h
    simp only [decide_eq_true_eq] at h
    omega
  · exact ((pw_idx nd).filter _).imp fun h => Nat.le_of_lt h
theorem told_slice {r : List Str} {ps : List (Str × Str)} (c : CallOf r ps) (nd : r.Nodup) {t s0 : Str} {bs : List Str} (ht : t ∈ r) (e : told r ps t = s0 :: bs) : ((led r ps).drop ((led r ps).idxOf s0)).take (bs.length + 1) = told r ps t := by
  have sp0 := split_by (fun s => r.idxOf (goal ps s)) (r.idxOf t) (led_mono r ps)
  rw [led_told c nd ht, e] at sp0
  have nl : (led r ps).Nodup := led_nodup nd ps
  obtain ⟨A, C, sp⟩ : ∃ A C, led r ps = A ++ ((s0 :: bs) ++ C) := ⟨_, _, sp0⟩
  clear sp0
  have hi : (led r ps).idxOf s0 = A.length := by
    have hlt : A.length < (led r ps).length := by rw [sp]; simp
    have h1 := idx_of nl hlt
    have e2 : (led r ps)[A.length] = s0 := by
      have q : (led r ps)[A.length]? = some s0 := by
        rw [sp, List.getElem?_append_right (Nat.le_refl _)]
        simp
      exact (List.getElem?_eq_some_iff.mp q).2
    rwa [e2] at h1
  rw [hi, e, sp, List.drop_left]
  show ((s0 :: bs) ++ _).take (s0 :: bs).length = _
  rw [List.take_left]
theorem goal_of : ∀ {ps : List (Str × Str)}, (ps.map (·.1)).Nodup → ∀ p ∈ ps, goal ps p.1 = p.2
  | [], _, p, h => by cases h
  | (a, b) :: ps, nd, p, h => by
    rw [List.map_cons, List.nodup_cons] at nd
    unfold goal
    rw [List.lookup_cons]
    rcases List.mem_cons.mp h with rfl | h
    · simp
    · have ne : p.1 ≠ a := fun z => nd.1 (List.mem_map.mpr ⟨p, h, z⟩)
      rw [show (p.1 == a) = false by simpa using ne]
      exact goal_of nd.2 p h
theorem grp_eq {ps : List (Str × Str)} (nd : (ps.map (·.1)).Nodup) (t : Str) : grp ps t = (ps.map (·.1)).filter fun s => decide (goal ps s = t) := by
  unfold grp
  rw [List.filter_map]
  congr 1
  apply List.filter_congr
  intro p hp
  show _ = decide (goal ps p.1 = t)
  rw [goal_of nd p hp]
theorem grp_perm {r : List Str} {ps : List (Str × Str)} (c : CallOf r ps) (nd : r.Nodup) (t : Str) : (grp ps t).Perm (told r ps t) := by
  rw [grp_eq (c.nodup nd)]
  exact c.perm.filter _
theorem sortS_self {l : List Str} (h : l.Pairwise fun a b => leS a b = true) : sortS l = l := List.mergeSort_of_pairwise h
theorem grp_sorted {l : List Str} {ps : List (Str × Str)} (e : ps.map (·.1) = sortS l) (nd : l.Nodup) (t : Str) : sortS (grp ps t) = grp ps t := by
  apply sortS_self
  rw [grp_eq (by rw [e]; exact (sortS_perm l).nodup_iff.mpr nd), e]
  exact (sortS_pw l).filter _
theorem told_mem {r : List Str} {ps : List (Str × Str)} (c : CallOf r ps) (nd : r.Nodup) (t : Str) : (r.filter fun s => decide (s ∈ grp ps t)) = told r ps t := by
  apply List.filter_congr
  intro s hs
  rw [decide_eq_decide, (grp_perm c nd t).mem_iff]
  unfold told
  rw [List.mem_filter]
  simp [hs]
theorem falls_less {f : Str → Nat} {g : Str → Str} {q : Str × Str → Bool} (hg : ∀ x y, g x = g y → f x = f y) : ∀ {m hs : List Str}, m ≠ [] → m.Pairwise (fun a b => f a ≤ f b) → (∀ x ∈ m, g x ∈ hs) → (∀ p ∈ m.zip (m.drop 1), q p = true → f p.1 < f p.2) → ((m.zip (m.drop 1)).filter q).length + 1 ≤ hs.length
  | [], _, h, _, _, _ => absurd rfl h
  | [a], hs, _, _, h, _ => by
    have := h a List.mem_cons_self
    simp only [List.drop_succ_cons, List.drop_nil, List.zip_nil_right, List.filter_nil, List.length_nil]
    exact List.length_pos_of_mem this
  | a :: b :: m, hs, _, pw, h, hq => by
    obtain ⟨h1, h2⟩ := List.pairwise_cons.mp pw
    have ez : (a :: b :: m).zip ((a :: b :: m).drop 1) = (a, b) :: (b :: m).zip ((b :: m).drop 1) := by simp
    rw [ez] at hq ⊢
    have hq' := fun p hp => hq p (List.mem_cons_of_mem _ hp)
    by_cases z : q (a, b) = true
    · have lt : f a < f b := hq (a, b) List.mem_cons_self z
      have ha := h a List.mem_cons_self
      have ih := falls_less hg (m := b :: m) (hs := hs.erase (g a)) (by simp) h2 (fun x hx => by
        have hne : g x ≠ g a := fun e => by
          have e2 := hg _ _ e
          have h3 := (List.pairwise_cons.mp h2).1
          rcases List.mem_cons.mp hx with rfl | hx
          · omega
          · have := h3 x hx; omega
        exact (List.mem_erase_of_ne hne).mpr (h x (List.mem_cons_of_mem _ hx))) hq'
      rw [List.length_erase_of_mem ha] at ih
      have := List.length_pos_of_mem ha
      rw [List.filter_cons_of_pos z, List.length_cons]
      omega
    · have ih := falls_less hg (m := b :: m) (hs := hs) (by simp) h2 (fun x hx => h x (List.mem_cons_of_mem _ hx)) hq'
      rw [List.filter_cons_of_neg z]
      exact ih
theorem falls_led {r hs : List Str} {ps : List (Str × Str)} (hp : 0 < r.length) (hh : ∀ x ∈ r, goal ps x ∈ hs) : fallsN r (led r ps) < hs.length := by
  have pm := led_perm r ps
  unfold fallsN
  refine falls_less (f := fun s => r.idxOf (goal ps s)) (g := goal ps) (fun x y e => by rw [e]) (fun z => ?_) (led_mono r ps) (fun x hx => hh x (pm.mem_iff.mp hx)) (fun p hp hq => ?_)
  · have := pm.length_eq; rw [z] at this; simp at this; omega
  · obtain ⟨i, hi, rfl⟩ := zip_next hp
    have h := List.pairwise_iff_getElem.mp (led_pw r ps) i (i + 1) (by omega) hi (by omega)
    unfold leK keyN at h
    simp only [decide_eq_true_eq] at h hq
    show r.idxOf (goal ps (led r ps)[i]) < r.idxOf (goal ps (led r ps)[i + 1])
    omega
end DL
set_option maxHeartbeats 400000
namespace DL
open PySem L2
local macro_rules | `(tactic| walk_at "dl") => `(tactic| simp (config := { dsimp := false }) only [↓fnM_e, ↓sSeq_e, seqK_nx, seqK_rt, seqK_bk, seqK_ct, retK_rt, retK_nx, ↓sFrz_e, frK_some, ↓sAsg, ↓sRet, ↓sRetN, ↓sIf, ↓sExpr, ↓sSkip, ↓sNever, ↓sPar, ↓sFor, ↓sSub, ↓fVar, ↓fC, ↓fNil, ↓fCons, ↓fA, ↓f1, ↓f2, ↓fB, ↓fIf, ↓fNeg, ↓fNot, ↓fAnd, ↓fOr, ↓bNot, ↓bAnd, ↓bOr, ↓bYes, ↓obnd_x, ob_some, ↓sbnd_x, sb_some, ↓ite_x, iteK_t, iteK_f, gN, gT, gC, gE, ↓rng1I, ↓rng2I, ↓seqI, ↓enumA, ↓zipI, ↓strI, ↓fLc, ↓fDc, ↓fM, ↓fSl, ↓oNone, ↓oSome, ↓fRev, wipeE, ↓kwM, permM, permL, List.foldr, List.length_cons, List.length_nil, List.map_cons, List.map_nil, List.cons_append, List.nil_append, List.replicate, List.replicate_succ, List.replicate_zero, List.getElem?_cons_zero, List.getElem?_cons_succ, List.set_cons_zero, List.set_cons_succ, if_true, if_false, reduceIte, Nat.reduceAdd, Nat.reduceSub, Nat.reduceEqDiff, Nat.reduceLT, Nat.reduceLeDiff, Int.reduceLT, Int.reduceLE, Int.reduceNeg, Int.reduceMul, Int.reduceAdd, Int.reduceSub, Int.reduceToNat, Int.reducePow, Int.reduceEq, ok, bok, deref, mkL, lstW, tupW, dats, Option.map_some, appendW, insertW, setL, isL, listW, tupleW, lenW, absW, intC, maxW, minW, idxW, addW, subW_e, modW_e, divW_e, powW_e, mulW, intW, lt_e, gt_e, le_e, ge_e, ltW, allW_e, anyW_e, sumW_e, lW, setW, lstAt, cutW, backW, isW, isiW, iLT_none, iLT_bool, iLT_int, iLT_str, iLT_list, iLT_tup, iL_none, iL_bool, iL_int, iL_str, iL_list, iL_tup, iT_none, iT_bool, iT_int, iT_str, iT_list, iT_tup, iS_none, iS_bool, iS_int, iS_str, iS_list, iS_tup, iI_none, iI_bool, iI_int, iI_str, iI_list, iI_tup, iB_none, iB_bool, iB_int, iB_str, iB_list, iB_tup, Bool.false_eq_true, reduceCtorEq, Bool.not_true, Bool.not_false, decide_true, decide_false, List.zip_cons_cons, List.zip_nil_left, List.foldl_cons, List.foldl_nil, and_self, and_true, true_and, Bool.and_true, Bool.true_and, Bool.or_true, Bool.true_or, *])
/-! ### while, picks, names: the second way of drawing -/
theorem whileL_run {t : BM} {body : SM} (J : Nat → Env → Hh → Prop) : ∀ (k : Nat) {n fuel : Nat} {ρ : Env} {h : Hh}, k < fuel → J n ρ h →
    (∀ j ρ h, n ≤ j → j < n + k → J j ρ h → ∃ h1 ρ2 h2, t ρ h = some (true, h1) ∧ body ρ h1 = some (.nx ρ2, h2) ∧ J (j + 1) ρ2 h2) →
    (∀ ρ h, J (n + k) ρ h → t ρ h = some (false, h)) → ∃ ρ' h', whileL t body fuel ρ h = some (.nx ρ', h') ∧ J (n + k) ρ' h'
  | 0, n, f + 1, ρ, h, _, j, _, e => by
    refine ⟨ρ, h, ?_, j⟩
    unfold whileL
    simp only [e ρ h j, sbnd, Bool.false_eq_true, if_false]
  | k + 1, n, f + 1, ρ, h, hf, j, H, e => by
    obtain ⟨h1, ρ2, h2, e1, e2, j2⟩ := H n ρ h (Nat.le_refl _) (by omega) j
    obtain ⟨ρ', h', e3, j3⟩ := whileL_run J k (n := n + 1) (fuel := f) (by omega) j2 (fun i ρ h a b q => H i ρ h (by omega) (by omega) q) (fun ρ h q => e ρ h (by rw [show n + (k + 1) = n + 1 + k by omega]; exact q))
    refine ⟨ρ', h', ?_, by rw [show n + (k + 1) = n + 1 + k by omega]; exact j3⟩
    unfold whileL
    simp only [e1, sbnd, if_true, e2, e3]
theorem pick_eq : m__law_pick = m__law_of := rfl
theorem pick_ok {x : D} {ds : List D} {h : Hh} {b c : Nat} (hx : IsSeq x ds) (hb : BoxAt h b c) (hc : c < 1000000000) (h0 : 0 < ds.length) (h1 : ds.length ≤ 1000) :
    ∃ d h', m__law_pick [.ref b, .dat x] h = some (.dat d, h') ∧ d ∈ ds ∧ BoxAt h' b (c + 1) ∧ Only b h h' := by
  rw [pick_eq]
  exact of_ok hx hb hc h0 h1
theorem pick_txt {z : Str} {h : Hh} {b c : Nat} (hb : BoxAt h b c) (hc : c < 1000000000) (h0 : 0 < z.length) (h1 : z.length ≤ 1000) :
    ∃ (y : Nat) (h' : Hh), m__law_pick [.ref b, .dat (.str z)] h = some (.dat (.str ⟨#[y]⟩), h') ∧ y ∈ z.cps.toList ∧ BoxAt h' b (c + 1) ∧ Only b h h' := by
  obtain ⟨r, h', e, r0, r1, b1, o1⟩ := take_ok (n := (z.length : Int)) hb (by omega) (by omega) (by omega)
  have hz : z.cps.toList.length = z.length := by simp [Str.length]
  have hr : r.toNat < z.cps.toList.length := by omega
  have e2 : L2.atI z.cps.toList r = some z.cps.toList[r.toNat] := by
    have := atI_nat (xs := z.cps.toList) (j := r.toNat) (List.getElem?_eq_getElem hr)
    rwa [show ((r.toNat : Nat) : Int) = r by omega] at this
  refine ⟨z.cps.toList[r.toNat], h', ?_, List.getElem_mem hr, b1, o1⟩
  have lv := leave_dat' (d := .str ⟨#[z.cps.toList[r.toNat]]⟩) hb b1 o1
  have l1 : z.length ≤ sizeLine := Nat.le_trans h1 (by decide)
  generalize z.cps.toList[r.toNat] = y at *
  unfold m__law_pick
  clear hb b1 o1 r0 r1 hr h0 h1 hc hz
  walk_at "dl"
theorem glue_cps (e : Array Nat) (he : e.toList = []) : ∀ (ps : List Str) (acc : Array Nat), (ps.foldl (fun acc p => acc ++ e ++ p.cps) acc).toList = acc.toList ++ ps.flatMap fun s => s.cps.toList
  | [], acc => by simp
  | p :: ps, acc => by
    rw [List.foldl_cons, glue_cps e he ps, List.flatMap_cons]
    simp [he]
theorem join_cps : ∀ l : List Str, (Txt.join "" l).cps.toList = l.flatMap fun s => s.cps.toList
  | [] => by decide +kernel
  | a :: l => by
    show (l.foldl (fun acc p => acc ++ ("" : Str).cps ++ p.cps) a.cps).toList = _
    rw [glue_cps _ (by decide +kernel), List.flatMap_cons]
abbrev six : Str := "abkmxz"
abbrev ends : Str := "abcdefghijklmnopqrstuvwx"
theorem six_ok : ∀ c ∈ six.cps.toList, 97 ≤ c ∧ c ≤ 122 := by decide +kernel
theorem six_len : six.length = 6 := by decide +kernel
theorem ends_len : ends.length = 24 := by decide +kernel
theorem ends_at {i : Nat} (h : i < 24) : L2.atI ends.cps.toList (i : Int) = some (97 + i) := by
  have : ∀ i : Fin 24, L2.atI ends.cps.toList ((i : Nat) : Int) = some (97 + i.1) := by decide +kernel
  exact this ⟨i, h⟩
/-- a name that ends in the sign 97 + i -/
def NameAt (i : Nat) (s : Str) : Prop := NameOk s ∧ s.cps.toList.getLast? = some (97 + i)
theorem name_made {ys : List Nat} {i : Nat} (h1 : 1 ≤ ys.length) (h2 : ys.length ≤ 3) (h3 : ∀ y ∈ ys, 97 ≤ y ∧ y ≤ 122) (hi : i < 24) : NameAt i (Txt.join "" (ys.map fun y => (⟨#[y]⟩ : Str)) ++ ⟨#[97 + i]⟩) := by
  have e : (Txt.join "" (ys.map fun y => (⟨#[y]⟩ : Str)) ++ ⟨#[97 + i]⟩).cps.toList = ys ++ [97 + i] := by
    rw [cps_app, join_cps]
    congr 1
    rw [List.flatMap_map]
    simp
  have l : (Txt.join "" (ys.map fun y => (⟨#[y]⟩ : Str)) ++ ⟨#[97 + i]⟩).length = ys.length + 1 := by
    show (Txt.join "" (ys.map fun y => (⟨#[y]⟩ : Str)) ++ ⟨#[97 + i]⟩).cps.size = _
    rw [← Array.length_toList, e]; simp
  refine ⟨⟨by omega, by omega, fun c hc => ?_⟩, by rw [e]; simp⟩
  rw [e] at hc
  rcases List.mem_append.mp hc with hc | hc
  · exact h3 c hc
  · rw [List.mem_singleton] at hc; omega
end DL
set_option maxHeartbeats 400000
namespace DL
open PySem L2
local macro_rules | `(tactic| walk_at "dl") => `(tactic| simp (config := { dsimp := false }) only [↓fnM_e, ↓sSeq_e, seqK_nx, seqK_rt, seqK_bk, seqK_ct, retK_rt, retK_nx, ↓sFrz_e, frK_some, ↓sAsg, ↓sRet, ↓sRetN, ↓sIf, ↓sExpr, ↓sSkip, ↓sNever, ↓sPar, ↓sFor, ↓sSub, ↓fVar, ↓fC, ↓fNil, ↓fCons, ↓fA, ↓f1, ↓f2, ↓fB, ↓fIf, ↓fNeg, ↓fNot, ↓fAnd, ↓fOr, ↓bNot, ↓bAnd, ↓bOr, ↓bYes, ↓obnd_x, ob_some, ↓sbnd_x, sb_some, ↓ite_x, iteK_t, iteK_f, gN, gT, gC, gE, ↓rng1I, ↓rng2I, ↓seqI, ↓enumA, ↓zipI, ↓strI, ↓fLc, ↓fDc, ↓fM, ↓fSl, ↓oNone, ↓oSome, ↓fRev, wipeE, ↓kwM, permM, permL, List.foldr, List.length_cons, List.length_nil, List.map_cons, List.map_nil, List.cons_append, List.nil_append, List.replicate, List.replicate_succ, List.replicate_zero, List.getElem?_cons_zero, List.getElem?_cons_succ, List.set_cons_zero, List.set_cons_succ, if_true, if_false, reduceIte, Nat.reduceAdd, Nat.reduceSub, Nat.reduceEqDiff, Nat.reduceLT, Nat.reduceLeDiff, Int.reduceLT, Int.reduceLE, Int.reduceNeg, Int.reduceMul, Int.reduceAdd, Int.reduceSub, Int.reduceToNat, Int.reducePow, Int.reduceEq, ok, bok, deref, mkL, lstW, tupW, dats, Option.map_some, appendW, insertW, setL, isL, listW, tupleW, lenW, absW, intC, maxW, minW, idxW, addW, subW_e, modW_e, divW_e, powW_e, mulW, intW, lt_e, gt_e, le_e, ge_e, ltW, allW_e, anyW_e, sumW_e, lW, setW, lstAt, cutW, backW, isW, isiW, iLT_none, iLT_bool, iLT_int, iLT_str, iLT_list, iLT_tup, iL_none, iL_bool, iL_int, iL_str, iL_list, iL_tup, iT_none, iT_bool, iT_int, iT_str, iT_list, iT_tup, iS_none, iS_bool, iS_int, iS_str, iS_list, iS_tup, iI_none, iI_bool, iI_int, iI_str, iI_list, iI_tup, iB_none, iB_bool, iB_int, iB_str, iB_list, iB_tup, Bool.false_eq_true, reduceCtorEq, Bool.not_true, Bool.not_false, decide_true, decide_false, List.zip_cons_cons, List.zip_nil_left, List.foldl_cons, List.foldl_nil, and_self, and_true, true_and, Bool.and_true, Bool.true_and, Bool.or_true, Bool.true_or, *])
noncomputable def nmBody : SM := (sSeq (sAsg (fJoin (fC (.str "")) (fLc false (rng1I (fCons (f2 (addW false) (fC (.int 1)) (fA (m__law_take) (fCons (fVar 0) (fCons (fC (.int 3)) (fNil))))) (fNil))) (gN 5) (bYes) (fA (m__law_pick) (fCons (fVar 0) (fCons (fC (.str "abkmxz")) (fNil)))) [5])) (gN 4))
    (sAsg (fA (sortSW false) (fCons (f2 (addW false) (fVar 3) (fA (lstW false) (fCons (f2 (addW false) (fVar 4) (f2 idxW (fC (.str "abcdefghijklmnopqrstuvwx")) (fA lenW (fCons (fVar 3) (fNil))))) (fNil)))) (fNil))) (gN 3)))
theorem nm_run {g g1 g2 : Hh} {b : Nat} {r nI : Int} {L M Z nmz : Str} {cc : Nat} {F rs R : List D} {v1 v2 v4 : Option W} (hL : L = ends) (hM : M = six) (hZ : Z = "") (e1 : m__law_take [.ref b, .dat (.int 3)] g = some (.dat (.int r), g1)) (b0 : -1000000000 ≤ 1 + r) (b1 : 1 + r ≤ 1000000000)
    (e2 : lcL (gN 5) (bYes) (fA (m__law_pick) (fCons (fVar 0) (fCons (fC (.str M)) (fNil)))) [some (.ref b), v1, v2, some (.dat (.list F)), v4, none] (rngD 0 (1 + r).toNat) g1 = some (rs, g2)) (l1 : rs.length ≤ sizeLine) (ej : joinW (.dat (.str Z)) (.dat (.list rs)) g2 = some (.dat (.str nmz), g2)) (es : isS (.dat (.str Z)) = true)
    (hn : (F.length : Int) = nI) (la : L2.atI L.cps.toList nI = some cc) (ll : L.length ≤ sizeLine) (l2 : nmz.length + (Str.length ⟨#[cc]⟩) ≤ sizeLine) (l3 : F.length + 1 ≤ sizeLine) (eq : sortSW false [.dat (.list (F ++ [.str (nmz ++ ⟨#[cc]⟩)]))] g2 = some (.dat (.list R), g2)) :
    nmBody [some (.ref b), v1, v2, some (.dat (.list F)), v4, none] g = some (.nx [some (.ref b), v1, v2, some (.dat (.list R)), some (.dat (.str nmz)), none], g2) := by
  have c1 : 1 ≤ sizeLine := by decide
  unfold nmBody fJoin
  subst hL hM hZ
  walk_at "dl"
theorem rowS_sing (ys : List Nat) : rowS (ys.map fun y => PyData.str ⟨#[y]⟩) = some (ys.map fun y => (⟨#[y]⟩ : Str)) := by
  have := rowS_strs (ys.map fun y => (⟨#[y]⟩ : Str))
  rwa [List.map_map] at this
theorem nm_turn {g : Hh} {b c n : Nat} {l : List Str} {v1 v2 v4 : Option W} (hb : BoxAt g b c) (hc : c < 100000) (hl : l.length = n) (hn : n < 24) (nd : l.Nodup) (hno : ∀ s, NameAt n s → s ∉ l) :
    ∃ (s : Str) (v4' : Option W) (g' : Hh), NameAt n s ∧ nmBody [some (.ref b), v1, v2, some (.dat (.list (l.map .str))), v4, none] g = some (.nx [some (.ref b), v1, v2, some (.dat (.list (((l ++ [s]).mergeSort leT).map .str))), v4', none], g') ∧ BoxAt g' b (c + 4) ∧ Only b g g' := by
  have hz : sizeLine = 16777216 := rfl
  obtain ⟨r, g1, e1, r0, r1, b1, o1⟩ := take_ok (n := 3) hb (by omega) (by omega) (by omega)
  have key := lcL_inv (k := gN 5) (f := fA (m__law_pick) (fCons (fVar 0) (fCons (fC (.str six)) (fNil)))) (ρ := [some (.ref b), v1, v2, some (.dat (.list (l.map .str))), v4, none]) (fun k g' => BoxAt g' b (c + 1 + k) ∧ Only b g g') (fun _ d => ∃ y : Nat, y ∈ six.cps.toList ∧ d = .str ⟨#[y]⟩) (ds := rngD 0 (1 + r).toNat) (n := 0) (h := g1) ⟨b1, o1⟩ (by
    intro j d ej g' hi
    obtain ⟨bx, on⟩ := hi
    have hj := (rng_get ej).1
    obtain ⟨y, g2, e2, hy, b2, o2⟩ := pick_txt (z := six) bx (by omega) (by rw [six_len]; omega) (by rw [six_len]; omega)
    refine ⟨[some (.ref b), v1, v2, some (.dat (.list (l.map .str))), v4, some (.dat d)], .str ⟨#[y]⟩, g2, rfl, ?_, ⟨y, hy, rfl⟩, b2, on.trans o2⟩
    generalize six = M at *
    clear hb hc hl hn nd hno hz e1 r0 r1 b1 o1 ej bx on hj hy b2 o2
    walk_at "dl")
  obtain ⟨rs, g2, e2, rl, hr, b2, o2⟩ := key
  rw [rng_len] at rl b2
  obtain ⟨ys, rfl, hy⟩ : ∃ ys : List Nat, rs = ys.map (fun y => PyData.str ⟨#[y]⟩) ∧ ∀ y ∈ ys, y ∈ six.cps.toList := by
    have : ∀ rs : List D, (∀ d ∈ rs, ∃ y : Nat, y ∈ six.cps.toList ∧ d = .str ⟨#[y]⟩) → ∃ ys : List Nat, rs = ys.map (fun y => PyData.str ⟨#[y]⟩) ∧ ∀ y ∈ ys, y ∈ six.cps.toList := fun rs => by
      induction rs with
      | nil => exact fun _ => ⟨[], rfl, fun y hy => by cases hy⟩
      | cons d rs ih =>
        intro H
        obtain ⟨y, h1, rfl⟩ := H d List.mem_cons_self
        obtain ⟨ys, rfl, h2⟩ := ih fun e he => H e (List.mem_cons_of_mem _ he)
        exact ⟨y :: ys, rfl, fun z hz => by
          rcases List.mem_cons.mp hz with rfl | hz
          · exact h1
          · exact h2 z hz⟩
    refine this rs fun d hd => ?_
    obtain ⟨j, hj, rfl⟩ := List.getElem_of_mem hd
    exact hr j _ (List.getElem?_eq_getElem hj)
  rw [List.length_map] at rl
  have na := name_made (ys := ys) (i := n) (by omega) (by omega) (fun y h => six_ok y (hy y h)) hn
  have nn := hno _ na
  have ndl : (l ++ [Txt.join "" (ys.map fun y => (⟨#[y]⟩ : Str)) ++ ⟨#[97 + n]⟩]).Nodup := by
    rw [List.nodup_append]
    refine ⟨nd, by simp, fun x hx y hy' e => ?_⟩
    rw [List.mem_singleton] at hy'
    subst hy'
    rw [e] at hx
    exact nn hx
  have nl := na.1.2.1
  refine ⟨_, some (.dat (.str (Txt.join "" (ys.map fun y => (⟨#[y]⟩ : Str))))), g2, na, nm_run (L := ends) (M := six) (Z := "") (cc := 97 + n) (nI := (n : Int)) rfl rfl rfl e1 (by omega) (by omega) e2 (by rw [List.length_map]; omega) ?_ rfl (by rw [List.length_map, hl]) (ends_at hn) (by rw [ends_len]; omega) ?_ (by rw [List.length_map]; omega) ?_, b2.mono (by omega), o2⟩
  · unfold joinW
    have q : ((ys.map fun y => (⟨#[y]⟩ : Str)).map (·.length)).sum + (ys.map fun y => (⟨#[y]⟩ : Str)).length * ("" : Str).length ≤ 16777216 := by
      have e0 : ("" : Str).length = 0 := by decide +kernel
      rw [e0, Nat.mul_zero, List.map_map]
      have : ∀ ys : List Nat, (ys.map ((fun s : Str => s.length) ∘ fun y => (⟨#[y]⟩ : Str))).sum = ys.length := fun ys => by
        induction ys with
        | nil => rfl
        | cons a t ih =>
          rw [List.map_cons, List.sum_cons, ih, List.length_cons]
          show 1 + _ = _
          omega
      rw [this]
      omega
    simp only [deref, rowS_sing]
    rw [if_pos q]
    rfl
  · rw [← len_app]; omega
  · unfold sortSW
    have e : rowS (l.map PyData.str ++ [.str (Txt.join "" (ys.map fun y => (⟨#[y]⟩ : Str)) ++ ⟨#[97 + n]⟩)]) = some (l ++ [Txt.join "" (ys.map fun y => (⟨#[y]⟩ : Str)) ++ ⟨#[97 + n]⟩]) := by
      have := rowS_strs (l ++ [Txt.join "" (ys.map fun y => (⟨#[y]⟩ : Str)) ++ ⟨#[97 + n]⟩])
      rwa [List.map_append] at this
    have ln : (l ++ [Txt.join "" (ys.map fun y => (⟨#[y]⟩ : Str)) ++ ⟨#[97 + n]⟩]).length < 1000 := by rw [List.length_append]; simp; omega
    simp only [deref, e, ndl, ln, decide_true, Bool.and_self, if_true]
    rfl
end DL
set_option maxHeartbeats 400000
namespace DL
open PySem L2
local macro_rules | `(tactic| walk_at "dl") => `(tactic| simp (config := { dsimp := false }) only [↓fnM_e, ↓sSeq_e, seqK_nx, seqK_rt, seqK_bk, seqK_ct, retK_rt, retK_nx, ↓sFrz_e, frK_some, ↓sAsg, ↓sRet, ↓sRetN, ↓sIf, ↓sExpr, ↓sSkip, ↓sNever, ↓sPar, ↓sFor, ↓sSub, ↓fVar, ↓fC, ↓fNil, ↓fCons, ↓fA, ↓f1, ↓f2, ↓fB, ↓fIf, ↓fNeg, ↓fNot, ↓fAnd, ↓fOr, ↓bNot, ↓bAnd, ↓bOr, ↓bYes, ↓obnd_x, ob_some, ↓sbnd_x, sb_some, ↓ite_x, iteK_t, iteK_f, gN, gT, gC, gE, ↓rng1I, ↓rng2I, ↓seqI, ↓enumA, ↓zipI, ↓strI, ↓fLc, ↓fDc, ↓fM, ↓fSl, ↓oNone, ↓oSome, ↓fRev, wipeE, ↓kwM, permM, permL, List.foldr, List.length_cons, List.length_nil, List.map_cons, List.map_nil, List.cons_append, List.nil_append, List.replicate, List.replicate_succ, List.replicate_zero, List.getElem?_cons_zero, List.getElem?_cons_succ, List.set_cons_zero, List.set_cons_succ, if_true, if_false, reduceIte, Nat.reduceAdd, Nat.reduceSub, Nat.reduceEqDiff, Nat.reduceLT, Nat.reduceLeDiff, Int.reduceLT, Int.reduceLE, Int.reduceNeg, Int.reduceMul, Int.reduceAdd, Int.reduceSub, Int.reduceToNat, Int.reducePow, Int.reduceEq, ok, bok, deref, mkL, lstW, tupW, dats, Option.map_some, appendW, insertW, setL, isL, listW, tupleW, lenW, absW, intC, maxW, minW, idxW, addW, subW_e, modW_e, divW_e, powW_e, mulW, intW, lt_e, gt_e, le_e, ge_e, ltW, allW_e, anyW_e, sumW_e, lW, setW, lstAt, cutW, backW, isW, isiW, iLT_none, iLT_bool, iLT_int, iLT_str, iLT_list, iLT_tup, iL_none, iL_bool, iL_int, iL_str, iL_list, iL_tup, iT_none, iT_bool, iT_int, iT_str, iT_list, iT_tup, iS_none, iS_bool, iS_int, iS_str, iS_list, iS_tup, iI_none, iI_bool, iI_int, iI_str, iI_list, iI_tup, iB_none, iB_bool, iB_int, iB_str, iB_list, iB_tup, Bool.false_eq_true, reduceCtorEq, Bool.not_true, Bool.not_false, decide_true, decide_false, List.zip_cons_cons, List.zip_nil_left, List.foldl_cons, List.foldl_nil, and_self, and_true, true_and, Bool.and_true, Bool.true_and, Bool.or_true, Bool.true_or, *])
theorem nameAt_inj {i j : Nat} {s : Str} (h1 : NameAt i s) (h2 : NameAt j s) : i = j := by
  have := h1.2.symm.trans h2.2
  injection this with e
  omega
theorem names_ok {h : Hh} {b c most : Nat} (hb : BoxAt h b c) (hc : c < 10000) (m0 : 0 < most) (m1 : most ≤ 24) :
    ∃ (l : List Str) (h' : Hh), m__law_names [.ref b, .dat (.int most)] h = some (.dat (.list (l.map .str)), h') ∧ Folk most l ∧ l.Pairwise (fun a b => leS a b = true) ∧ BoxAt h' b (c + 1 + 4 * most) ∧ Only b h h' := by
  have hz : sizeLine = 16777216 := rfl
  obtain ⟨r, g1, e1, r0, r1, b1, o1⟩ := take_ok (n := (most : Int)) hb (by omega) (by omega) (by omega)
  have key := whileL_run (t := fB (f2 lt_W (fA lenW (fCons (fVar 3) (fNil))) (fVar 2))) (body := nmBody) (fun n ρ g => ∃ (l : List Str) (v4 : Option W), ρ = [some (.ref b), some (.dat (.int most)), some (.dat (.int (1 + r))), some (.dat (.list (l.map .str))), v4, none] ∧ l.length = n ∧ l.Nodup ∧ (∀ s ∈ l, ∃ i, i < n ∧ NameAt i s) ∧ l.Pairwise (fun a b => leS a b = true) ∧ BoxAt g b (c + 1 + 4 * n) ∧ Only b h g)
    (1 + r).toNat (n := 0) (fuel := 100000) (ρ := [some (.ref b), some (.dat (.int most)), some (.dat (.int (1 + r))), some (.dat (.list [])), none, none]) (h := g1) (by omega) ⟨[], none, rfl, rfl, .nil, (fun s hs => by cases hs), .nil, b1, o1⟩ (by
      intro j ρ g _ hj hi
      obtain ⟨l, v4, rfl, hl, nd, hs, pw, bx, on⟩ := hi
      obtain ⟨s, v4', g', na, et, b2, o2⟩ := nm_turn (v1 := some (.dat (.int most))) (v2 := some (.dat (.int (1 + r)))) (v4 := v4) bx (by omega) hl (by omega) nd (fun s hs' hm => by
        obtain ⟨i, hi, ni⟩ := hs s hm
        have := nameAt_inj hs' ni
        omega)
      have pm := List.mergeSort_perm (l ++ [s]) leT
      refine ⟨g, _, g', ?_, et, _, v4', rfl, ?_, ?_, ?_, ?_, b2.mono (by omega), on.trans o2⟩
      · have d1 : decide (((l.map PyData.str).length : Int) < 1 + r) = true := by rw [List.length_map, hl]; simp; omega
        clear hz e1 r0 r1 b1 o1 hl nd hs pw bx on na et b2 o2 hb hc m0 m1 hj pm
        walk_at "dl"
      · rw [pm.length_eq]; simp [hl]
      · refine pm.nodup_iff.mpr ?_
        rw [List.nodup_append]
        refine ⟨nd, by simp, fun x hx y hy e => ?_⟩
        rw [List.mem_singleton] at hy
        subst hy
        subst e
        obtain ⟨i, hi, ni⟩ := hs x hx
        have := nameAt_inj na ni
        omega
      · intro x hx
        rcases List.mem_append.mp (pm.mem_iff.mp hx) with hx | hx
        · obtain ⟨i, hi, ni⟩ := hs x hx
          exact ⟨i, by omega, ni⟩
        · rw [List.mem_singleton] at hx
          subst hx
          exact ⟨j, by omega, na⟩
      · exact List.pairwise_mergeSort leT_trans leT_total (l ++ [s])) (by
      intro ρ g hi
      obtain ⟨l, v4, rfl, hl, nd, hs, pw, bx, on⟩ := hi
      have d1 : decide (((l.map PyData.str).length : Int) < 1 + r) = false := by rw [List.length_map, hl]; simp; omega
      clear hz e1 r0 r1 b1 o1 hl nd hs pw bx on hb hc m0 m1
      walk_at "dl")
  obtain ⟨ρ', g, e2, l, v4, rfl, hl, nd, hs, pw, bx, on⟩ := key
  have bm : BoxAt g b (c + 1 + 4 * most) := bx.mono (by omega)
  refine ⟨l, g, ?_, ⟨nd, by omega, by omega, fun s h' => by obtain ⟨i, _, na⟩ := hs s h'; exact na.1⟩, pw, bm, on⟩
  have lv := leave_dat' (d := .list (l.map .str)) hb bm on
  have c0 : 0 ≤ sizeLine := Nat.zero_le _
  have ew : sWhile 100000 (fB (f2 lt_W (fA lenW (fCons (fVar 3) (fNil))) (fVar 2))) nmBody [some (.ref b), some (.dat (.int most)), some (.dat (.int (1 + r))), some (.dat (.list [])), none, none] g1 = some (.nx [some (.ref b), some (.dat (.int most)), some (.dat (.int (1 + r))), some (.dat (.list (l.map .str))), v4, none], g) := e2
  unfold nmBody at ew
  unfold m__law_names
  clear hz r0 r1 b1 o1 hl nd hs pw bx on hb hc m0 m1 e2 bm
  walk_at "dl"
theorem erase_map {α β : Type} (f : α → β) : ∀ (l : List α) (i : Nat), (l.map f).eraseIdx i = (l.eraseIdx i).map f
  | [], _ => rfl
  | a :: l, 0 => rfl
  | a :: l, i + 1 => by
    show f a :: (l.map f).eraseIdx i = f a :: (l.eraseIdx i).map f
    rw [erase_map f l i]
theorem erase_perm {α : Type} : ∀ (l : List α) (i : Nat) (h : i < l.length), l.Perm (l[i] :: l.eraseIdx i)
  | a :: l, 0, _ => List.Perm.refl _
  | a :: l, i + 1, h => by
    have ih := erase_perm l i (by simpa using h)
    exact (List.Perm.cons a ih).trans (List.Perm.swap _ _ _)
theorem eqW_nil {l : List Str} {n : Nat} {h : Hh} (ht : Txts l) (hg : h[n]? = some (some (.lst (l.map .str)))) : eqW true (.ref n) (.dat (.list [])) h = some (.dat (.bool (decide (l ≠ []))), h) := by
  have hs := shp_list ht
  have h0 : shp (.list []) = true := by decide +kernel
  have e : PyData.eqv (.list (l.map .str)) (.list []) = decide (l = []) := by
    cases l with
    | nil => decide +kernel
    | cons a l => simp [PyData.eqv, PyData.eqvAll]
  unfold eqW
  simp only [deref, hg, eqS, hs, h0, e, Bool.and_self, if_true]
  show bok (!decide (l = [])) h = _
  rw [← decide_not]; rfl
end DL
set_option maxHeartbeats 400000
namespace DL
open PySem L2
local macro_rules | `(tactic| walk_at "dl") => `(tactic| simp (config := { dsimp := false }) only [↓fnM_e, ↓sSeq_e, seqK_nx, seqK_rt, seqK_bk, seqK_ct, retK_rt, retK_nx, ↓sFrz_e, frK_some, ↓sAsg, ↓sRet, ↓sRetN, ↓sIf, ↓sExpr, ↓sSkip, ↓sNever, ↓sPar, ↓sFor, ↓sSub, ↓fVar, ↓fC, ↓fNil, ↓fCons, ↓fA, ↓f1, ↓f2, ↓fB, ↓fIf, ↓fNeg, ↓fNot, ↓fAnd, ↓fOr, ↓bNot, ↓bAnd, ↓bOr, ↓bYes, ↓obnd_x, ob_some, ↓sbnd_x, sb_some, ↓ite_x, iteK_t, iteK_f, gN, gT, gC, gE, ↓rng1I, ↓rng2I, ↓seqI, ↓enumA, ↓zipI, ↓strI, ↓fLc, ↓fDc, ↓fM, ↓fSl, ↓oNone, ↓oSome, ↓fRev, wipeE, ↓kwM, permM, permL, List.foldr, List.length_cons, List.length_nil, List.map_cons, List.map_nil, List.cons_append, List.nil_append, List.replicate, List.replicate_succ, List.replicate_zero, List.getElem?_cons_zero, List.getElem?_cons_succ, List.set_cons_zero, List.set_cons_succ, if_true, if_false, reduceIte, Nat.reduceAdd, Nat.reduceSub, Nat.reduceEqDiff, Nat.reduceLT, Nat.reduceLeDiff, Int.reduceLT, Int.reduceLE, Int.reduceNeg, Int.reduceMul, Int.reduceAdd, Int.reduceSub, Int.reduceToNat, Int.reducePow, Int.reduceEq, ok, bok, deref, mkL, lstW, tupW, dats, Option.map_some, appendW, insertW, setL, isL, listW, tupleW, lenW, absW, intC, maxW, minW, idxW, addW, subW_e, modW_e, divW_e, powW_e, mulW, intW, lt_e, gt_e, le_e, ge_e, ltW, allW_e, anyW_e, sumW_e, lW, setW, lstAt, cutW, backW, isW, isiW, iLT_none, iLT_bool, iLT_int, iLT_str, iLT_list, iLT_tup, iL_none, iL_bool, iL_int, iL_str, iL_list, iL_tup, iT_none, iT_bool, iT_int, iT_str, iT_list, iT_tup, iS_none, iS_bool, iS_int, iS_str, iS_list, iS_tup, iI_none, iI_bool, iI_int, iI_str, iI_list, iI_tup, iB_none, iB_bool, iB_int, iB_str, iB_list, iB_tup, Bool.false_eq_true, reduceCtorEq, Bool.not_true, Bool.not_false, decide_true, decide_false, List.zip_cons_cons, List.zip_nil_left, List.foldl_cons, List.foldl_nil, and_self, and_true, true_and, Bool.and_true, Bool.true_and, Bool.or_true, Bool.true_or, *])
/-! ### an order by draws -/
noncomputable def rowBody : SM := sExpr (fM isL appendW (fVar 3) (fCons (fM isL popAtW (fVar 2) (fCons (fA (m__law_take) (fCons (fVar 0) (fCons (fA lenW (fCons (fVar 2) (fNil))) (fNil)))) (fNil))) (fNil)))
theorem row_turn {g g1 g2 : Hh} {b p q : Nat} {x : W} {left found : List D} {d : D} {i n : Int} (hp : g[p]? = some (some (.lst left))) (hq : g[q]? = some (some (.lst found))) (hn : (left.length : Int) = n) (e1 : m__law_take [.ref b, .dat (.int n)] g = some (.dat (.int i), g1)) (hp1 : g1[p]? = some (some (.lst left))) (i0 : 0 ≤ i) (i1 : i < 1000000) (hd : left[i.toNat]? = some d)
    (e2 : g1.set p (some (.lst (left.eraseIdx i.toNat))) = g2) (hq2 : g2[q]? = some (some (.lst found))) (hl : found.length < sizeLine) :
    rowBody [some (.ref b), some x, some (.ref p), some (.ref q)] g = some (.nx [some (.ref b), some x, some (.ref p), some (.ref q)], g2.set q (some (.lst (found ++ [d])))) := by
  have f1 : isL (.ref p) g = true := by unfold isL; simp only [deref, hp]
  have f2 : isL (.ref q) g = true := by unfold isL; simp only [deref, hq]
  have f3 : popAtW (.ref p) [.dat (.int i)] g1 = some (.dat d, g2) := by
    unfold popAtW lstAt setL
    simp only [hp1, hd, e2]
    rw [if_pos ⟨i0, i1⟩]
  have f4 : appendW (.ref q) [.dat d] g2 = some (.dat .none, g2.set q (some (.lst (found ++ [d])))) := by
    unfold appendW lstAt setL
    simp only [hq2, hl, if_true]
  have f5 : lenW [.ref p] g = some (.dat (.int n), g) := by
    unfold lenW
    simp only [deref, hp, hn]
    rfl
  unfold rowBody fM
  clear hp hq hn hp1 i0 i1 hd e2 hq2 hl
  simp only [fCons, fNil, fA, fVar, sExpr, List.getElem?_cons_zero, List.getElem?_cons_succ, obnd, sbnd, f1, f2, if_true, e1, f3, f4, f5]
theorem only_two {b : Nat} {h h' : Hh} {o o' : Option MO} (hb : b < h.length) (x : Only b (h ++ [o, o']) h') : ∃ g : Hh, h' = g ++ [o, o'] ∧ g.length = h.length ∧ Only b h g := by
  have x' : Only b ((h ++ [o]) ++ [o']) h' := by simpa using x
  obtain ⟨o1, g1, e1, l1⟩ := only_app (by rw [List.length_append]; omega) x'
  rw [e1, app_take l1] at o1
  obtain ⟨o2, g2, e2, l2⟩ := only_app hb o1
  rw [e2, app_take l2] at o2
  exact ⟨g2, by rw [e1, e2]; simp, l2, o2⟩
theorem two_get {g : Hh} {o o' : Option MO} {n : Nat} (e : g.length = n) : (g ++ [o, o'])[n]? = some o ∧ (g ++ [o, o'])[n + 1]? = some o' := by
  constructor
  · rw [List.getElem?_append_right (by omega), e, Nat.sub_self]; rfl
  · rw [List.getElem?_append_right (by omega), e, show n + 1 - n = 1 by omega]; rfl
theorem two_set {g : Hh} {o o' z : Option MO} {n : Nat} (e : g.length = n) : (g ++ [o, o']).set n z = g ++ [z, o'] ∧ (g ++ [o, o']).set (n + 1) z = g ++ [o, z] := by
  constructor
  · rw [List.set_append_right _ _ (by omega), show n - g.length = 0 by omega]; rfl
  · rw [List.set_append_right _ _ (by omega), show n + 1 - g.length = 1 by omega]; rfl
theorem row_ok {x : D} {l : List Str} {h : Hh} {b c : Nat} (hx : IsSeq x (l.map .str)) (ht : Txts l) (hb : BoxAt h b c) (hc : c < 1000000) (hl : l.length ≤ 1000) :
    ∃ (r : List Str) (h' : Hh), m__law_row [.ref b, .dat x] h = some (.dat (rowT r), h') ∧ r.Perm l ∧ BoxAt h' b (c + l.length) ∧ Only b h h' := by
  have hz : sizeLine = 16777216 := rfl
  have key := whileL_run (t := fB (f2 (eqW true) (fVar 2) (fA (lstW false) (fNil)))) (body := rowBody) (fun n ρ g => ∃ (left found : List Str) (g' : Hh), ρ = [some (.ref b), some (.dat x), some (.ref h.length), some (.ref (h.length + 1))] ∧ g = g' ++ [some (.lst (left.map .str)), some (.lst (found.map .str))] ∧ (found ++ left).Perm l ∧ left.length + n = l.length ∧ BoxAt g' b (c + n) ∧ Only b h g')
    l.length (n := 0) (fuel := 100000) (ρ := [some (.ref b), some (.dat x), some (.ref h.length), some (.ref (h.length + 1))]) (h := h ++ [some (.lst (l.map .str)), some (.lst [])]) (by omega) ⟨l, [], h, rfl, rfl, List.Perm.refl _, rfl, hb, .refl _ _⟩ (by
      intro j ρ g _ hj hi
      obtain ⟨left, found, g', rfl, rfl, pm, ll, bx, on⟩ := hi
      have gl := on.len
      have tl : Txts left := fun s hs => ht s (pm.mem_iff.mp (List.mem_append_right _ hs))
      have fl : found.length ≤ l.length := by have := pm.length_eq; rw [List.length_append] at this; omega
      obtain ⟨i, g1, e1, i0, i1, b1, o1⟩ := take_ok (n := (left.length : Int)) (box_app (l := [some (.lst (left.map .str)), some (.lst (found.map .str))]) bx) (by omega) (by omega) (by omega)
      obtain ⟨g2, rfl, g2l, o2⟩ := only_two bx.lt o1
      have hi : i.toNat < left.length := by omega
      have hlb : h.length = g'.length := gl.symm
      have et := row_turn (x := .dat x) (p := h.length) (q := h.length + 1) (left := left.map .str) (found := found.map .str) (d := .str left[i.toNat]) (n := (left.length : Int)) (two_get (by omega)).1 (two_get (by omega)).2 (by rw [List.length_map]) e1 (two_get (by omega)).1 i0 (by omega) (by rw [List.getElem?_map, List.getElem?_eq_getElem hi]; rfl) (two_set (by omega)).1 (two_get (by omega)).2 (by rw [List.length_map]; omega)
      rw [(two_set (by omega)).2] at et
      refine ⟨_, _, _, ?_, et, left.eraseIdx i.toNat, found ++ [left[i.toNat]], g2, rfl, ?_, ?_, ?_, ?_, on.trans o2⟩
      · have ne : left ≠ [] := fun z => by rw [z] at hi; simp at hi
        have e3 := eqW_nil (n := h.length) (h := g' ++ [some (.lst (left.map .str)), some (.lst (found.map .str))]) tl (two_get (by omega)).1
        rw [decide_eq_true ne] at e3
        have c0 : 0 ≤ sizeLine := Nat.zero_le _
        clear et e1 hz ht hb hc hl pm ll bx on tl fl b1 o1 o2 hx gl hlb g2l i0 i1 ne hi hj
        walk_at "dl"
      · rw [erase_map, List.map_append]; rfl
      · refine List.Perm.trans ?_ pm
        rw [List.append_assoc]
        exact List.Perm.append_left _ (erase_perm left i.toNat hi).symm
      · rw [List.length_eraseIdx_of_lt hi]; omega
      · have := box_take b1 (n := g2.length) (by rw [g2l]; exact bx.lt)
        rw [List.take_append_of_le_length (Nat.le_refl _), List.take_length] at this
        exact this) (by
      intro ρ g hi
      obtain ⟨left, found, g', rfl, rfl, pm, ll, bx, on⟩ := hi
      have e0 : left = [] := List.length_eq_zero_iff.mp (by omega)
      subst e0
      have gl := on.len
      have e3 := eqW_nil (l := []) (n := h.length) (h := g' ++ [some (.lst (([] : List Str).map .str)), some (.lst (found.map .str))]) (fun s hs => by cases hs) (two_get (by omega)).1
      have e4 : decide (([] : List Str) ≠ []) = false := by simp
      rw [e4] at e3
      have c0 : 0 ≤ sizeLine := Nat.zero_le _
      rw [List.map_nil] at e3 ⊢
      clear hz ht hb hc hl pm ll bx on hx gl e4
      walk_at "dl")
  obtain ⟨ρ', g, e2, left, found, g', rfl, rfl, pm, ll, bx, on⟩ := key
  have e0 : left = [] := List.length_eq_zero_iff.mp (by omega)
  subst e0
  rw [List.append_nil] at pm
  rw [Nat.zero_add] at bx
  refine ⟨found, g', ?_, pm, bx, on⟩
  have gl := on.len
  have lb := hb.lt
  have lv : leave false h (.dat (rowT found)) (g' ++ [some (.lst []), none]) = some (.dat (rowT found), g') := by
    have e : (g' ++ [some (MO.lst []), none]).take h.length = g' := by rw [← gl, List.take_append_of_le_length (Nat.le_refl _), List.take_length]
    rw [leave_dat (by rw [e]; exact live_only hb bx on), e]
  have hf : frz 3 [some (.ref b), some (.dat x), some (.ref h.length), some (.ref (h.length + 1))] (g' ++ [some (.lst []), some (.lst (found.map .str))]) = some ([some (.ref b), some (.dat x), some (.ref h.length), some (.dat (.list (found.map .str)))], g' ++ [some (.lst []), none]) := by
    have g1 := (two_get (g := g') (o := some (MO.lst [])) (o' := some (MO.lst (found.map .str))) (n := h.length) (by omega)).2
    have g2 := (two_set (g := g') (o := some (MO.lst [])) (o' := some (MO.lst (found.map .str))) (z := none) (n := h.length) (by omega)).2
    have n1 : (b = h.length + 1) = False := eq_false (by omega)
    have n2 : (h.length = h.length + 1) = False := eq_false (by omega)
    unfold frz
    simp only [List.getElem?_cons_zero, List.getElem?_cons_succ, g1, g2, List.set_cons_zero, List.set_cons_succ, List.any_cons, List.any_nil, isR_ref, isR_dat, isR_none, n1, n2, decide_false, Bool.or_false, isTab, Bool.false_eq_true, if_false, moD]
  have ew : sWhile 100000 (fB (f2 (eqW true) (fVar 2) (fA (lstW false) (fNil)))) rowBody [some (.ref b), some (.dat x), some (.ref h.length), some (.ref (h.length + 1))] (h ++ [some (.lst (l.map .str)), some (.lst [])]) = some (.nx [some (.ref b), some (.dat x), some (.ref h.length), some (.ref (h.length + 1))], g' ++ [some (.lst []), some (.lst (found.map .str))]) := e2
  have c0 : 0 ≤ sizeLine := Nat.zero_le _
  have ha : (h ++ [some (MO.lst (l.map .str))]) ++ [some (.lst [])] = h ++ [some (.lst (l.map .str)), some (.lst [])] := by simp
  have hl1 : (h ++ [some (MO.lst (l.map PyData.str))]).length = h.length + 1 := by simp
  unfold rowBody at ew
  unfold m__law_row
  clear hz ht hb hc hl pm ll bx on e2 gl lb
  rcases hx with rfl | rfl <;> walk_at "dl"
end DL
set_option maxHeartbeats 400000
namespace DL
open PySem L2
local macro_rules | `(tactic| walk_at "dl") => `(tactic| simp (config := { dsimp := false }) only [↓fnM_e, ↓sSeq_e, seqK_nx, seqK_rt, seqK_bk, seqK_ct, retK_rt, retK_nx, ↓sFrz_e, frK_some, ↓sAsg, ↓sRet, ↓sRetN, ↓sIf, ↓sExpr, ↓sSkip, ↓sNever, ↓sPar, ↓sFor, ↓sSub, ↓fVar, ↓fC, ↓fNil, ↓fCons, ↓fA, ↓f1, ↓f2, ↓fB, ↓fIf, ↓fNeg, ↓fNot, ↓fAnd, ↓fOr, ↓bNot, ↓bAnd, ↓bOr, ↓bYes, ↓obnd_x, ob_some, ↓sbnd_x, sb_some, ↓ite_x, iteK_t, iteK_f, gN, gT, gC, gE, ↓rng1I, ↓rng2I, ↓seqI, ↓enumA, ↓zipI, ↓strI, ↓fLc, ↓fDc, ↓fM, ↓fSl, ↓oNone, ↓oSome, ↓fRev, wipeE, ↓kwM, permM, permL, List.foldr, List.length_cons, List.length_nil, List.map_cons, List.map_nil, List.cons_append, List.nil_append, List.replicate, List.replicate_succ, List.replicate_zero, List.getElem?_cons_zero, List.getElem?_cons_succ, List.set_cons_zero, List.set_cons_succ, if_true, if_false, reduceIte, Nat.reduceAdd, Nat.reduceSub, Nat.reduceEqDiff, Nat.reduceLT, Nat.reduceLeDiff, Int.reduceLT, Int.reduceLE, Int.reduceNeg, Int.reduceMul, Int.reduceAdd, Int.reduceSub, Int.reduceToNat, Int.reducePow, Int.reduceEq, ok, bok, deref, mkL, lstW, tupW, dats, Option.map_some, appendW, insertW, setL, isL, listW, tupleW, lenW, absW, intC, maxW, minW, idxW, addW, subW_e, modW_e, divW_e, powW_e, mulW, intW, lt_e, gt_e, le_e, ge_e, ltW, allW_e, anyW_e, sumW_e, lW, setW, lstAt, cutW, backW, isW, isiW, iLT_none, iLT_bool, iLT_int, iLT_str, iLT_list, iLT_tup, iL_none, iL_bool, iL_int, iL_str, iL_list, iL_tup, iT_none, iT_bool, iT_int, iT_str, iT_list, iT_tup, iS_none, iS_bool, iS_int, iS_str, iS_list, iS_tup, iI_none, iI_bool, iI_int, iI_str, iI_list, iI_tup, iB_none, iB_bool, iB_int, iB_str, iB_list, iB_tup, Bool.false_eq_true, reduceCtorEq, Bool.not_true, Bool.not_false, decide_true, decide_false, List.zip_cons_cons, List.zip_nil_left, List.foldl_cons, List.foldl_nil, and_self, and_true, true_and, Bool.and_true, Bool.true_and, Bool.or_true, Bool.true_or, *])
/-! ### the law's own calling: by whom each is told, among those told one as they stood -/
theorem perm_nodup : ∀ {l m : List Str}, l.Nodup → m.Nodup → (∀ k, k ∈ l ↔ k ∈ m) → l.Perm m
  | [], m, _, _, h => by
    have : m = [] := List.eq_nil_iff_forall_not_mem.mpr fun k hk => by have := (h k).mpr hk; cases this
    rw [this]
  | a :: l, m, n1, n2, h => by
    have ha : a ∈ m := (h a).mp List.mem_cons_self
    have pe := List.perm_cons_erase ha
    have n2' : (a :: m.erase a).Nodup := pe.nodup_iff.mp n2
    obtain ⟨a1, a2⟩ := List.nodup_cons.mp n1
    obtain ⟨b1, b2⟩ := List.nodup_cons.mp n2'
    refine (List.Perm.cons a (perm_nodup a2 b2 fun k => ?_)).trans pe.symm
    constructor
    · intro hk
      have ne : k ≠ a := fun z => by subst z; exact a1 hk
      exact (List.mem_erase_of_ne ne).mpr ((h k).mp (List.mem_cons_of_mem _ hk))
    · intro hk
      have ne : k ≠ a := fun z => by subst z; exact b1 hk
      rcases List.mem_cons.mp ((h k).mpr ((List.mem_erase_of_ne ne).mp hk)) with z | z
      · exact absurd z ne
      · exact z
theorem flat_pw {R : Str → Str → Prop} (f : Str → List Str) : ∀ {r : List Str}, (∀ t ∈ r, (f t).Pairwise R) → r.Pairwise (fun t u => ∀ a ∈ f t, ∀ b ∈ f u, R a b) → (r.flatMap f).Pairwise R
  | [], _, _ => .nil
  | t :: r, h1, h2 => by
    obtain ⟨h3, h4⟩ := List.pairwise_cons.mp h2
    rw [List.flatMap_cons, List.pairwise_append]
    refine ⟨h1 t List.mem_cons_self, flat_pw f (fun u hu => h1 u (List.mem_cons_of_mem _ hu)) h4, fun a ha b hb => ?_⟩
    obtain ⟨u, hu, hb⟩ := List.mem_flatMap.mp hb
    exact h3 u hu a ha b hb
theorem told_goal {r : List Str} {ps : List (Str × Str)} {t s : Str} (h : s ∈ told r ps t) : s ∈ r ∧ goal ps s = t := by
  unfold told at h
  rw [List.mem_filter] at h
  exact ⟨h.1, by simpa using h.2⟩
theorem led_flat {r : List Str} {ps : List (Str × Str)} (c : CallOf r ps) (nd : r.Nodup) : r.flatMap (told r ps) = led r ps := by
  apply led_eq
  · refine perm_nodup ?_ nd fun k => ?_
    · refine flat_pw (R := fun a b => a ≠ b) _ (fun t _ => nd.filter _) (nd.imp fun {t u} ne a ha b hb e => ?_)
      subst e
      exact ne ((told_goal ha).2.symm.trans (told_goal hb).2)
    · rw [List.mem_flatMap]
      constructor
      · rintro ⟨t, _, h⟩
        exact (told_goal h).1
      · intro hk
        refine ⟨goal ps k, (c.goal_mem hk).2, ?_⟩
        unfold told
        rw [List.mem_filter]
        exact ⟨hk, by simp⟩
  · refine flat_pw _ (fun t ht => ?_) ((pw_idx nd).imp fun {t u} lt a ha b hb => ?_)
    · refine List.Pairwise.imp_of_mem ?_ ((pw_idx nd).filter fun s => decide (goal ps s = t))
      intro a b ha hb lt
      have e1 := (told_goal (r := r) ha).2
      have e2 := (told_goal (r := r) hb).2
      unfold leK keyN
      rw [e1, e2, decide_eq_true_eq]
      exact .inr ⟨rfl, Nat.le_of_lt lt⟩
    · have e1 := (told_goal ha).2
      have e2 := (told_goal hb).2
      unfold leK keyN
      simp only [e1, e2, decide_eq_true_eq]
      exact .inl lt
noncomputable def ownBody : SM := sAsg (f2 (addW false) (fVar 3) (fLc false (seqI (fVar 0)) (gN 5) (fB (f2 (eqW false) (f2 idxW (fVar 2) (fVar 5)) (fVar 4))) (fVar 5) [5])) (gN 3)
theorem own_called_ok {x : D} {r : List Str} {ps : List (Str × Str)} {h : Hh} (hx : IsSeq x (r.map .str)) (c : CallOf r ps) (nd : r.Nodup) (hp : 0 < r.length) (hr : r.length ≤ 1000) : m__law_called [.dat x, .dat (cT ps)] h = some (.dat (rowT (led r ps)), h) := by
  have hz : sizeLine = 16777216 := rfl
  have hpl : ps.length = r.length := by have := c.perm.length_eq; rw [List.length_map] at this; exact this
  have e1 := dict_call (h := h) (ps := ps) (by omega) (c.nodup nd)
  have key := forL_inv (k := gN 4) (body := ownBody) (fun n ρ g => g = h ∧ ∃ v4 : Option W, ρ = [some (.dat x), some (.dat (cT ps)), some (.dat (dW ps)), some (.dat (.list (((r.take n).flatMap (told r ps)).map .str))), v4, none]) (ds := r.map .str) (n := 0)
    (ρ := [some (.dat x), some (.dat (cT ps)), some (.dat (dW ps)), some (.dat (.list [])), none, none]) (h := h) ⟨rfl, none, rfl⟩ (by
      intro j d ej ρ g hi
      obtain ⟨rfl, v4, rfl⟩ := hi
      rw [Nat.zero_add]
      rw [List.getElem?_map] at ej
      obtain ⟨t, et, rfl⟩ := Option.map_eq_some_iff.mp ej
      have e2 : lcL (gN 5) (fB (f2 (eqW false) (f2 idxW (fVar 2) (fVar 5)) (fVar 4))) (fVar 5) [some (.dat x), some (.dat (cT ps)), some (.dat (dW ps)), some (.dat (.list (((r.take j).flatMap (told r ps)).map .str))), some (.dat (.str t)), none] (r.map .str) g = some ((told r ps t).map .str, g) := by
        rw [lcL_map (fun d => decide (goal ps (unS d) = t)) (fun d => d)]
        · rw [List.map_id', List.filter_map]
          rfl
        · intro d hd
          obtain ⟨s, hs, rfl⟩ := List.mem_map.mp hd
          obtain ⟨k1, _⟩ := c.goal_mem hs
          have g1 : getD (sdic (tld ps)) (.str s) = some (some (.str (goal ps s))) := by rw [getD_sdic, look_tld, k1]; rfl
          have g2 := eqW_strs (neg := false) (i := goal ps s) (j := t) (h := g)
          refine ⟨[some (.dat x), some (.dat (cT ps)), some (.dat (dW ps)), some (.dat (.list (((r.take j).flatMap (told r ps)).map .str))), some (.dat (.str t)), some (.dat (.str s))], rfl, ?_, fun _ => rfl⟩
          clear hx c nd hp hr hz hpl e1 ej et hd hs k1
          generalize ((r.take j).flatMap (told r ps)).map PyData.str = w
          walk_at "dl"
          rfl
      have l1 : (((r.take j).flatMap (told r ps)).map PyData.str).length + ((told r ps t).map PyData.str).length ≤ sizeLine := by
        have q1 : (told r ps t).length ≤ r.length := List.length_filter_le _ _
        have q2 : ∀ m : List Str, (m.flatMap (told r ps)).length ≤ m.length * r.length := fun m => by
          induction m with
          | nil => exact Nat.zero_le _
          | cons a m ih =>
            have : (told r ps a).length ≤ r.length := List.length_filter_le _ _
            rw [List.flatMap_cons, List.length_append, List.length_cons, Nat.succ_mul]
            omega
        have q3 := q2 (r.take j)
        have q4 : (r.take j).length ≤ 1000 := by rw [List.length_take]; omega
        have q5 := Nat.mul_le_mul q4 hr
        rw [List.length_map, List.length_map]
        omega
      have l2 : ((told r ps t).map PyData.str).length ≤ sizeLine := by omega
      have e3 : (r.take (j + 1)).flatMap (told r ps) = (r.take j).flatMap (told r ps) ++ told r ps t := by
        rw [take_snoc et, List.flatMap_append]
        simp
      refine ⟨_, _, g, rfl, ?_, rfl, some (.dat (.str t)), rfl⟩
      rw [e3, List.map_append]
      unfold ownBody
      clear c nd hp hr hz hpl e1 ej et e3
      generalize ((r.take j).flatMap (told r ps)).map PyData.str = w at *
      rcases hx with rfl | rfl <;> walk_at "dl")
  obtain ⟨ρ', g, e, rfl, v4, rfl⟩ := key
  rw [Nat.zero_add, List.length_map, List.take_length, led_flat c nd] at e
  have lv := leave_same' (h := g) (d := rowT (led r ps))
  have c0 : 0 ≤ sizeLine := Nat.zero_le _
  unfold ownBody at e
  unfold m__law_called
  clear c nd hp hr hz hpl
  rcases hx with rfl | rfl <;> walk_at "dl"
end DL
set_option maxHeartbeats 400000
namespace DL
open PySem L2
local macro_rules | `(tactic| walk_at "dl") => `(tactic| simp (config := { dsimp := false }) only [↓fnM_e, ↓sSeq_e, seqK_nx, seqK_rt, seqK_bk, seqK_ct, retK_rt, retK_nx, ↓sFrz_e, frK_some, ↓sAsg, ↓sRet, ↓sRetN, ↓sIf, ↓sExpr, ↓sSkip, ↓sNever, ↓sPar, ↓sFor, ↓sSub, ↓fVar, ↓fC, ↓fNil, ↓fCons, ↓fA, ↓f1, ↓f2, ↓fB, ↓fIf, ↓fNeg, ↓fNot, ↓fAnd, ↓fOr, ↓bNot, ↓bAnd, ↓bOr, ↓bYes, ↓obnd_x, ob_some, ↓sbnd_x, sb_some, ↓ite_x, iteK_t, iteK_f, gN, gT, gC, gE, ↓rng1I, ↓rng2I, ↓seqI, ↓enumA, ↓zipI, ↓strI, ↓fLc, ↓fDc, ↓fM, ↓fSl, ↓oNone, ↓oSome, ↓fRev, wipeE, ↓kwM, permM, permL, List.foldr, List.length_cons, List.length_nil, List.map_cons, List.map_nil, List.cons_append, List.nil_append, List.replicate, List.replicate_succ, List.replicate_zero, List.getElem?_cons_zero, List.getElem?_cons_succ, List.set_cons_zero, List.set_cons_succ, if_true, if_false, reduceIte, Nat.reduceAdd, Nat.reduceSub, Nat.reduceEqDiff, Nat.reduceLT, Nat.reduceLeDiff, Int.reduceLT, Int.reduceLE, Int.reduceNeg, Int.reduceMul, Int.reduceAdd, Int.reduceSub, Int.reduceToNat, Int.reducePow, Int.reduceEq, ok, bok, deref, mkL, lstW, tupW, dats, Option.map_some, appendW, insertW, setL, isL, listW, tupleW, lenW, absW, intC, maxW, minW, idxW, addW, subW_e, modW_e, divW_e, powW_e, mulW, intW, lt_e, gt_e, le_e, ge_e, ltW, allW_e, anyW_e, sumW_e, lW, setW, lstAt, cutW, backW, isW, isiW, iLT_none, iLT_bool, iLT_int, iLT_str, iLT_list, iLT_tup, iL_none, iL_bool, iL_int, iL_str, iL_list, iL_tup, iT_none, iT_bool, iT_int, iT_str, iT_list, iT_tup, iS_none, iS_bool, iS_int, iS_str, iS_list, iS_tup, iI_none, iI_bool, iI_int, iI_str, iI_list, iI_tup, iB_none, iB_bool, iB_int, iB_str, iB_list, iB_tup, Bool.false_eq_true, reduceCtorEq, Bool.not_true, Bool.not_false, decide_true, decide_false, List.zip_cons_cons, List.zip_nil_left, List.foldl_cons, List.foldl_nil, and_self, and_true, true_and, Bool.and_true, Bool.true_and, Bool.or_true, Bool.true_or, *])
/-! ### the law's own walking -/
noncomputable def ownWalk : SM := (sSeq (sAsg (fA (dictA false) (fCons (fVar 3) (fNil))) (gN 4))
    (sSeq (sPar (fCons (f2 idxW (fVar 4) (f2 idxW (f2 idxW (fVar 2) (fNeg (fC (.int 1)))) (fC (.int 0)))) (fCons (f2 idxW (fVar 4) (f2 idxW (f2 idxW (fVar 2) (fNeg (fC (.int 1)))) (fC (.int 1)))) (fNil))) [5, 6])
    (sExpr (fM isL appendW (fVar 2) (fCons (fIf (fB (f2 (eqW false) (fVar 5) (fVar 6))) (f2 idxW (fVar 2) (fNeg (fC (.int 1)))) (fA tupW (fCons (fVar 5) (fCons (fVar 6) (fNil))))) (fNil))))))
theorem ownWalk_run {x y : W} {n : Nat} {A : List D} {GO : List (D × D)} {wl : List D} {s1 s2 t1 t2 : Str} {z : Bool} {v4 v5 v6 : Option W} {g : Hh} (hg : g[n]? = some (some (.lst wl))) (e1 : dictA false [.dat (.tuple A)] g = some (.dat (.dict GO), g)) (al : L2.atI wl (-1) = some (.tuple [.str s1, .str s2])) (g1 : getD GO (.str s1) = some (some (.str t1))) (g2 : getD GO (.str s2) = some (some (.str t2))) (ez : decide (t1 = t2) = z) (hl : wl.length < sizeLine) :
    ownWalk [some x, some y, some (.ref n), some (.dat (.tuple A)), v4, v5, v6] g = some (.nx [some x, some y, some (.ref n), some (.dat (.tuple A)), some (.dat (.dict GO)), some (.dat (.str t1)), some (.dat (.str t2))], g.set n (some (.lst (wl ++ [if z = true then .tuple [.str s1, .str s2] else .tuple [.str t1, .str t2]])))) := by
  have a0 : L2.atI [PyData.str s1, .str s2] 0 = some (.str s1) := rfl
  have a1 : L2.atI [PyData.str s1, .str s2] 1 = some (.str s2) := rfl
  have q := eqW_strs (neg := false) (i := t1) (j := t2) (h := g)
  have c2 : 2 ≤ sizeLine := by decide
  unfold ownWalk
  cases z with
  | true => walk_at "dl"
  | false => walk_at "dl"
theorem own_walked_ok {r : List Str} {ws : List (List (Str × Str))} {p : Str × Str} {h : Hh} (c : Words r ws) (nd : r.Nodup) (hp : 0 < r.length) (h1 : p.1 ∈ r) (h2 : p.2 ∈ r) (hw : ws.length ≤ 1000) : m__law_walked [.dat (.list (ws.map cT)), .dat (prT p)] h = some (.dat (.list ((walkL ws.reverse p).map prT)), h) := by
  have hz : sizeLine = 16777216 := rfl
  have cr : Words r ws.reverse := fun q hq => c q (List.mem_reverse.mp hq)
  have key := forL_inv (k := gN 3) (body := ownWalk)
    (fun n ρ g => ∃ v3 v4 v5 v6 : Option W, ρ = [some (.dat (.list (ws.map cT))), some (.dat (prT p)), some (.ref h.length), v3, v4, v5, v6] ∧ g = h ++ [some (.lst ((walkL (ws.reverse.take n) p).map prT))]) (ds := ws.reverse.map cT) (n := 0)
    (ρ := [some (.dat (.list (ws.map cT))), some (.dat (prT p)), some (.ref h.length), none, none, none, none]) (h := h ++ [some (.lst [prT p])]) ⟨none, none, none, none, rfl, rfl⟩ (by
      intro j d ej ρ g hi
      obtain ⟨v3, v4, v5, v6, rfl, rfl⟩ := hi
      rw [Nat.zero_add]
      rw [List.getElem?_map] at ej
      obtain ⟨ps, ep, rfl⟩ := Option.map_eq_some_iff.mp ej
      have hj : j < ws.reverse.length := (List.getElem?_eq_some_iff.mp ep).1
      rw [List.length_reverse] at hj
      have hc : CallOf r ps := cr ps (List.mem_of_getElem? ep)
      have hpl : ps.length = r.length := by have := hc.perm.length_eq; rw [List.length_map] at this; exact this
      obtain ⟨m1, m2⟩ := lastW_in (ws := ws.reverse.take j) (fun q hq => cr q (List.mem_of_mem_take hq)) h1 h2
      obtain ⟨k1, _⟩ := hc.goal_mem m1
      obtain ⟨k2, _⟩ := hc.goal_mem m2
      obtain ⟨l, el⟩ := walkL_last (ws.reverse.take j) p
      have al : L2.atI ((walkL (ws.reverse.take j) p).map prT) (-1) = some (prT (lastW (ws.reverse.take j) p)) := by rw [el, List.map_append]; exact atI_neg1 _ _
      have et := ownWalk_run (x := .dat (.list (ws.map cT))) (y := .dat (prT p)) (n := h.length) (A := ps.map prT) (GO := sdic (tld ps)) (wl := (walkL (ws.reverse.take j) p).map prT) (s1 := (lastW (ws.reverse.take j) p).1) (s2 := (lastW (ws.reverse.take j) p).2) (t1 := goal ps (lastW (ws.reverse.take j) p).1) (t2 := goal ps (lastW (ws.reverse.take j) p).2) (v4 := v4) (v5 := v5) (v6 := v6) (g := h ++ [some (.lst ((walkL (ws.reverse.take j) p).map prT))]) (app_get rfl) (dict_call (by omega) (hc.nodup nd)) al (by rw [getD_sdic, look_tld, k1]; rfl) (by rw [getD_sdic, look_tld, k2]; rfl) rfl (by rw [List.length_map, walkL_len, List.length_take]; omega)
      have eg : (if decide (goal ps (lastW (ws.reverse.take j) p).1 = goal ps (lastW (ws.reverse.take j) p).2) = true then PyData.tuple [.str (lastW (ws.reverse.take j) p).1, .str (lastW (ws.reverse.take j) p).2] else .tuple [.str (goal ps (lastW (ws.reverse.take j) p).1), .str (goal ps (lastW (ws.reverse.take j) p).2)]) = prT (goneP ps (lastW (ws.reverse.take j) p)) := by
        unfold goneP
        by_cases z : goal ps (lastW (ws.reverse.take j) p).1 = goal ps (lastW (ws.reverse.take j) p).2
        · rw [if_pos z, decide_eq_true z, if_pos rfl]
        · rw [if_neg z, decide_eq_false z, if_neg (by simp)]
      rw [eg, app_set rfl] at et
      refine ⟨_, _, _, rfl, et, _, _, _, _, rfl, ?_⟩
      rw [take_snoc ep, walkL_snoc, List.map_append]
      rfl)
  obtain ⟨ρ', h', e, v3, v4, v5, v6, rfl, rfl⟩ := key
  rw [Nat.zero_add, List.length_map, List.take_length] at e
  have hg : (h ++ [some (MO.lst ((walkL ws.reverse p).map prT))])[h.length]? = some (some (.lst ((walkL ws.reverse p).map prT))) := app_get rfl
  have et : (h ++ [some (MO.lst ((walkL ws.reverse p).map prT))]).take h.length = h := app_take rfl
  have nl : ¬ h.length < h.length := by omega
  have c1 : 1 ≤ sizeLine := by omega
  rw [List.map_reverse] at e
  unfold ownWalk at e
  unfold m__law_walked
  clear c nd hp h1 h2 hw hz cr
  generalize (walkL ws.reverse p).map prT = wl at *
  walk_at "dl"
  unfold leave
  walk_at "dl"
end DL
set_option maxHeartbeats 400000
namespace DL
open PySem L2
local macro_rules | `(tactic| walk_at "dl") => `(tactic| simp (config := { dsimp := false }) only [↓fnM_e, ↓sSeq_e, seqK_nx, seqK_rt, seqK_bk, seqK_ct, retK_rt, retK_nx, ↓sFrz_e, frK_some, ↓sAsg, ↓sRet, ↓sRetN, ↓sIf, ↓sExpr, ↓sSkip, ↓sNever, ↓sPar, ↓sFor, ↓sSub, ↓fVar, ↓fC, ↓fNil, ↓fCons, ↓fA, ↓f1, ↓f2, ↓fB, ↓fIf, ↓fNeg, ↓fNot, ↓fAnd, ↓fOr, ↓bNot, ↓bAnd, ↓bOr, ↓bYes, ↓obnd_x, ob_some, ↓sbnd_x, sb_some, ↓ite_x, iteK_t, iteK_f, gN, gT, gC, gE, ↓rng1I, ↓rng2I, ↓seqI, ↓enumA, ↓zipI, ↓strI, ↓fLc, ↓fDc, ↓fM, ↓fSl, ↓oNone, ↓oSome, ↓fRev, wipeE, ↓kwM, permM, permL, List.foldr, List.length_cons, List.length_nil, List.map_cons, List.map_nil, List.cons_append, List.nil_append, List.replicate, List.replicate_succ, List.replicate_zero, List.getElem?_cons_zero, List.getElem?_cons_succ, List.set_cons_zero, List.set_cons_succ, if_true, if_false, reduceIte, Nat.reduceAdd, Nat.reduceSub, Nat.reduceEqDiff, Nat.reduceLT, Nat.reduceLeDiff, Int.reduceLT, Int.reduceLE, Int.reduceNeg, Int.reduceMul, Int.reduceAdd, Int.reduceSub, Int.reduceToNat, Int.reducePow, Int.reduceEq, ok, bok, deref, mkL, lstW, tupW, dats, Option.map_some, appendW, insertW, setL, isL, listW, tupleW, lenW, absW, intC, maxW, minW, idxW, addW, subW_e, modW_e, divW_e, powW_e, mulW, intW, lt_e, gt_e, le_e, ge_e, ltW, allW_e, anyW_e, sumW_e, lW, setW, lstAt, cutW, backW, isW, isiW, iLT_none, iLT_bool, iLT_int, iLT_str, iLT_list, iLT_tup, iL_none, iL_bool, iL_int, iL_str, iL_list, iL_tup, iT_none, iT_bool, iT_int, iT_str, iT_list, iT_tup, iS_none, iS_bool, iS_int, iS_str, iS_list, iS_tup, iI_none, iI_bool, iI_int, iI_str, iI_list, iI_tup, iB_none, iB_bool, iB_int, iB_str, iB_list, iB_tup, Bool.false_eq_true, reduceCtorEq, Bool.not_true, Bool.not_false, decide_true, decide_false, List.zip_cons_cons, List.zip_nil_left, List.foldl_cons, List.foldl_nil, and_self, and_true, true_and, Bool.and_true, Bool.true_and, Bool.or_true, Bool.true_or, *])
/-! ### a call by draws, the second way -/
theorem strs_all {l : List Str} : ∀ {rs : List D}, (∀ d ∈ rs, ∃ s, s ∈ l ∧ d = .str s) → ∃ m : List Str, rs = m.map .str ∧ ∀ s ∈ m, s ∈ l
  | [], _ => ⟨[], rfl, fun s hs => by cases hs⟩
  | d :: rs, H => by
    obtain ⟨s, hs, rfl⟩ := H d List.mem_cons_self
    obtain ⟨m, rfl, hm⟩ := strs_all (rs := rs) fun e he => H e (List.mem_cons_of_mem _ he)
    exact ⟨s :: m, rfl, fun t ht => by
      rcases List.mem_cons.mp ht with rfl | ht
      · exact hs
      · exact hm t ht⟩
theorem pairs_all {l : List Str} : ∀ {m : List Str} {rs : List D}, rs.length = m.length → (∀ (j : Nat) (d : D), rs[j]? = some d → ∃ s t, m[j]? = some s ∧ t ∈ l ∧ d = prT (s, t)) → ∃ ps : List (Str × Str), rs = ps.map prT ∧ ps.map (·.1) = m ∧ ∀ p ∈ ps, p.2 ∈ l
  | [], [], _, _ => ⟨[], rfl, rfl, fun p hp => by cases hp⟩
  | a :: m, d :: rs, e, H => by
    obtain ⟨s, t, h1, h2, rfl⟩ := H 0 d rfl
    cases h1
    obtain ⟨ps, rfl, h3, h4⟩ := pairs_all (m := m) (rs := rs) (by simpa using e) fun j d hd => H (j + 1) d hd
    exact ⟨(a, t) :: ps, rfl, by rw [List.map_cons, h3], fun p hp => by
      rcases List.mem_cons.mp hp with rfl | hp
      · exact h2
      · exact h4 p hp⟩
theorem call2_run {x : D} {b : Nat} {h h1 h2 h3 h4 : Hh} {n k o : Int} {ds S R : List D} (hx : IsSeq x ds) (hn : (ds.length : Int) = n) (e1 : m__law_pick [.ref b, .dat (.list [.int 1, .int 2, .int n, .int n])] h = some (.dat (.int k), h1)) (k0 : -1000000000 ≤ k) (k1 : k ≤ 1000000000)
    (e2 : lcL (gN 5) (bYes) (fA (m__law_pick) (fCons (fVar 0) (fCons (fVar 1) (fNil)))) [some (.ref b), some (.dat x), some (.dat (.int k)), none, none, none, none] (rngD 0 k.toNat) h1 = some (S, h2)) (l1 : S.length ≤ sizeLine) (e3 : m__law_take [.ref b, .dat (.int 4)] h2 = some (.dat (.int o), h3))
    (e4 : lcL (gN 6) (bYes) (fA tupW (fCons (fVar 6) (fCons (fIf (fB (f2 gt_W (fA (m__law_take) (fCons (fVar 0) (fCons (fVar 4) (fNil)))) (fC (.int 0)))) (fVar 6) (fA (m__law_pick) (fCons (fVar 0) (fCons (fVar 3) (fNil))))) (fNil)))) [some (.ref b), some (.dat x), some (.dat (.int k)), some (.dat (.list S)), some (.dat (.int (1 + o))), none, none] ds h3 = some (R, h4)) (l2 : R.length ≤ sizeLine) :
    m__law_call [.ref b, .dat x] h = leave false h (.dat (.tuple R)) h4 := by
  have c4 : 4 ≤ sizeLine := by decide
  unfold m__law_call
  rcases hx with rfl | rfl <;> walk_at "dl"
theorem call2_ok {x : D} {l : List Str} {h : Hh} {b c : Nat} (hx : IsSeq x (l.map .str)) (hb : BoxAt h b c) (hc : c < 1000000) (h0 : 0 < l.length) (h1 : l.length ≤ 900) :
    ∃ (ps : List (Str × Str)) (h' : Hh), m__law_call [.ref b, .dat x] h = some (.dat (cT ps), h') ∧ ps.map (·.1) = l ∧ (∀ p ∈ ps, p.2 ∈ l) ∧ BoxAt h' b (c + 4 + 3 * l.length) ∧ Only b h h' := by
  have hz : sizeLine = 16777216 := rfl
  obtain ⟨d, g1, e1, hd, b1, o1⟩ := pick_ok (x := .list [.int 1, .int 2, .int (l.length : Int), .int (l.length : Int)]) (.inl rfl) hb (by omega) (by simp) (by simp)
  obtain ⟨k, rfl, k0, k1⟩ : ∃ k : Int, d = .int k ∧ 1 ≤ k ∧ k ≤ (l.length : Int) + 1 := by
    simp only [List.mem_cons, List.not_mem_nil, or_false] at hd
    rcases hd with rfl | rfl | rfl | rfl
    · exact ⟨1, rfl, by omega, by omega⟩
    · exact ⟨2, rfl, by omega, by omega⟩
    · exact ⟨_, rfl, by omega, by omega⟩
    · exact ⟨_, rfl, by omega, by omega⟩
  obtain ⟨S', g2, e2, sl, hs, b2, o2⟩ := lcL_inv (k := gN 5) (f := fA (m__law_pick) (fCons (fVar 0) (fCons (fVar 1) (fNil)))) (ρ := [some (.ref b), some (.dat x), some (.dat (.int k)), none, none, none, none]) (fun j g => BoxAt g b (c + 1 + j) ∧ Only b h g) (fun _ d => ∃ s, s ∈ l ∧ d = .str s) (ds := rngD 0 k.toNat) (n := 0) (h := g1) ⟨b1, o1⟩ (by
    intro j d ej g hi
    obtain ⟨bx, on⟩ := hi
    have hj := (rng_get ej).1
    obtain ⟨d', g', e3, hd', b3, o3⟩ := pick_ok hx bx (by omega) (by rw [List.length_map]; omega) (by rw [List.length_map]; omega)
    obtain ⟨s, hs, rfl⟩ := List.mem_map.mp hd'
    refine ⟨[some (.ref b), some (.dat x), some (.dat (.int k)), none, none, some (.dat d), none], .str s, g', rfl, ?_, ⟨s, hs, rfl⟩, b3, on.trans o3⟩
    clear hx hb hc h0 h1 hz e1 hd b1 o1 k0 k1 ej bx on hj hd' hs b3 o3
    walk_at "dl")
  rw [rng_len] at sl b2
  obtain ⟨S, rfl, hS⟩ := strs_all (l := l) (rs := S') fun d hd => by
    obtain ⟨j, hj, rfl⟩ := List.getElem_of_mem hd
    exact hs j _ (List.getElem?_eq_getElem hj)
  rw [List.length_map] at sl
  obtain ⟨o, g3, e3, p0, p1, b3, o3⟩ := take_ok (n := 4) b2 (by omega) (by omega) (by omega)
  have b3' : BoxAt g3 b (c + 4 + l.length) := b3.mono (by omega)
  obtain ⟨R', g4, e4, rl, hr, b4, o4⟩ := lcL_inv (k := gN 6) (f := fA tupW (fCons (fVar 6) (fCons (fIf (fB (f2 gt_W (fA (m__law_take) (fCons (fVar 0) (fCons (fVar 4) (fNil)))) (fC (.int 0)))) (fVar 6) (fA (m__law_pick) (fCons (fVar 0) (fCons (fVar 3) (fNil))))) (fNil)))) (ρ := [some (.ref b), some (.dat x), some (.dat (.int k)), some (.dat (.list (S.map .str))), some (.dat (.int (1 + o))), none, none])
    (fun j g => BoxAt g b (c + 4 + l.length + 2 * j) ∧ Only b h g) (fun j d => ∃ s t, l[j]? = some s ∧ t ∈ l ∧ d = prT (s, t)) (ds := l.map .str) (n := 0) (h := g3) ⟨b3', o2.trans o3⟩ (by
    intro j d ej g hi
    obtain ⟨bx, on⟩ := hi
    rw [Nat.zero_add] at bx ⊢
    rw [List.getElem?_map] at ej
    obtain ⟨s, es, rfl⟩ := Option.map_eq_some_iff.mp ej
    have hj : j < l.length := (List.getElem?_eq_some_iff.mp es).1
    have c2 : 2 ≤ sizeLine := by omega
    obtain ⟨q, g5, e5, q0, q1, b5, o5⟩ := take_ok (n := 1 + o) bx (by omega) (by omega) (by omega)
    cases hq : decide (0 < q) with
    | true =>
      refine ⟨[some (.ref b), some (.dat x), some (.dat (.int k)), some (.dat (.list (S.map .str))), some (.dat (.int (1 + o))), none, some (.dat (.str s))], prT (s, s), g5, rfl, ?_, ⟨s, s, es, List.mem_of_getElem? es, rfl⟩, b5.mono (by omega), on.trans o5⟩
      clear hx hb hc h0 h1 hz e1 hd b1 o1 k0 k1 e2 hs b2 o2 hS sl e3 p0 p1 b3 o3 b3' bx on ej es hj q0 q1 b5 o5
      walk_at "dl"
    | false =>
      obtain ⟨d', g6, e6, hd', b6, o6⟩ := pick_ok (x := .list (S.map .str)) (.inl rfl) b5 (by omega) (by rw [List.length_map]; omega) (by rw [List.length_map]; omega)
      obtain ⟨t, ht, rfl⟩ := List.mem_map.mp hd'
      refine ⟨[some (.ref b), some (.dat x), some (.dat (.int k)), some (.dat (.list (S.map .str))), some (.dat (.int (1 + o))), none, some (.dat (.str s))], prT (s, t), g6, rfl, ?_, ⟨s, t, es, hS t ht, rfl⟩, b6.mono (by omega), on.trans (o5.trans o6)⟩
      clear hx hb hc h0 h1 hz e1 hd b1 o1 k0 k1 e2 hs b2 o2 hS sl e3 p0 p1 b3 o3 b3' bx on ej es hj q0 q1 b5 o5 hd' ht b6 o6
      walk_at "dl")
  rw [List.length_map] at rl b4
  obtain ⟨ps, rfl, pf, pt⟩ := pairs_all (l := l) (m := l) (rs := R') rl (fun j d hd => by have := hr j d hd; rwa [Nat.zero_add] at this)
  rw [Nat.zero_add] at b4
  have b4' : BoxAt g4 b (c + 4 + 3 * l.length) := b4.mono (by omega)
  refine ⟨ps, g4, ?_, pf, pt, b4', o4⟩
  rw [call2_run (n := (l.length : Int)) hx (by rw [List.length_map]) e1 (by omega) (by omega) e2 (by rw [List.length_map]; omega) e3 e4 (by omega)]
  exact leave_dat' hb b4' o4
end DL
set_option maxHeartbeats 400000
namespace DL
open PySem L2
local macro_rules | `(tactic| walk_at "dl") => `(tactic| simp (config := { dsimp := false }) only [↓fnM_e, ↓sSeq_e, seqK_nx, seqK_rt, seqK_bk, seqK_ct, retK_rt, retK_nx, ↓sFrz_e, frK_some, ↓sAsg, ↓sRet, ↓sRetN, ↓sIf, ↓sExpr, ↓sSkip, ↓sNever, ↓sPar, ↓sFor, ↓sSub, ↓fVar, ↓fC, ↓fNil, ↓fCons, ↓fA, ↓f1, ↓f2, ↓fB, ↓fIf, ↓fNeg, ↓fNot, ↓fAnd, ↓fOr, ↓bNot, ↓bAnd, ↓bOr, ↓bYes, ↓obnd_x, ob_some, ↓sbnd_x, sb_some, ↓ite_x, iteK_t, iteK_f, gN, gT, gC, gE, ↓rng1I, ↓rng2I, ↓seqI, ↓enumA, ↓zipI, ↓strI, ↓fLc, ↓fDc, ↓fM, ↓fSl, ↓oNone, ↓oSome, ↓fRev, wipeE, ↓kwM, permM, permL, List.foldr, List.length_cons, List.length_nil, List.map_cons, List.map_nil, List.cons_append, List.nil_append, List.replicate, List.replicate_succ, List.replicate_zero, List.getElem?_cons_zero, List.getElem?_cons_succ, List.set_cons_zero, List.set_cons_succ, if_true, if_false, reduceIte, Nat.reduceAdd, Nat.reduceSub, Nat.reduceEqDiff, Nat.reduceLT, Nat.reduceLeDiff, Int.reduceLT, Int.reduceLE, Int.reduceNeg, Int.reduceMul, Int.reduceAdd, Int.reduceSub, Int.reduceToNat, Int.reducePow, Int.reduceEq, ok, bok, deref, mkL, lstW, tupW, dats, Option.map_some, appendW, insertW, setL, isL, listW, tupleW, lenW, absW, intC, maxW, minW, idxW, addW, subW_e, modW_e, divW_e, powW_e, mulW, intW, lt_e, gt_e, le_e, ge_e, ltW, allW_e, anyW_e, sumW_e, lW, setW, lstAt, cutW, backW, isW, isiW, iLT_none, iLT_bool, iLT_int, iLT_str, iLT_list, iLT_tup, iL_none, iL_bool, iL_int, iL_str, iL_list, iL_tup, iT_none, iT_bool, iT_int, iT_str, iT_list, iT_tup, iS_none, iS_bool, iS_int, iS_str, iS_list, iS_tup, iI_none, iI_bool, iI_int, iI_str, iI_list, iI_tup, iB_none, iB_bool, iB_int, iB_str, iB_list, iB_tup, Bool.false_eq_true, reduceCtorEq, Bool.not_true, Bool.not_false, decide_true, decide_false, List.zip_cons_cons, List.zip_nil_left, List.foldl_cons, List.foldl_nil, and_self, and_true, true_and, Bool.and_true, Bool.true_and, Bool.or_true, Bool.true_or, *])
/-! ### the script folded, the second frame -/
noncomputable def foldBody : SM := sSub (f2 (addW false) (f2 idxW (fVar 2) (f2 modW (fVar 3) (fVar 1))) (f2 (mulW false) (fVar 4) (f2 (addW false) (fVar 3) (fC (.int 2))))) (fVar 2) (f2 modW (fVar 3) (fVar 1))
theorem fold_run {g : Hh} {x : W} {p j : Nat} {k m v a : Int} {cs : List D} (m0 : decide (0 < m) = true) (hg : g[p]? = some (some (.lst cs))) (ha : L2.atI cs (k % m) = some (.int a)) (hj : ixN cs.length (k % m) = some j) (k0 : -18446744073709551616 < k + 2) (k1 : k + 2 < 18446744073709551616) :
    foldBody [some x, some (.dat (.int m)), some (.ref p), some (.dat (.int k)), some (.dat (.int v))] g = some (.nx [some x, some (.dat (.int m)), some (.ref p), some (.dat (.int k)), some (.dat (.int v))], g.set p (some (.lst (cs.set j (.int (a + v * (k + 2))))))) := by
  unfold foldBody
  walk_at "dl"
theorem ints_at {cs : List Int} {i : Nat} (h : i < cs.length) : L2.atI (cs.map PyData.int) (i : Int) = some (.int cs[i]) :=
  atI_nat (xs := cs.map PyData.int) (j := i) (by rw [List.getElem?_map, List.getElem?_eq_getElem h]; rfl)
theorem ixN_nat {n i : Nat} (h : i < n) : ixN n (i : Int) = some i := by
  unfold ixN
  rw [if_pos (by omega), if_pos (by omega)]
  simp
theorem enum_int {ms : List Int} {j : Nat} {d : D} (e : (enumD 0 (ms.map .int))[j]? = some d) : ∃ v : Int, j < ms.length ∧ d = .tuple [.int (j : Int), .int v] := by
  obtain ⟨s, hs, rfl⟩ := enumD_get e
  rw [List.getElem?_map] at hs
  obtain ⟨v, hv, rfl⟩ := Option.map_eq_some_iff.mp hs
  exact ⟨v, (List.getElem?_eq_some_iff.mp hv).1, by rw [Nat.zero_add]⟩
theorem shp_ints (cs : List Int) : shp (.list (cs.map .int)) = true := by
  have h1 : ∀ cs : List Int, PyData.canLayAll0 (cs.map .int) = true := fun cs => by
    induction cs with
    | nil => rfl
    | cons a t ih => rw [List.map_cons, PyData.canLayAll0, ih]; simp [PyData.canLay0]
  have h2 : ∀ cs : List Int, PyData.depthAll (cs.map .int) = 0 := fun cs => by
    induction cs with
    | nil => rfl
    | cons a t ih => rw [List.map_cons, PyData.depthAll, ih]; simp [PyData.depth]
  unfold shp
  rw [PyData.canLay0, h1, PyData.depth, h2]
  rfl
theorem eqW_ints_nil {cs : List Int} {h : Hh} : eqW true (.dat (.list (cs.map .int))) (.dat (.list [])) h = some (.dat (.bool (decide (cs ≠ []))), h) := by
  have hs := shp_ints cs
  have h0 : shp (.list []) = true := by decide +kernel
  have e : PyData.eqv (.list (cs.map .int)) (.list []) = decide (cs = []) := by
    cases cs with
    | nil => decide +kernel
    | cons a l => simp [PyData.eqv, PyData.eqvAll]
  unfold eqW
  simp only [deref, eqS, hs, h0, e, Bool.and_self, if_true]
  show bok (!decide (cs = [])) h = _
  rw [← decide_not]; rfl
theorem fold_end {ns : List Int} {h : Hh} {cs : List Int} {m : Int} {z : Bool} {A B : List Int} {v3 v4 : Option W} (i3 : ∀ n, isR n v3 = false) (i4 : ∀ n, isR n v4 = false) (eA : cutG ns none (some m) = A) (eB : cutG ns (some m) (some 63) = B)
    (e1 : forL (gT 2 (gC (gN 3) (gC (gN 4) (gE)))) foldBody (enumD 0 (B.map .int)) [some (.scr ns), some (.dat (.int m)), some (.ref h.length), none, none] (h ++ [some (.lst (A.map .int))]) = some (.nx [some (.scr ns), some (.dat (.int m)), some (.ref h.length), v3, v4], h ++ [some (.lst (cs.map .int))])) (ez : decide (cs ≠ []) = z) :
    m__law_folded [.scr ns, .dat (.int m)] h = some (.dat (.list (if z = true then cs.map .int else [.int 0])), h) := by
  have e2 := eqW_ints_nil (cs := cs) (h := h ++ [none])
  rw [ez] at e2
  have c0 : 0 ≤ sizeLine := Nat.zero_le _
  have c1 : 1 ≤ sizeLine := by decide
  have hf : frz 2 [some (.scr ns), some (.dat (.int m)), some (.ref h.length), v3, v4] (h ++ [some (.lst (cs.map .int))]) = some ([some (.scr ns), some (.dat (.int m)), some (.dat (.list (cs.map .int))), v3, v4], h ++ [none]) := by
    have g1 : (h ++ [some (MO.lst (cs.map .int))])[h.length]? = some (some (.lst (cs.map .int))) := app_get rfl
    have g2 : (h ++ [some (MO.lst (cs.map .int))]).set h.length none = h ++ [none] := app_set rfl
    unfold frz
    simp only [List.getElem?_cons_zero, List.getElem?_cons_succ, g1, g2, List.set_cons_zero, List.set_cons_succ, List.any_cons, List.any_nil, i3, i4, isR_ref, isR_dat, isR_scr, isR_none, Bool.or_false, Bool.false_or, isTab, Bool.false_eq_true, if_false, moD]
  have lv := fun d : D => show leave false h (.dat d) (h ++ [none]) = some (.dat d, h) by
    have e : (h ++ [none]).take h.length = h := app_take rfl
    rw [leave_dat (by rw [e]), e]
  unfold foldBody at e1
  unfold m__law_folded
  clear i3 i4 ez
  cases z with
  | true => walk_at "dl"
  | false => walk_at "dl"
theorem folded_ok {ns : List Int} {h : Hh} (hn : ns.length ≤ 63) : ∃ cs : List Int, m__law_folded [.scr ns, .dat (.int 3)] h = some (.dat (.list (cs.map .int)), h) ∧ 0 < cs.length ∧ cs.length ≤ 3 := by
  have eA : cutG ns none (some (3 : Int)) = ns.take 3 := cut_to ns (k := 3)
  have eB : cutG ns (some (3 : Int)) (some 63) = ns.drop 3 := by
    have e : HT.sIx ns.length 0 (some (3 : Int)) = min 3 ns.length := HT.sIx_nat ns.length 0 3
    have e0 : HT.sIx ns.length ns.length (some (63 : Int)) = min 63 ns.length := HT.sIx_nat ns.length ns.length 63
    unfold cutG
    rw [e, e0, Nat.min_eq_right hn]
    rcases Nat.le_total 3 ns.length with q | q
    · rw [Nat.min_eq_left q]
      exact List.take_of_length_le (by rw [List.length_drop]; omega)
    · rw [Nat.min_eq_right q, List.drop_eq_nil_of_le q]
      simp
  obtain ⟨ρ', g, e1, v3, v4, cs, rfl, i3, i4, rfl, hl⟩ := forL_end (k := gT 2 (gC (gN 3) (gC (gN 4) (gE)))) (body := foldBody) (fun _ ρ g => ∃ (v3 v4 : Option W) (cs : List Int), ρ = [some (.scr ns), some (.dat (.int 3)), some (.ref h.length), v3, v4] ∧ (∀ n, isR n v3 = false) ∧ (∀ n, isR n v4 = false) ∧ g = h ++ [some (.lst (cs.map .int))] ∧ cs.length = (ns.take 3).length)
    (ds := enumD 0 ((ns.drop 3).map .int)) (ρ := [some (.scr ns), some (.dat (.int 3)), some (.ref h.length), none, none]) (h := h ++ [some (.lst ((ns.take 3).map .int))]) ⟨none, none, ns.take 3, rfl, fun _ => rfl, fun _ => rfl, rfl, rfl⟩ (by
      intro j d ej ρ g hi
      obtain ⟨v3, v4, cs, rfl, i3, i4, rfl, hl⟩ := hi
      obtain ⟨v, hj, rfl⟩ := enum_int ej
      rw [List.length_drop] at hj
      have h3 : cs.length = 3 := by rw [hl, List.length_take]; omega
      have hk : j % 3 < cs.length := by omega
      have ek : (j : Int) % 3 = ((j % 3 : Nat) : Int) := by omega
      have et := fold_run (x := .scr ns) (p := h.length) (j := j % 3) (k := (j : Int)) (m := 3) (v := v) (a := cs[j % 3]) (cs := cs.map .int) (g := h ++ [some (.lst (cs.map .int))]) rfl (app_get rfl) (by rw [ek]; exact ints_at hk) (by rw [List.length_map, ek]; exact ixN_nat hk) (by omega) (by omega)
      rw [app_set rfl] at et
      refine ⟨_, _, _, ?_, et, some (.dat (.int (j : Int))), some (.dat (.int v)), cs.set (j % 3) (cs[j % 3] + v * ((j : Int) + 2)), rfl, fun _ => rfl, fun _ => rfl, ?_, by rw [List.length_set]; exact hl⟩
      · clear et hj h3 hk ek hl ej eA eB hn i3 i4
        walk_at "dl"
      · rw [List.map_set])
  by_cases z : cs = []
  · refine ⟨[0], ?_, by simp, by simp⟩
    rw [fold_end (z := false) i3 i4 eA eB e1 (by simp [z])]
    rfl
  · refine ⟨cs, ?_, List.length_pos_iff.mpr z, by rw [hl, List.length_take]; omega⟩
    rw [fold_end (z := true) i3 i4 eA eB e1 (by simp [z])]
    rfl
/-- a box over cells that are data -/
theorem boxL_run {cs : List Int} {k cell a n : Int} {z : Bool} {h : Hh} (hn : ((cs.map PyData.int).length : Int) = n) (h1 : decide (k < n) = true) (h2 : L2.atI (cs.map PyData.int) k = some (.int cell)) (ha : (if cell < 0 then -cell else cell) = a) (hz : decide (1000000000000000000 ≤ a) = z) :
    m__law_box [.dat (.list (cs.map .int)), .dat (.int k)] h = some (.ref h.length, h ++ [some (.lst [.int (a * (if z = true then 1 else 0)), .int (cell % 2147483629 + 7919 * k + 11), .int 0])]) := by
  have c7 : 3 ≤ sizeLine := by decide
  have hna : Int.natAbs 10 < 18446744073709551616 := by decide
  have lv := leave_ref (h := h) (ds := [.int (a * (if z = true then 1 else 0)), .int (cell % 2147483629 + 7919 * k + 11), .int 0])
  unfold m__law_box
  cases z with
  | true => walk_at "dl"; exact leave_ref
  | false => walk_at "dl"; exact leave_ref
theorem boxL_new {cs : List Int} {k : Nat} {h : Hh} (hk : k < cs.length) (hk2 : k < 100) :
    ∃ d s : Int, m__law_box [.dat (.list (cs.map .int)), .dat (.int (k : Int))] h = some (.ref h.length, h ++ [some (.lst [.int d, .int s, .int 0])]) ∧ 0 ≤ d ∧ 0 ≤ s ∧ s < 1099511627776 := by
  refine ⟨_, _, boxL_run (n := (cs.length : Int)) (by rw [List.length_map]) (by simp; omega) (ints_at hk) rfl rfl, ?_, by omega, by omega⟩
  split <;> split <;> omega
noncomputable def lawTurn (T : Int) (right : FM) : SM := (sSeq (sAsg (fA (m__law_box) (fCons (fVar 1) (fCons (fVar 2) (fNil)))) (gN 3))
    (sIf (bNot (fB (fA allW (fCons (fLc false (rng1I (fCons (fC (.int T)) (fNil))) (gN 4) (bYes) (fA right (fCons (fVar 3) (fNil))) [4]) (fNil))))) (sRet (fC (.bool false))) (sSkip)))
noncomputable def lawF (T : Int) (right : FM) : FM := fnM false 1 5 (sSeq (sAsg (fA (m__law_folded) (fCons (fVar 0) (fCons (fC (.int 3)) (fNil)))) (gN 1))
    (sSeq (sFor (rng1I (fCons (fA lenW (fCons (fVar 1) (fNil))) (fNil))) (gN 2)
    (sSeq (sAsg (fA (m__law_box) (fCons (fVar 1) (fCons (fVar 2) (fNil)))) (gN 3))
    (sIf (bNot (fB (fA allW (fCons (fLc false (rng1I (fCons (fC (.int T)) (fNil))) (gN 4) (bYes) (fA right (fCons (fVar 3) (fNil))) [4]) (fNil))))) (sRet (fC (.bool false))) (sSkip))))
    (sRet (fC (.bool true)))))
theorem lawF_turn {T : Int} {t : Nat} {h0 : Hh} (hT : T.toNat = t) (T0 : -1000000000 ≤ T) (T1 : T ≤ 1000000000) (T2 : t ≤ sizeLine) {right : FM} {cost : Nat} (hr : ∀ (h : Hh) (b c : Nat), Pre h0 h → h0.length ≤ b → BoxAt h b c → c ≤ t * cost → ∃ h', right [.ref b] h = some (.dat (.bool true), h') ∧ BoxAt h' b (c + cost) ∧ Only b h h') {ns cs : List Int} {k : Nat} (k0 : k < cs.length) (k1 : k < 100) (v3 v4 : Option W) (h : Hh) (hp : Pre h0 h) (hl0 : h0.length ≤ h.length) :
    ∃ w3 h', lawTurn T right [some (.scr ns), some (.dat (.list (cs.map .int))), some (.dat (.int (k : Int))), v3, v4] h = some (.nx [some (.scr ns), some (.dat (.list (cs.map .int))), some (.dat (.int (k : Int))), w3, v4], h') ∧ Pre h0 h' ∧ h0.length ≤ h'.length := by
  obtain ⟨d, s, e, hd, hs, hs2⟩ := boxL_new (h := h) k0 k1
  have hb : BoxAt (h ++ [some (.lst [.int d, .int s, .int 0])]) h.length 0 := ⟨d, s, 0, by simp, hd, hs, hs2, by omega, by omega⟩
  obtain ⟨rs, h', e2, hl, hall, _, hp', hl1⟩ := lcL_inv (k := gN 4) (f := fA right (fCons (fVar 3) (fNil))) (ρ := [some (.scr ns), some (.dat (.list (cs.map .int))), some (.dat (.int (k : Int))), some (.ref h.length), none])
    (fun n g => BoxAt g h.length (n * cost) ∧ Pre h0 g ∧ h0.length ≤ g.length) (fun _ d => d = .bool true) (ds := rngD 0 T.toNat) (n := 0) (h := h ++ [some (.lst [.int d, .int s, .int 0])]) (by rw [Nat.zero_mul]; exact ⟨hb, hp.app hl0, by simp; omega⟩) (by
      intro j d' ej g hi
      obtain ⟨hi, hp1, hl1⟩ := hi
      rw [Nat.zero_add] at hi ⊢
      have hj := (rng_get ej).1
      obtain ⟨g', e3, b3, o3⟩ := hr g h.length _ hp1 hl0 hi (Nat.mul_le_mul_right _ (by omega))
      refine ⟨[some (.scr ns), some (.dat (.list (cs.map .int))), some (.dat (.int (k : Int))), some (.ref h.length), some (.dat d')], .bool true, g', rfl, ?_, rfl, by rw [Nat.succ_mul]; exact b3, hp1.only hl0 o3, by rw [o3.len]; exact hl1⟩
      clear hp hp1 hl0 hl1 k0 k1 e
      walk_at "dl")
  have er : rs = List.replicate rs.length (.bool true) := bools_all fun r hr => by
    obtain ⟨j, hj, rfl⟩ := List.getElem_of_mem hr
    exact hall j _ (List.getElem?_eq_getElem hj)
  have hl' : rs.length = t := by rw [hl, rng_len, hT]
  rw [hl'] at er
  subst er
  have e4 := bools_true t
  have e5 := all_true t
  have e6 : (List.replicate t (PyData.bool true)).length ≤ sizeLine := by rw [List.length_replicate]; exact T2
  refine ⟨some (.ref h.length), h', ?_, hp', hl1⟩
  unfold lawTurn
  clear hall hl hl' hb hr hp hp' hl0 hl1 k0 k1
  rw [hT] at e2
  walk_at "dl"
theorem law_okF {T : Int} {t : Nat} {h0 : Hh} (hT : T.toNat = t) (T0 : -1000000000 ≤ T) (T1 : T ≤ 1000000000) (T2 : t ≤ sizeLine) {right : FM} {cost : Nat} (hr : ∀ (h : Hh) (b c : Nat), Pre h0 h → h0.length ≤ b → BoxAt h b c → c ≤ t * cost → ∃ h', right [.ref b] h = some (.dat (.bool true), h') ∧ BoxAt h' b (c + cost) ∧ Only b h h') (ns : List Int) (hn : ns.length ≤ 63) :
    ∃ h', lawF T right [.scr ns] h0 = some (.dat (.bool true), h') := by
  obtain ⟨cs, ec, c0, c3⟩ := folded_ok (h := h0) hn
  obtain ⟨ρ', h', e, w2, w3, w4, rfl, hp, hl⟩ := forL_end (k := gN 2) (body := lawTurn T right) (fun _ ρ g => ∃ w2 w3 w4 : Option W, ρ = [some (.scr ns), some (.dat (.list (cs.map .int))), w2, w3, w4] ∧ Pre h0 g ∧ h0.length ≤ g.length) (ds := rngD 0 cs.length) (ρ := [some (.scr ns), some (.dat (.list (cs.map .int))), none, none, none]) (h := h0) ⟨none, none, none, rfl, fun _ _ => rfl, Nat.le_refl _⟩ (by
      intro j d ej ρ h hi
      obtain ⟨w2, w3, w4, rfl, hp, hl⟩ := hi
      obtain ⟨hj, rfl⟩ := rng_get ej
      obtain ⟨w3', h', e, hp', hl'⟩ := lawF_turn hT T0 T1 T2 hr (ns := ns) (cs := cs) (k := j) hj (by omega) w3 w4 h hp hl
      exact ⟨_, _, h', rfl, e, _, _, _, rfl, hp', hl'⟩)
  refine ⟨h0, ?_⟩
  obtain ⟨n, hn'⟩ : ∃ n : Int, ((cs.map PyData.int).length : Int) = n := ⟨_, rfl⟩
  have b0 : -1000000000 ≤ n := by omega
  have b1 : n ≤ 1000000000 := by rw [← hn', List.length_map]; omega
  have b2 : n.toNat = cs.length := by rw [← hn', List.length_map]; simp
  have lv : leave false h0 (.dat (.bool true)) h' = some (.dat (.bool true), h0) := by
    have e := hp.take hl
    rw [leave_dat (by rw [e]), e]
  unfold lawTurn at e
  unfold lawF
  clear hr T0 T1 T2 hp hl c0 c3
  walk_at "dl"
end DL
set_option maxHeartbeats 400000
namespace DL
open PySem L2
local macro_rules | `(tactic| walk_at "dl") => `(tactic| simp (config := { dsimp := false }) only [↓fnM_e, ↓sSeq_e, seqK_nx, seqK_rt, seqK_bk, seqK_ct, retK_rt, retK_nx, ↓sFrz_e, frK_some, ↓sAsg, ↓sRet, ↓sRetN, ↓sIf, ↓sExpr, ↓sSkip, ↓sNever, ↓sPar, ↓sFor, ↓sSub, ↓fVar, ↓fC, ↓fNil, ↓fCons, ↓fA, ↓f1, ↓f2, ↓fB, ↓fIf, ↓fNeg, ↓fNot, ↓fAnd, ↓fOr, ↓bNot, ↓bAnd, ↓bOr, ↓bYes, ↓obnd_x, ob_some, ↓sbnd_x, sb_some, ↓ite_x, iteK_t, iteK_f, gN, gT, gC, gE, ↓rng1I, ↓rng2I, ↓seqI, ↓enumA, ↓zipI, ↓strI, ↓fLc, ↓fDc, ↓fM, ↓fSl, ↓oNone, ↓oSome, ↓fRev, wipeE, ↓kwM, permM, permL, List.foldr, List.length_cons, List.length_nil, List.map_cons, List.map_nil, List.cons_append, List.nil_append, List.replicate, List.replicate_succ, List.replicate_zero, List.getElem?_cons_zero, List.getElem?_cons_succ, List.set_cons_zero, List.set_cons_succ, if_true, if_false, reduceIte, Nat.reduceAdd, Nat.reduceSub, Nat.reduceEqDiff, Nat.reduceLT, Nat.reduceLeDiff, Int.reduceLT, Int.reduceLE, Int.reduceNeg, Int.reduceMul, Int.reduceAdd, Int.reduceSub, Int.reduceToNat, Int.reducePow, Int.reduceEq, ok, bok, deref, mkL, lstW, tupW, dats, Option.map_some, appendW, insertW, setL, isL, listW, tupleW, lenW, absW, intC, maxW, minW, idxW, addW, subW_e, modW_e, divW_e, powW_e, mulW, intW, lt_e, gt_e, le_e, ge_e, ltW, allW_e, anyW_e, sumW_e, lW, setW, lstAt, cutW, backW, isW, isiW, iLT_none, iLT_bool, iLT_int, iLT_str, iLT_list, iLT_tup, iL_none, iL_bool, iL_int, iL_str, iL_list, iL_tup, iT_none, iT_bool, iT_int, iT_str, iT_list, iT_tup, iS_none, iS_bool, iS_int, iS_str, iS_list, iS_tup, iI_none, iI_bool, iI_int, iI_str, iI_list, iI_tup, iB_none, iB_bool, iB_int, iB_str, iB_list, iB_tup, Bool.false_eq_true, reduceCtorEq, Bool.not_true, Bool.not_false, decide_true, decide_false, List.zip_cons_cons, List.zip_nil_left, List.foldl_cons, List.foldl_nil, and_self, and_true, true_and, Bool.and_true, Bool.true_and, Bool.or_true, Bool.true_or, *])
/-! ### calls told by some: call_of, going, goers -/
theorem keyS_tld : ∀ tl : List (Str × Str), keyS (sdic (tld tl)) = some (tl.map (·.1))
  | [] => rfl
  | p :: tl => by
    show (keyS (sdic (tld tl))).map (p.1 :: ·) = _
    rw [keyS_tld tl]; rfl
theorem valS_tld : ∀ tl : List (Str × Str), valS (sdic (tld tl)) = some (tl.map (·.2))
  | [] => rfl
  | p :: tl => by
    show (valS (sdic (tld tl))).map (p.2 :: ·) = _
    rw [valS_tld tl]; rfl
/-- everybody of l, told by tl or their own -/
def ofL (l : List Str) (tl : List (Str × Str)) : List (Str × Str) := l.map fun s => (s, goal tl s)
theorem looks_ok {x : D} {l : List Str} {v1 v2 v3 : Option W} {h : Hh} (hx : IsSeq x (l.map .str)) : ∀ (ns : List Str), (∀ s ∈ ns, s ∈ l) → ∃ w2 : Option W, forL (gN 2) (sExpr (fA (m_look_name) (fCons (fVar 0) (fCons (fVar 2) (fNil))))) (ns.map .str) [some (.dat x), v1, v2, v3] h = some (.nx [some (.dat x), v1, w2, v3], h) := fun ns hn => by
  obtain ⟨ρ', h', e, rfl, w2, rfl⟩ := forL_end (k := gN 2) (body := sExpr (fA (m_look_name) (fCons (fVar 0) (fCons (fVar 2) (fNil))))) (fun _ ρ g => g = h ∧ ∃ w2 : Option W, ρ = [some (.dat x), v1, w2, v3]) (ds := ns.map .str) (ρ := [some (.dat x), v1, v2, v3]) (h := h) ⟨rfl, v2, rfl⟩ (by
    intro j d ej ρ g hi
    obtain ⟨rfl, w2, rfl⟩ := hi
    rw [List.getElem?_map] at ej
    obtain ⟨s, es, rfl⟩ := Option.map_eq_some_iff.mp ej
    have e := look_name_ok (h := g) hx (hn s (List.mem_of_getElem? es))
    refine ⟨_, [some (.dat x), v1, some (.dat (.str s)), v3], g, rfl, ?_, rfl, _, rfl⟩
    clear hx hn ej es
    walk_at "dl")
  exact ⟨w2, e⟩
theorem call_of_ok {x : D} {l : List Str} {tl : List (Str × Str)} {h : Hh} (hx : IsSeq x (l.map .str)) (ht : Txts l) (hl : l.length ≤ 1000) (h1 : ∀ p ∈ tl, p.1 ∈ l ∧ p.2 ∈ l) (h2 : tl.length < 64) : m_call_of [.dat x, .dat (dW tl)] h = some (.dat (cT (ofL (sortS l) tl)), h) := by
  have hz : sizeLine = 16777216 := rfl
  have e1 : sortDW false [.dat (dW tl)] h = some (.dat (.list (((tl.map (·.1)).mergeSort leT).map .str)), h) := by
    have l1 : (tl.map (·.1)).length < 64 := by rw [List.length_map]; exact h2
    unfold sortDW
    simp only [deref, isT_sdic, Bool.false_eq_true, if_false, keyS_tld, l1, if_true]
    rfl
  have e2 : sortVW false (.dat (dW tl)) h = some (.dat (.list (((tl.map (·.2)).mergeSort leT).map .str)), h) := by
    unfold sortVW
    simp only [deref, isT_sdic, Bool.false_eq_true, if_false, valS_tld]
    rfl
  obtain ⟨w2, e3⟩ := looks_ok (v1 := some (.dat (dW tl))) (v2 := none) (v3 := none) (h := h) hx ((tl.map (·.1)).mergeSort leT) fun s hs => by
    obtain ⟨p, hp, rfl⟩ := List.mem_map.mp ((List.mergeSort_perm _ _).mem_iff.mp hs)
    exact (h1 p hp).1
  obtain ⟨w2', e4⟩ := looks_ok (v1 := some (.dat (dW tl))) (v2 := w2) (v3 := none) (h := h) hx ((tl.map (·.2)).mergeSort leT) fun s hs => by
    obtain ⟨p, hp, rfl⟩ := List.mem_map.mp ((List.mergeSort_perm _ _).mem_iff.mp hs)
    exact (h1 p hp).2
  have e5 := sortW_strs (h := h) hx ht
  have sl : (sortS l).length = l.length := (sortS_perm l).length_eq
  have e6 : lcL (gN 3) bYes (fA tupW (fCons (fVar 3) (fCons (fGet (fVar 1) (fVar 3) (fVar 3)) (fNil)))) [some (.dat x), some (.dat (dW tl)), w2', none] ((sortS l).map .str) h = some ((ofL (sortS l) tl).map prT, h) := by
    rw [lcL_all (fun d => prT (unS d, goal tl (unS d)))]
    · unfold ofL
      rw [List.map_map, List.map_map]; rfl
    · intro d hd
      obtain ⟨s, hs, rfl⟩ := List.mem_map.mp hd
      have f1 : isDc (.dat (dW tl)) h = true := rfl
      have f2 : getW (.dat (dW tl)) (.dat (.str s)) (.dat (.str s)) h = some (.dat (.str (goal tl s)), h) := by
        have q : getD (sdic (tld tl)) (.str s) = some ((tl.lookup s).map .str) := by rw [getD_sdic, look_tld]
        unfold getW
        simp only [deref, q]
        unfold goal
        cases tl.lookup s with
        | none => rfl
        | some t => rfl
      have c2 : 2 ≤ sizeLine := by omega
      refine ⟨[some (.dat x), some (.dat (dW tl)), w2', some (.dat (.str s))], rfl, rfl, ?_⟩
      unfold fGet
      clear hx ht hl h1 h2 hz e1 e2 e3 e4 e5 sl hd hs
      walk_at "dl"
      rfl
  have l1 : ((ofL (sortS l) tl).map prT).length ≤ sizeLine := by unfold ofL; rw [List.length_map, List.length_map]; omega
  have lv := leave_same' (h := h) (d := cT (ofL (sortS l) tl))
  have e2' : ∀ ρ : Env, fVar 1 ρ h = some (.dat (dW tl), h) → fSortV false (fVar 1) ρ h = some (.dat (.list (((tl.map (·.2)).mergeSort leT).map .str)), h) := fun ρ q => by
    unfold fSortV
    rw [q]
    exact e2
  have e7 := e2' [some (.dat x), some (.dat (dW tl)), w2, none] rfl
  unfold m_call_of
  clear hx ht hl h1 h2 hz sl e2 e2'
  walk_at "dl"
theorem going_ok {x : D} {l : List Str} {a t : Str} {h : Hh} (hx : IsSeq x (l.map .str)) (ht : Txts l) (hl : l.length ≤ 1000) (ha : a ∈ l) (hb : t ∈ l) : m_going [.dat x, .dat (.str a), .dat (.str t)] h = some (.dat (cT (ofL (sortS l) [(a, t)])), h) := by
  have e1 := look_name_ok (h := h) hx ha
  have e2 := call_of_ok (h := h) (tl := [(a, t)]) hx ht hl (fun p hp => by rw [List.mem_singleton] at hp; subst hp; exact ⟨ha, hb⟩) (by simp)
  have e3 : fDv false [(1, 2)] [some (.dat x), some (.dat (.str a)), some (.dat (.str t))] h = some (.dat (dW [(a, t)]), h) := rfl
  have lv := leave_same' (h := h) (d := cT (ofL (sortS l) [(a, t)]))
  unfold m_going
  clear hx ht hl ha hb
  walk_at "dl"
theorem goers_ok {x : D} {ps : List (Str × Str)} {h : Hh} (hx : IsSeq x (ps.map prT)) (hl : ps.length ≤ 1000) : m_goers [.dat x] h = some (.dat (.list (((ps.filter fun p => !decide (p.1 = p.2)).map (·.1)).map .str)), h) := by
  have hz : sizeLine = 16777216 := rfl
  have e1 : ∀ ps : List (Str × Str), lcL (gT 2 (gC (gN 1) (gC (gN 2) (gE)))) (fB (f2 (eqW true) (fVar 1) (fVar 2))) (fVar 1) [some (.dat x), none, none] (ps.map prT) h = some (((ps.filter fun p => !decide (p.1 = p.2)).map (·.1)).map .str, h) := fun ps => by
    have := lcL_map (k := gT 2 (gC (gN 1) (gC (gN 2) (gE)))) (t := fB (f2 (eqW true) (fVar 1) (fVar 2))) (f := fVar 1) (ρ := [some (.dat x), none, none]) (h := h) (fun d => match d with | .tuple [.str a, .str b] => !decide (a = b) | _ => false) (fun d => match d with | .tuple [a, _] => a | d => d) (ds := ps.map prT) (by
      intro d hd
      obtain ⟨p, _, rfl⟩ := List.mem_map.mp hd
      have q := eqW_strs (neg := true) (i := p.1) (j := p.2) (h := h)
      refine ⟨[some (.dat x), some (.dat (.str p.1)), some (.dat (.str p.2))], ?_, ?_, fun _ => rfl⟩
      · clear hx hl hz hd q
        walk_at "dl"
      · clear hx hl hz hd
        walk_at "dl")
    rw [this, List.filter_map, List.map_map, List.map_map]
    rfl
  have e2 := e1 ps
  have l1 : ((((ps.filter fun p => !decide (p.1 = p.2)).map (·.1)).map PyData.str)).length ≤ sizeLine := by
    rw [List.length_map, List.length_map]
    have := List.length_filter_le (fun p : Str × Str => !decide (p.1 = p.2)) ps
    omega
  have lv := leave_same' (h := h) (d := .list (((ps.filter fun p => !decide (p.1 = p.2)).map (·.1)).map .str))
  unfold m_goers
  clear hl hz e1
  generalize ((ps.filter fun p => !decide (p.1 = p.2)).map (·.1)).map PyData.str = R at *
  rcases hx with rfl | rfl <;> walk_at "dl"
end DL
set_option maxHeartbeats 400000
namespace DL
open PySem L2
local macro_rules | `(tactic| walk_at "dl") => `(tactic| simp (config := { dsimp := false }) only [↓fnM_e, ↓sSeq_e, seqK_nx, seqK_rt, seqK_bk, seqK_ct, retK_rt, retK_nx, ↓sFrz_e, frK_some, ↓sAsg, ↓sRet, ↓sRetN, ↓sIf, ↓sExpr, ↓sSkip, ↓sNever, ↓sPar, ↓sFor, ↓sSub, ↓fVar, ↓fC, ↓fNil, ↓fCons, ↓fA, ↓f1, ↓f2, ↓fB, ↓fIf, ↓fNeg, ↓fNot, ↓fAnd, ↓fOr, ↓bNot, ↓bAnd, ↓bOr, ↓bYes, ↓obnd_x, ob_some, ↓sbnd_x, sb_some, ↓ite_x, iteK_t, iteK_f, gN, gT, gC, gE, ↓rng1I, ↓rng2I, ↓seqI, ↓enumA, ↓zipI, ↓strI, ↓fLc, ↓fDc, ↓fM, ↓fSl, ↓oNone, ↓oSome, ↓fRev, wipeE, ↓kwM, permM, permL, List.foldr, List.length_cons, List.length_nil, List.map_cons, List.map_nil, List.cons_append, List.nil_append, List.replicate, List.replicate_succ, List.replicate_zero, List.getElem?_cons_zero, List.getElem?_cons_succ, List.set_cons_zero, List.set_cons_succ, if_true, if_false, reduceIte, Nat.reduceAdd, Nat.reduceSub, Nat.reduceEqDiff, Nat.reduceLT, Nat.reduceLeDiff, Int.reduceLT, Int.reduceLE, Int.reduceNeg, Int.reduceMul, Int.reduceAdd, Int.reduceSub, Int.reduceToNat, Int.reducePow, Int.reduceEq, ok, bok, deref, mkL, lstW, tupW, dats, Option.map_some, appendW, insertW, setL, isL, listW, tupleW, lenW, absW, intC, maxW, minW, idxW, addW, subW_e, modW_e, divW_e, powW_e, mulW, intW, lt_e, gt_e, le_e, ge_e, ltW, allW_e, anyW_e, sumW_e, lW, setW, lstAt, cutW, backW, isW, isiW, iLT_none, iLT_bool, iLT_int, iLT_str, iLT_list, iLT_tup, iL_none, iL_bool, iL_int, iL_str, iL_list, iL_tup, iT_none, iT_bool, iT_int, iT_str, iT_list, iT_tup, iS_none, iS_bool, iS_int, iS_str, iS_list, iS_tup, iI_none, iI_bool, iI_int, iI_str, iI_list, iI_tup, iB_none, iB_bool, iB_int, iB_str, iB_list, iB_tup, Bool.false_eq_true, reduceCtorEq, Bool.not_true, Bool.not_false, decide_true, decide_false, List.zip_cons_cons, List.zip_nil_left, List.foldl_cons, List.foldl_nil, and_self, and_true, true_and, Bool.and_true, Bool.true_and, Bool.or_true, Bool.true_or, *])
/-! ### one who goes -/
def restOf (r : List Str) (a : Str) : List Str := r.filter fun s => !decide (s = a)
theorem rest_mem {r : List Str} {a s : Str} : s ∈ restOf r a ↔ s ∈ r ∧ s ≠ a := by
  unfold restOf
  rw [List.mem_filter]
  simp
theorem rest_perm {r : List Str} {a : Str} (nd : r.Nodup) (ha : a ∈ r) : (a :: restOf r a).Perm r := by
  refine perm_nodup (List.nodup_cons.mpr ⟨fun z => (rest_mem.mp z).2 rfl, nd.filter _⟩) nd fun k => ?_
  rw [List.mem_cons, rest_mem]
  constructor
  · rintro (rfl | h)
    · exact ha
    · exact h.1
  · intro h
    by_cases z : k = a
    · exact .inl z
    · exact .inr ⟨h, z⟩
def goN (r : List Str) (a t : Str) : Nat := (restOf r a).idxOf t + (if r.idxOf t < r.idxOf a then 1 else 0)
def goRow (r : List Str) (a t : Str) : List Str := (restOf r a).take (goN r a t) ++ [a] ++ (restOf r a).drop (goN r a t)
theorem led_go {r : List Str} {ps : List (Str × Str)} {a t : Str} (hg : ∀ s ∈ r, goal ps s = if s = a then t else s) (nd : r.Nodup) (ha : a ∈ r) (ht : t ∈ r) (ne : a ≠ t) : goRow r a t = led r ps := by
  have hr : (restOf r a).Pairwise fun x y => r.idxOf x < r.idxOf y := (pw_idx nd).filter _
  have ndr : (restOf r a).Nodup := nd.filter _
  have tm : t ∈ restOf r a := rest_mem.mpr ⟨ht, fun z => ne z.symm⟩
  have hi := List.idxOf_lt_length_of_mem tm
  have ei := List.getElem_idxOf hi
  have pg := List.pairwise_iff_getElem.mp hr
  have k1 : ∀ s ∈ restOf r a, keyN r ps s = (r.idxOf s, r.idxOf s) := fun s hs => by
    obtain ⟨h1, h2⟩ := rest_mem.mp hs
    unfold keyN
    rw [hg s h1, if_neg h2]
  have k2 : keyN r ps a = (r.idxOf t, r.idxOf a) := by
    unfold keyN
    rw [hg a ha, if_pos rfl]
  have ni : r.idxOf a ≠ r.idxOf t := fun z => ne (idx_inj ha ht z)
  have low : ∀ x ∈ (restOf r a).take (goN r a t), x ∈ restOf r a ∧ (r.idxOf x < r.idxOf t ∨ (x = t ∧ r.idxOf t < r.idxOf a)) := fun x hx => by
    refine ⟨List.mem_of_mem_take hx, ?_⟩
    obtain ⟨j, hj, rfl⟩ := List.mem_take_iff_getElem.mp hx
    have hj2 : j < (restOf r a).length := by omega
    unfold goN at hj
    rcases Nat.lt_trichotomy j ((restOf r a).idxOf t) with z | z | z
    · have := pg j _ hj2 hi z
      rw [ei] at this
      exact .inl this
    · right
      subst z
      refine ⟨ei, ?_⟩
      by_cases q : r.idxOf t < r.idxOf a
      · exact q
      · rw [if_neg q] at hj; omega
    · exfalso
      split at hj <;> omega
  have high : ∀ y ∈ (restOf r a).drop (goN r a t), y ∈ restOf r a ∧ (r.idxOf t < r.idxOf y ∨ (y = t ∧ r.idxOf a < r.idxOf t)) := fun y hy => by
    refine ⟨List.mem_of_mem_drop hy, ?_⟩
    obtain ⟨j, hj, ej⟩ := List.mem_drop_iff_getElem.mp hy
    have hk2 : goN r a t + j < (restOf r a).length := by omega
    have gd : goN r a t = (restOf r a).idxOf t + (if r.idxOf t < r.idxOf a then 1 else 0) := rfl
    rcases Nat.lt_trichotomy ((restOf r a).idxOf t) (goN r a t + j) with z | z | z
    · have := pg _ _ hi hk2 z
      rw [ei, ej] at this
      exact .inl this
    · right
      constructor
      · rw [← ej]
        have e2 : (restOf r a)[goN r a t + j] = (restOf r a)[(restOf r a).idxOf t] := by simp only [z]
        rw [e2, ei]
      · by_cases q : r.idxOf t < r.idxOf a
        · rw [if_pos q] at gd; omega
        · omega
    · exfalso
      omega
  apply led_eq
  · unfold goRow
    exact (insert_perm (restOf r a) a _).trans (rest_perm nd ha)
  · unfold goRow
    have rr : (restOf r a).Pairwise fun x y => leK (keyN r ps x) (keyN r ps y) = true := by
      refine List.Pairwise.imp_of_mem ?_ hr
      intro x y hx hy lt
      rw [k1 x hx, k1 y hy]
      unfold leK
      simp only [decide_eq_true_eq]
      omega
    rw [List.pairwise_append, List.pairwise_append]
    refine ⟨⟨rr.sublist (List.take_sublist _ _), by simp, fun x hx y hy => ?_⟩, rr.sublist (List.drop_sublist _ _), fun x hx y hy => ?_⟩
    · rw [List.mem_singleton] at hy
      subst hy
      obtain ⟨h1, h2⟩ := low x hx
      rw [k1 x h1, k2]
      unfold leK
      simp only [decide_eq_true_eq]
      rcases h2 with h2 | ⟨rfl, h2⟩
      · omega
      · omega
    · obtain ⟨h3, h4⟩ := high y hy
      rcases List.mem_append.mp hx with hx | hx
      · obtain ⟨h1, h2⟩ := low x hx
        rw [k1 x h1, k1 y h3]
        unfold leK
        simp only [decide_eq_true_eq]
        rcases h2 with h2 | ⟨rfl, h2⟩ <;> rcases h4 with h4 | ⟨rfl, h4⟩ <;> omega
      · rw [List.mem_singleton] at hx
        subst hx
        rw [k2, k1 y h3]
        unfold leK
        simp only [decide_eq_true_eq]
        rcases h4 with h4 | ⟨rfl, h4⟩ <;> omega
theorem goal_one (a t s : Str) : goal [(a, t)] s = if s = a then t else s := by
  unfold goal
  rw [List.lookup_cons]
  by_cases z : s = a
  · subst z; simp
  · rw [show (s == a) = false by simpa using z, if_neg z]
    rfl
theorem goal_ofL {l : List Str} {tl : List (Str × Str)} : ∀ {s : Str}, s ∈ l → goal (ofL l tl) s = goal tl s := fun {s} hs => by
  have : ∀ l : List Str, s ∈ l → (ofL l tl).lookup s = some (goal tl s) := fun l => by
    induction l with
    | nil => intro h; cases h
    | cons a l ih =>
      intro h
      show ((a, goal tl a) :: ofL l tl).lookup s = _
      rw [List.lookup_cons]
      by_cases z : s = a
      · subst z; simp
      · rw [show (s == a) = false by simpa using z]
        rcases List.mem_cons.mp h with q | q
        · exact absurd q z
        · exact ih q
  show ((ofL l tl).lookup s).getD s = _
  rw [this l hs]; rfl
theorem callOf_ofL {r l : List Str} {tl : List (Str × Str)} (p : l.Perm r) (h : ∀ q ∈ tl, q.2 ∈ r) : CallOf r (ofL l tl) := by
  refine ⟨?_, fun q hq => ?_⟩
  · unfold ofL
    rw [List.map_map]
    show (l.map fun s => s).Perm r
    rwa [List.map_id']
  · obtain ⟨s, hs, rfl⟩ := List.mem_map.mp hq
    show goal tl s ∈ r
    unfold goal
    cases e : tl.lookup s with
    | none => exact p.mem_iff.mp hs
    | some t =>
      obtain ⟨q, hq, z⟩ : ∃ q ∈ tl, q.2 = t := by
        have : ∀ tl : List (Str × Str), tl.lookup s = some t → ∃ q ∈ tl, q.2 = t := fun tl => by
          induction tl with
          | nil => intro h; cases h
          | cons a tl ih =>
            intro h
            obtain ⟨x, y⟩ := a
            rw [List.lookup_cons] at h
            cases z : s == x with
            | true => rw [z] at h; cases h; exact ⟨(x, t), List.mem_cons_self, rfl⟩
            | false =>
              rw [z] at h
              obtain ⟨q, hq, e⟩ := ih h
              exact ⟨q, List.mem_cons_of_mem _ hq, e⟩
        exact this tl e
      rw [← z]
      exact h q hq
end DL
set_option maxHeartbeats 400000
namespace DL
open PySem L2
local macro_rules | `(tactic| walk_at "dl") => `(tactic| simp (config := { dsimp := false }) only [↓fnM_e, ↓sSeq_e, seqK_nx, seqK_rt, seqK_bk, seqK_ct, retK_rt, retK_nx, ↓sFrz_e, frK_some, ↓sAsg, ↓sRet, ↓sRetN, ↓sIf, ↓sExpr, ↓sSkip, ↓sNever, ↓sPar, ↓sFor, ↓sSub, ↓fVar, ↓fC, ↓fNil, ↓fCons, ↓fA, ↓f1, ↓f2, ↓fB, ↓fIf, ↓fNeg, ↓fNot, ↓fAnd, ↓fOr, ↓bNot, ↓bAnd, ↓bOr, ↓bYes, ↓obnd_x, ob_some, ↓sbnd_x, sb_some, ↓ite_x, iteK_t, iteK_f, gN, gT, gC, gE, ↓rng1I, ↓rng2I, ↓seqI, ↓enumA, ↓zipI, ↓strI, ↓fLc, ↓fDc, ↓fM, ↓fSl, ↓oNone, ↓oSome, ↓fRev, wipeE, ↓kwM, permM, permL, List.foldr, List.length_cons, List.length_nil, List.map_cons, List.map_nil, List.cons_append, List.nil_append, List.replicate, List.replicate_succ, List.replicate_zero, List.getElem?_cons_zero, List.getElem?_cons_succ, List.set_cons_zero, List.set_cons_succ, if_true, if_false, reduceIte, Nat.reduceAdd, Nat.reduceSub, Nat.reduceEqDiff, Nat.reduceLT, Nat.reduceLeDiff, Int.reduceLT, Int.reduceLE, Int.reduceNeg, Int.reduceMul, Int.reduceAdd, Int.reduceSub, Int.reduceToNat, Int.reducePow, Int.reduceEq, ok, bok, deref, mkL, lstW, tupW, dats, Option.map_some, appendW, insertW, setL, isL, listW, tupleW, lenW, absW, intC, maxW, minW, idxW, addW, subW_e, modW_e, divW_e, powW_e, mulW, intW, lt_e, gt_e, le_e, ge_e, ltW, allW_e, anyW_e, sumW_e, lW, setW, lstAt, cutW, backW, isW, isiW, iLT_none, iLT_bool, iLT_int, iLT_str, iLT_list, iLT_tup, iL_none, iL_bool, iL_int, iL_str, iL_list, iL_tup, iT_none, iT_bool, iT_int, iT_str, iT_list, iT_tup, iS_none, iS_bool, iS_int, iS_str, iS_list, iS_tup, iI_none, iI_bool, iI_int, iI_str, iI_list, iI_tup, iB_none, iB_bool, iB_int, iB_str, iB_list, iB_tup, Bool.false_eq_true, reduceCtorEq, Bool.not_true, Bool.not_false, decide_true, decide_false, List.zip_cons_cons, List.zip_nil_left, List.foldl_cons, List.foldl_nil, and_self, and_true, true_and, Bool.and_true, Bool.true_and, Bool.or_true, Bool.true_or, *])
/-! ### four names -/
structure Four (a b c d : Str) : Prop where
  ab : a ≠ b
  ac : a ≠ c
  ad : a ≠ d
  bc : b ≠ c
  bd : b ≠ d
  cd : c ≠ d
  ba : b ≠ a
  ca : c ≠ a
  da : d ≠ a
  cb : c ≠ b
  db : d ≠ b
  dc : d ≠ c
theorem led4 {p q r s x y z w : Str} {ps : List (Str × Str)} (h1 : [x, y, z, w].Perm [p, q, r, s]) (h2 : leK (keyN [p, q, r, s] ps x) (keyN [p, q, r, s] ps y) = true) (h3 : leK (keyN [p, q, r, s] ps y) (keyN [p, q, r, s] ps z) = true) (h4 : leK (keyN [p, q, r, s] ps z) (keyN [p, q, r, s] ps w) = true) : led [p, q, r, s] ps = [x, y, z, w] := by
  symm
  apply led_eq h1
  simp only [List.pairwise_cons, List.mem_cons, List.not_mem_nil, or_false, List.Pairwise.nil, and_true, false_implies, implies_true, forall_eq_or_imp, forall_eq]
  refine ⟨⟨h2, leK_trans _ _ _ h2 h3, leK_trans _ _ _ (leK_trans _ _ _ h2 h3) h4⟩, ⟨h3, leK_trans _ _ _ h3 h4⟩, h4⟩
theorem led3 {p q r x y z : Str} {ps : List (Str × Str)} (h1 : [x, y, z].Perm [p, q, r]) (h2 : leK (keyN [p, q, r] ps x) (keyN [p, q, r] ps y) = true) (h3 : leK (keyN [p, q, r] ps y) (keyN [p, q, r] ps z) = true) : led [p, q, r] ps = [x, y, z] := by
  symm
  apply led_eq h1
  simp only [List.pairwise_cons, List.mem_cons, List.not_mem_nil, or_false, List.Pairwise.nil, and_true, false_implies, implies_true, forall_eq_or_imp, forall_eq]
  exact ⟨⟨h2, leK_trans _ _ _ h2 h3⟩, h3⟩
theorem led_l1 {a b c d : Str} (f : Four a b c d) : led [a, b, c, d] [(a, b), (b, a), (c, c), (d, d)] = [b, a, c, d] := by
  have ab' : (a == b) = false := beq_eq_false_iff_ne.mpr f.ab
  have ac' : (a == c) = false := beq_eq_false_iff_ne.mpr f.ac
  have ad' : (a == d) = false := beq_eq_false_iff_ne.mpr f.ad
  have ba' : (b == a) = false := beq_eq_false_iff_ne.mpr f.ba
  have bc' : (b == c) = false := beq_eq_false_iff_ne.mpr f.bc
  have bd' : (b == d) = false := beq_eq_false_iff_ne.mpr f.bd
  have ca' : (c == a) = false := beq_eq_false_iff_ne.mpr f.ca
  have cb' : (c == b) = false := beq_eq_false_iff_ne.mpr f.cb
  have cd' : (c == d) = false := beq_eq_false_iff_ne.mpr f.cd
  have da' : (d == a) = false := beq_eq_false_iff_ne.mpr f.da
  have db' : (d == b) = false := beq_eq_false_iff_ne.mpr f.db
  have dc' : (d == c) = false := beq_eq_false_iff_ne.mpr f.dc
  apply led4
  · apply perm_nodup
    · simp [f.ab, f.ac, f.ad, f.ba, f.bc, f.bd, f.ca, f.cb, f.cd, f.da, f.db, f.dc]
    · simp [f.ab, f.ac, f.ad, f.ba, f.bc, f.bd, f.ca, f.cb, f.cd, f.da, f.db, f.dc]
    · intro k
      simp only [List.mem_cons, List.not_mem_nil, or_false]
      try constructor <;> (rintro (h | h | h | h) <;> simp [h])
  · simp [leK, keyN, goal, List.lookup_cons, List.idxOf_cons, ab', ac', ad', ba', bc', bd', ca', cb', cd', da', db', dc']
  · simp [leK, keyN, goal, List.lookup_cons, List.idxOf_cons, ab', ac', ad', ba', bc', bd', ca', cb', cd', da', db', dc']
  · simp [leK, keyN, goal, List.lookup_cons, List.idxOf_cons, ab', ac', ad', ba', bc', bd', ca', cb', cd', da', db', dc']
theorem led_l2 {a b c d : Str} (f : Four a b c d) : led [b, c, a, d] [(a, b), (b, a), (c, c), (d, d)] = [a, c, b, d] := by
  have ab' : (a == b) = false := beq_eq_false_iff_ne.mpr f.ab
  have ac' : (a == c) = false := beq_eq_false_iff_ne.mpr f.ac
  have ad' : (a == d) = false := beq_eq_false_iff_ne.mpr f.ad
  have ba' : (b == a) = false := beq_eq_false_iff_ne.mpr f.ba
  have bc' : (b == c) = false := beq_eq_false_iff_ne.mpr f.bc
  have bd' : (b == d) = false := beq_eq_false_iff_ne.mpr f.bd
  have ca' : (c == a) = false := beq_eq_false_iff_ne.mpr f.ca
  have cb' : (c == b) = false := beq_eq_false_iff_ne.mpr f.cb
  have cd' : (c == d) = false := beq_eq_false_iff_ne.mpr f.cd
  have da' : (d == a) = false := beq_eq_false_iff_ne.mpr f.da
  have db' : (d == b) = false := beq_eq_false_iff_ne.mpr f.db
  have dc' : (d == c) = false := beq_eq_false_iff_ne.mpr f.dc
  apply led4
  · apply perm_nodup
    · simp [f.ab, f.ac, f.ad, f.ba, f.bc, f.bd, f.ca, f.cb, f.cd, f.da, f.db, f.dc]
    · simp [f.ab, f.ac, f.ad, f.ba, f.bc, f.bd, f.ca, f.cb, f.cd, f.da, f.db, f.dc]
    · intro k
      simp only [List.mem_cons, List.not_mem_nil, or_false]
      try constructor <;> (rintro (h | h | h | h) <;> simp [h])
  · simp [leK, keyN, goal, List.lookup_cons, List.idxOf_cons, ab', ac', ad', ba', bc', bd', ca', cb', cd', da', db', dc']
  · simp [leK, keyN, goal, List.lookup_cons, List.idxOf_cons, ab', ac', ad', ba', bc', bd', ca', cb', cd', da', db', dc']
  · simp [leK, keyN, goal, List.lookup_cons, List.idxOf_cons, ab', ac', ad', ba', bc', bd', ca', cb', cd', da', db', dc']
theorem led_l3 {a b c d : Str} (f : Four a b c d) : led [d, b, c, a] [(a, b), (b, a), (c, c), (d, d)] = [d, a, c, b] := by
  have ab' : (a == b) = false := beq_eq_false_iff_ne.mpr f.ab
  have ac' : (a == c) = false := beq_eq_false_iff_ne.mpr f.ac
  have ad' : (a == d) = false := beq_eq_false_iff_ne.mpr f.ad
  have ba' : (b == a) = false := beq_eq_false_iff_ne.mpr f.ba
  have bc' : (b == c) = false := beq_eq_false_iff_ne.mpr f.bc
  have bd' : (b == d) = false := beq_eq_false_iff_ne.mpr f.bd
  have ca' : (c == a) = false := beq_eq_false_iff_ne.mpr f.ca
  have cb' : (c == b) = false := beq_eq_false_iff_ne.mpr f.cb
  have cd' : (c == d) = false := beq_eq_false_iff_ne.mpr f.cd
  have da' : (d == a) = false := beq_eq_false_iff_ne.mpr f.da
  have db' : (d == b) = false := beq_eq_false_iff_ne.mpr f.db
  have dc' : (d == c) = false := beq_eq_false_iff_ne.mpr f.dc
  apply led4
  · apply perm_nodup
    · simp [f.ab, f.ac, f.ad, f.ba, f.bc, f.bd, f.ca, f.cb, f.cd, f.da, f.db, f.dc]
    · simp [f.ab, f.ac, f.ad, f.ba, f.bc, f.bd, f.ca, f.cb, f.cd, f.da, f.db, f.dc]
    · intro k
      simp only [List.mem_cons, List.not_mem_nil, or_false]
      try constructor <;> (rintro (h | h | h | h) <;> simp [h])
  · simp [leK, keyN, goal, List.lookup_cons, List.idxOf_cons, ab', ac', ad', ba', bc', bd', ca', cb', cd', da', db', dc']
  · simp [leK, keyN, goal, List.lookup_cons, List.idxOf_cons, ab', ac', ad', ba', bc', bd', ca', cb', cd', da', db', dc']
  · simp [leK, keyN, goal, List.lookup_cons, List.idxOf_cons, ab', ac', ad', ba', bc', bd', ca', cb', cd', da', db', dc']
theorem led_u1 {a b c d : Str} (f : Four a b c d) : led [a, b, c, d] [(a, a), (b, b), (c, c), (d, a)] = [a, d, b, c] := by
  have ab' : (a == b) = false := beq_eq_false_iff_ne.mpr f.ab
  have ac' : (a == c) = false := beq_eq_false_iff_ne.mpr f.ac
  have ad' : (a == d) = false := beq_eq_false_iff_ne.mpr f.ad
  have ba' : (b == a) = false := beq_eq_false_iff_ne.mpr f.ba
  have bc' : (b == c) = false := beq_eq_false_iff_ne.mpr f.bc
  have bd' : (b == d) = false := beq_eq_false_iff_ne.mpr f.bd
  have ca' : (c == a) = false := beq_eq_false_iff_ne.mpr f.ca
  have cb' : (c == b) = false := beq_eq_false_iff_ne.mpr f.cb
  have cd' : (c == d) = false := beq_eq_false_iff_ne.mpr f.cd
  have da' : (d == a) = false := beq_eq_false_iff_ne.mpr f.da
  have db' : (d == b) = false := beq_eq_false_iff_ne.mpr f.db
  have dc' : (d == c) = false := beq_eq_false_iff_ne.mpr f.dc
  apply led4
  · apply perm_nodup
    · simp [f.ab, f.ac, f.ad, f.ba, f.bc, f.bd, f.ca, f.cb, f.cd, f.da, f.db, f.dc]
    · simp [f.ab, f.ac, f.ad, f.ba, f.bc, f.bd, f.ca, f.cb, f.cd, f.da, f.db, f.dc]
    · intro k
      simp only [List.mem_cons, List.not_mem_nil, or_false]
      try constructor <;> (rintro (h | h | h | h) <;> simp [h])
  · simp [leK, keyN, goal, List.lookup_cons, List.idxOf_cons, ab', ac', ad', ba', bc', bd', ca', cb', cd', da', db', dc']
  · simp [leK, keyN, goal, List.lookup_cons, List.idxOf_cons, ab', ac', ad', ba', bc', bd', ca', cb', cd', da', db', dc']
  · simp [leK, keyN, goal, List.lookup_cons, List.idxOf_cons, ab', ac', ad', ba', bc', bd', ca', cb', cd', da', db', dc']
theorem led_u2 {a b c d : Str} (f : Four a b c d) : led [d, b, c, a] [(a, a), (b, b), (c, c), (d, a)] = [b, c, d, a] := by
  have ab' : (a == b) = false := beq_eq_false_iff_ne.mpr f.ab
  have ac' : (a == c) = false := beq_eq_false_iff_ne.mpr f.ac
  have ad' : (a == d) = false := beq_eq_false_iff_ne.mpr f.ad
  have ba' : (b == a) = false := beq_eq_false_iff_ne.mpr f.ba
  have bc' : (b == c) = false := beq_eq_false_iff_ne.mpr f.bc
  have bd' : (b == d) = false := beq_eq_false_iff_ne.mpr f.bd
  have ca' : (c == a) = false := beq_eq_false_iff_ne.mpr f.ca
  have cb' : (c == b) = false := beq_eq_false_iff_ne.mpr f.cb
  have cd' : (c == d) = false := beq_eq_false_iff_ne.mpr f.cd
  have da' : (d == a) = false := beq_eq_false_iff_ne.mpr f.da
  have db' : (d == b) = false := beq_eq_false_iff_ne.mpr f.db
  have dc' : (d == c) = false := beq_eq_false_iff_ne.mpr f.dc
  apply led4
  · apply perm_nodup
    · simp [f.ab, f.ac, f.ad, f.ba, f.bc, f.bd, f.ca, f.cb, f.cd, f.da, f.db, f.dc]
    · simp [f.ab, f.ac, f.ad, f.ba, f.bc, f.bd, f.ca, f.cb, f.cd, f.da, f.db, f.dc]
    · intro k
      simp only [List.mem_cons, List.not_mem_nil, or_false]
      try constructor <;> (rintro (h | h | h | h) <;> simp [h])
  · simp [leK, keyN, goal, List.lookup_cons, List.idxOf_cons, ab', ac', ad', ba', bc', bd', ca', cb', cd', da', db', dc']
  · simp [leK, keyN, goal, List.lookup_cons, List.idxOf_cons, ab', ac', ad', ba', bc', bd', ca', cb', cd', da', db', dc']
  · simp [leK, keyN, goal, List.lookup_cons, List.idxOf_cons, ab', ac', ad', ba', bc', bd', ca', cb', cd', da', db', dc']
theorem led_u3 {a b c d : Str} (f : Four a b c d) : led [b, a, d, c] [(a, a), (b, b), (c, c), (d, a)] = [b, a, d, c] := by
  have ab' : (a == b) = false := beq_eq_false_iff_ne.mpr f.ab
  have ac' : (a == c) = false := beq_eq_false_iff_ne.mpr f.ac
  have ad' : (a == d) = false := beq_eq_false_iff_ne.mpr f.ad
  have ba' : (b == a) = false := beq_eq_false_iff_ne.mpr f.ba
  have bc' : (b == c) = false := beq_eq_false_iff_ne.mpr f.bc
  have bd' : (b == d) = false := beq_eq_false_iff_ne.mpr f.bd
  have ca' : (c == a) = false := beq_eq_false_iff_ne.mpr f.ca
  have cb' : (c == b) = false := beq_eq_false_iff_ne.mpr f.cb
  have cd' : (c == d) = false := beq_eq_false_iff_ne.mpr f.cd
  have da' : (d == a) = false := beq_eq_false_iff_ne.mpr f.da
  have db' : (d == b) = false := beq_eq_false_iff_ne.mpr f.db
  have dc' : (d == c) = false := beq_eq_false_iff_ne.mpr f.dc
  apply led4
  · apply perm_nodup
    · simp [f.ab, f.ac, f.ad, f.ba, f.bc, f.bd, f.ca, f.cb, f.cd, f.da, f.db, f.dc]
    · simp [f.ab, f.ac, f.ad, f.ba, f.bc, f.bd, f.ca, f.cb, f.cd, f.da, f.db, f.dc]
    · intro k
      simp only [List.mem_cons, List.not_mem_nil, or_false]
      try constructor <;> (rintro (h | h | h | h) <;> simp [h])
  · simp [leK, keyN, goal, List.lookup_cons, List.idxOf_cons, ab', ac', ad', ba', bc', bd', ca', cb', cd', da', db', dc']
  · simp [leK, keyN, goal, List.lookup_cons, List.idxOf_cons, ab', ac', ad', ba', bc', bd', ca', cb', cd', da', db', dc']
  · simp [leK, keyN, goal, List.lookup_cons, List.idxOf_cons, ab', ac', ad', ba', bc', bd', ca', cb', cd', da', db', dc']
theorem led_w1 {a b c d : Str} (f : Four a b c d) : led [a, b, c, d] [(a, c), (b, c), (c, a), (d, a)] = [c, d, a, b] := by
  have ab' : (a == b) = false := beq_eq_false_iff_ne.mpr f.ab
  have ac' : (a == c) = false := beq_eq_false_iff_ne.mpr f.ac
  have ad' : (a == d) = false := beq_eq_false_iff_ne.mpr f.ad
  have ba' : (b == a) = false := beq_eq_false_iff_ne.mpr f.ba
  have bc' : (b == c) = false := beq_eq_false_iff_ne.mpr f.bc
  have bd' : (b == d) = false := beq_eq_false_iff_ne.mpr f.bd
  have ca' : (c == a) = false := beq_eq_false_iff_ne.mpr f.ca
  have cb' : (c == b) = false := beq_eq_false_iff_ne.mpr f.cb
  have cd' : (c == d) = false := beq_eq_false_iff_ne.mpr f.cd
  have da' : (d == a) = false := beq_eq_false_iff_ne.mpr f.da
  have db' : (d == b) = false := beq_eq_false_iff_ne.mpr f.db
  have dc' : (d == c) = false := beq_eq_false_iff_ne.mpr f.dc
  apply led4
  · apply perm_nodup
    · simp [f.ab, f.ac, f.ad, f.ba, f.bc, f.bd, f.ca, f.cb, f.cd, f.da, f.db, f.dc]
    · simp [f.ab, f.ac, f.ad, f.ba, f.bc, f.bd, f.ca, f.cb, f.cd, f.da, f.db, f.dc]
    · intro k
      simp only [List.mem_cons, List.not_mem_nil, or_false]
      try constructor <;> (rintro (h | h | h | h) <;> simp [h])
  · simp [leK, keyN, goal, List.lookup_cons, List.idxOf_cons, ab', ac', ad', ba', bc', bd', ca', cb', cd', da', db', dc']
  · simp [leK, keyN, goal, List.lookup_cons, List.idxOf_cons, ab', ac', ad', ba', bc', bd', ca', cb', cd', da', db', dc']
  · simp [leK, keyN, goal, List.lookup_cons, List.idxOf_cons, ab', ac', ad', ba', bc', bd', ca', cb', cd', da', db', dc']
theorem led_w2 {a b c d : Str} (f : Four a b c d) : led [b, a, d, c] [(a, c), (b, c), (c, a), (d, a)] = [d, c, b, a] := by
  have ab' : (a == b) = false := beq_eq_false_iff_ne.mpr f.ab
  have ac' : (a == c) = false := beq_eq_false_iff_ne.mpr f.ac
  have ad' : (a == d) = false := beq_eq_false_iff_ne.mpr f.ad
  have ba' : (b == a) = false := beq_eq_false_iff_ne.mpr f.ba
  have bc' : (b == c) = false := beq_eq_false_iff_ne.mpr f.bc
  have bd' : (b == d) = false := beq_eq_false_iff_ne.mpr f.bd
  have ca' : (c == a) = false := beq_eq_false_iff_ne.mpr f.ca
  have cb' : (c == b) = false := beq_eq_false_iff_ne.mpr f.cb
  have cd' : (c == d) = false := beq_eq_false_iff_ne.mpr f.cd
  have da' : (d == a) = false := beq_eq_false_iff_ne.mpr f.da
  have db' : (d == b) = false := beq_eq_false_iff_ne.mpr f.db
  have dc' : (d == c) = false := beq_eq_false_iff_ne.mpr f.dc
  apply led4
  · apply perm_nodup
    · simp [f.ab, f.ac, f.ad, f.ba, f.bc, f.bd, f.ca, f.cb, f.cd, f.da, f.db, f.dc]
    · simp [f.ab, f.ac, f.ad, f.ba, f.bc, f.bd, f.ca, f.cb, f.cd, f.da, f.db, f.dc]
    · intro k
      simp only [List.mem_cons, List.not_mem_nil, or_false]
      try constructor <;> (rintro (h | h | h | h) <;> simp [h])
  · simp [leK, keyN, goal, List.lookup_cons, List.idxOf_cons, ab', ac', ad', ba', bc', bd', ca', cb', cd', da', db', dc']
  · simp [leK, keyN, goal, List.lookup_cons, List.idxOf_cons, ab', ac', ad', ba', bc', bd', ca', cb', cd', da', db', dc']
  · simp [leK, keyN, goal, List.lookup_cons, List.idxOf_cons, ab', ac', ad', ba', bc', bd', ca', cb', cd', da', db', dc']
theorem led_w3 {a b c d : Str} (f : Four a b c d) : led [c, d, b, a] [(a, c), (b, c), (c, a), (d, a)] = [b, a, c, d] := by
  have ab' : (a == b) = false := beq_eq_false_iff_ne.mpr f.ab
  have ac' : (a == c) = false := beq_eq_false_iff_ne.mpr f.ac
  have ad' : (a == d) = false := beq_eq_false_iff_ne.mpr f.ad
  have ba' : (b == a) = false := beq_eq_false_iff_ne.mpr f.ba
  have bc' : (b == c) = false := beq_eq_false_iff_ne.mpr f.bc
  have bd' : (b == d) = false := beq_eq_false_iff_ne.mpr f.bd
  have ca' : (c == a) = false := beq_eq_false_iff_ne.mpr f.ca
  have cb' : (c == b) = false := beq_eq_false_iff_ne.mpr f.cb
  have cd' : (c == d) = false := beq_eq_false_iff_ne.mpr f.cd
  have da' : (d == a) = false := beq_eq_false_iff_ne.mpr f.da
  have db' : (d == b) = false := beq_eq_false_iff_ne.mpr f.db
  have dc' : (d == c) = false := beq_eq_false_iff_ne.mpr f.dc
  apply led4
  · apply perm_nodup
    · simp [f.ab, f.ac, f.ad, f.ba, f.bc, f.bd, f.ca, f.cb, f.cd, f.da, f.db, f.dc]
    · simp [f.ab, f.ac, f.ad, f.ba, f.bc, f.bd, f.ca, f.cb, f.cd, f.da, f.db, f.dc]
    · intro k
      simp only [List.mem_cons, List.not_mem_nil, or_false]
      try constructor <;> (rintro (h | h | h | h) <;> simp [h])
  · simp [leK, keyN, goal, List.lookup_cons, List.idxOf_cons, ab', ac', ad', ba', bc', bd', ca', cb', cd', da', db', dc']
  · simp [leK, keyN, goal, List.lookup_cons, List.idxOf_cons, ab', ac', ad', ba', bc', bd', ca', cb', cd', da', db', dc']
  · simp [leK, keyN, goal, List.lookup_cons, List.idxOf_cons, ab', ac', ad', ba', bc', bd', ca', cb', cd', da', db', dc']
theorem led_r1 {a b c d : Str} (f : Four a b c d) : led [a, b, c] [(a, b), (b, c), (c, a)] = [c, a, b] := by
  have ab' : (a == b) = false := beq_eq_false_iff_ne.mpr f.ab
  have ac' : (a == c) = false := beq_eq_false_iff_ne.mpr f.ac
  have ad' : (a == d) = false := beq_eq_false_iff_ne.mpr f.ad
  have ba' : (b == a) = false := beq_eq_false_iff_ne.mpr f.ba
  have bc' : (b == c) = false := beq_eq_false_iff_ne.mpr f.bc
  have bd' : (b == d) = false := beq_eq_false_iff_ne.mpr f.bd
  have ca' : (c == a) = false := beq_eq_false_iff_ne.mpr f.ca
  have cb' : (c == b) = false := beq_eq_false_iff_ne.mpr f.cb
  have cd' : (c == d) = false := beq_eq_false_iff_ne.mpr f.cd
  have da' : (d == a) = false := beq_eq_false_iff_ne.mpr f.da
  have db' : (d == b) = false := beq_eq_false_iff_ne.mpr f.db
  have dc' : (d == c) = false := beq_eq_false_iff_ne.mpr f.dc
  apply led3
  · apply perm_nodup
    · simp [f.ab, f.ac, f.ad, f.ba, f.bc, f.bd, f.ca, f.cb, f.cd, f.da, f.db, f.dc]
    · simp [f.ab, f.ac, f.ad, f.ba, f.bc, f.bd, f.ca, f.cb, f.cd, f.da, f.db, f.dc]
    · intro k
      simp only [List.mem_cons, List.not_mem_nil, or_false]
      try constructor <;> (rintro (h | h | h) <;> simp [h])
  · simp [leK, keyN, goal, List.lookup_cons, List.idxOf_cons, ab', ac', ad', ba', bc', bd', ca', cb', cd', da', db', dc']
  · simp [leK, keyN, goal, List.lookup_cons, List.idxOf_cons, ab', ac', ad', ba', bc', bd', ca', cb', cd', da', db', dc']
theorem led_r2 {a b c d : Str} (f : Four a b c d) : led [c, a, b] [(a, c), (b, b), (c, c)] = [c, a, b] := by
  have ab' : (a == b) = false := beq_eq_false_iff_ne.mpr f.ab
  have ac' : (a == c) = false := beq_eq_false_iff_ne.mpr f.ac
  have ad' : (a == d) = false := beq_eq_false_iff_ne.mpr f.ad
  have ba' : (b == a) = false := beq_eq_false_iff_ne.mpr f.ba
  have bc' : (b == c) = false := beq_eq_false_iff_ne.mpr f.bc
  have bd' : (b == d) = false := beq_eq_false_iff_ne.mpr f.bd
  have ca' : (c == a) = false := beq_eq_false_iff_ne.mpr f.ca
  have cb' : (c == b) = false := beq_eq_false_iff_ne.mpr f.cb
  have cd' : (c == d) = false := beq_eq_false_iff_ne.mpr f.cd
  have da' : (d == a) = false := beq_eq_false_iff_ne.mpr f.da
  have db' : (d == b) = false := beq_eq_false_iff_ne.mpr f.db
  have dc' : (d == c) = false := beq_eq_false_iff_ne.mpr f.dc
  apply led3
  · apply perm_nodup
    · simp [f.ab, f.ac, f.ad, f.ba, f.bc, f.bd, f.ca, f.cb, f.cd, f.da, f.db, f.dc]
    · simp [f.ab, f.ac, f.ad, f.ba, f.bc, f.bd, f.ca, f.cb, f.cd, f.da, f.db, f.dc]
    · intro k
      simp only [List.mem_cons, List.not_mem_nil, or_false]
      try constructor <;> (rintro (h | h | h) <;> simp [h])
  · simp [leK, keyN, goal, List.lookup_cons, List.idxOf_cons, ab', ac', ad', ba', bc', bd', ca', cb', cd', da', db', dc']
  · simp [leK, keyN, goal, List.lookup_cons, List.idxOf_cons, ab', ac', ad', ba', bc', bd', ca', cb', cd', da', db', dc']
theorem led_r3 {a b c d : Str} (f : Four a b c d) : led [c, a, b] [(a, b), (b, c), (c, a)] = [b, c, a] := by
  have ab' : (a == b) = false := beq_eq_false_iff_ne.mpr f.ab
  have ac' : (a == c) = false := beq_eq_false_iff_ne.mpr f.ac
  have ad' : (a == d) = false := beq_eq_false_iff_ne.mpr f.ad
  have ba' : (b == a) = false := beq_eq_false_iff_ne.mpr f.ba
  have bc' : (b == c) = false := beq_eq_false_iff_ne.mpr f.bc
  have bd' : (b == d) = false := beq_eq_false_iff_ne.mpr f.bd
  have ca' : (c == a) = false := beq_eq_false_iff_ne.mpr f.ca
  have cb' : (c == b) = false := beq_eq_false_iff_ne.mpr f.cb
  have cd' : (c == d) = false := beq_eq_false_iff_ne.mpr f.cd
  have da' : (d == a) = false := beq_eq_false_iff_ne.mpr f.da
  have db' : (d == b) = false := beq_eq_false_iff_ne.mpr f.db
  have dc' : (d == c) = false := beq_eq_false_iff_ne.mpr f.dc
  apply led3
  · apply perm_nodup
    · simp [f.ab, f.ac, f.ad, f.ba, f.bc, f.bd, f.ca, f.cb, f.cd, f.da, f.db, f.dc]
    · simp [f.ab, f.ac, f.ad, f.ba, f.bc, f.bd, f.ca, f.cb, f.cd, f.da, f.db, f.dc]
    · intro k
      simp only [List.mem_cons, List.not_mem_nil, or_false]
      try constructor <;> (rintro (h | h | h) <;> simp [h])
  · simp [leK, keyN, goal, List.lookup_cons, List.idxOf_cons, ab', ac', ad', ba', bc', bd', ca', cb', cd', da', db', dc']
  · simp [leK, keyN, goal, List.lookup_cons, List.idxOf_cons, ab', ac', ad', ba', bc', bd', ca', cb', cd', da', db', dc']
theorem led_r4 {a b c d : Str} (f : Four a b c d) : led [b, a, c] [(a, b), (b, c), (c, a)] = [a, c, b] := by
  have ab' : (a == b) = false := beq_eq_false_iff_ne.mpr f.ab
  have ac' : (a == c) = false := beq_eq_false_iff_ne.mpr f.ac
  have ad' : (a == d) = false := beq_eq_false_iff_ne.mpr f.ad
  have ba' : (b == a) = false := beq_eq_false_iff_ne.mpr f.ba
  have bc' : (b == c) = false := beq_eq_false_iff_ne.mpr f.bc
  have bd' : (b == d) = false := beq_eq_false_iff_ne.mpr f.bd
  have ca' : (c == a) = false := beq_eq_false_iff_ne.mpr f.ca
  have cb' : (c == b) = false := beq_eq_false_iff_ne.mpr f.cb
  have cd' : (c == d) = false := beq_eq_false_iff_ne.mpr f.cd
  have da' : (d == a) = false := beq_eq_false_iff_ne.mpr f.da
  have db' : (d == b) = false := beq_eq_false_iff_ne.mpr f.db
  have dc' : (d == c) = false := beq_eq_false_iff_ne.mpr f.dc
  apply led3
  · apply perm_nodup
    · simp [f.ab, f.ac, f.ad, f.ba, f.bc, f.bd, f.ca, f.cb, f.cd, f.da, f.db, f.dc]
    · simp [f.ab, f.ac, f.ad, f.ba, f.bc, f.bd, f.ca, f.cb, f.cd, f.da, f.db, f.dc]
    · intro k
      simp only [List.mem_cons, List.not_mem_nil, or_false]
      try constructor <;> (rintro (h | h | h) <;> simp [h])
  · simp [leK, keyN, goal, List.lookup_cons, List.idxOf_cons, ab', ac', ad', ba', bc', bd', ca', cb', cd', da', db', dc']
  · simp [leK, keyN, goal, List.lookup_cons, List.idxOf_cons, ab', ac', ad', ba', bc', bd', ca', cb', cd', da', db', dc']
theorem led_r5 {a b c d : Str} (f : Four a b c d) : led [a, c, b] [(a, b), (b, c), (c, a)] = [c, b, a] := by
  have ab' : (a == b) = false := beq_eq_false_iff_ne.mpr f.ab
  have ac' : (a == c) = false := beq_eq_false_iff_ne.mpr f.ac
  have ad' : (a == d) = false := beq_eq_false_iff_ne.mpr f.ad
  have ba' : (b == a) = false := beq_eq_false_iff_ne.mpr f.ba
  have bc' : (b == c) = false := beq_eq_false_iff_ne.mpr f.bc
  have bd' : (b == d) = false := beq_eq_false_iff_ne.mpr f.bd
  have ca' : (c == a) = false := beq_eq_false_iff_ne.mpr f.ca
  have cb' : (c == b) = false := beq_eq_false_iff_ne.mpr f.cb
  have cd' : (c == d) = false := beq_eq_false_iff_ne.mpr f.cd
  have da' : (d == a) = false := beq_eq_false_iff_ne.mpr f.da
  have db' : (d == b) = false := beq_eq_false_iff_ne.mpr f.db
  have dc' : (d == c) = false := beq_eq_false_iff_ne.mpr f.dc
  apply led3
  · apply perm_nodup
    · simp [f.ab, f.ac, f.ad, f.ba, f.bc, f.bd, f.ca, f.cb, f.cd, f.da, f.db, f.dc]
    · simp [f.ab, f.ac, f.ad, f.ba, f.bc, f.bd, f.ca, f.cb, f.cd, f.da, f.db, f.dc]
    · intro k
      simp only [List.mem_cons, List.not_mem_nil, or_false]
      try constructor <;> (rintro (h | h | h) <;> simp [h])
  · simp [leK, keyN, goal, List.lookup_cons, List.idxOf_cons, ab', ac', ad', ba', bc', bd', ca', cb', cd', da', db', dc']
  · simp [leK, keyN, goal, List.lookup_cons, List.idxOf_cons, ab', ac', ad', ba', bc', bd', ca', cb', cd', da', db', dc']
theorem led_r6 {a b c d : Str} (f : Four a b c d) : led [c, b, a] [(a, b), (b, c), (c, a)] = [b, a, c] := by
  have ab' : (a == b) = false := beq_eq_false_iff_ne.mpr f.ab
  have ac' : (a == c) = false := beq_eq_false_iff_ne.mpr f.ac
  have ad' : (a == d) = false := beq_eq_false_iff_ne.mpr f.ad
  have ba' : (b == a) = false := beq_eq_false_iff_ne.mpr f.ba
  have bc' : (b == c) = false := beq_eq_false_iff_ne.mpr f.bc
  have bd' : (b == d) = false := beq_eq_false_iff_ne.mpr f.bd
  have ca' : (c == a) = false := beq_eq_false_iff_ne.mpr f.ca
  have cb' : (c == b) = false := beq_eq_false_iff_ne.mpr f.cb
  have cd' : (c == d) = false := beq_eq_false_iff_ne.mpr f.cd
  have da' : (d == a) = false := beq_eq_false_iff_ne.mpr f.da
  have db' : (d == b) = false := beq_eq_false_iff_ne.mpr f.db
  have dc' : (d == c) = false := beq_eq_false_iff_ne.mpr f.dc
  apply led3
  · apply perm_nodup
    · simp [f.ab, f.ac, f.ad, f.ba, f.bc, f.bd, f.ca, f.cb, f.cd, f.da, f.db, f.dc]
    · simp [f.ab, f.ac, f.ad, f.ba, f.bc, f.bd, f.ca, f.cb, f.cd, f.da, f.db, f.dc]
    · intro k
      simp only [List.mem_cons, List.not_mem_nil, or_false]
      try constructor <;> (rintro (h | h | h) <;> simp [h])
  · simp [leK, keyN, goal, List.lookup_cons, List.idxOf_cons, ab', ac', ad', ba', bc', bd', ca', cb', cd', da', db', dc']
  · simp [leK, keyN, goal, List.lookup_cons, List.idxOf_cons, ab', ac', ad', ba', bc', bd', ca', cb', cd', da', db', dc']
end DL
set_option maxHeartbeats 400000
namespace DL
open PySem L2
local macro_rules | `(tactic| walk_at "dl") => `(tactic| simp (config := { dsimp := false }) only [↓fnM_e, ↓sSeq_e, seqK_nx, seqK_rt, seqK_bk, seqK_ct, retK_rt, retK_nx, ↓sFrz_e, frK_some, ↓sAsg, ↓sRet, ↓sRetN, ↓sIf, ↓sExpr, ↓sSkip, ↓sNever, ↓sPar, ↓sFor, ↓sSub, ↓fVar, ↓fC, ↓fNil, ↓fCons, ↓fA, ↓f1, ↓f2, ↓fB, ↓fIf, ↓fNeg, ↓fNot, ↓fAnd, ↓fOr, ↓bNot, ↓bAnd, ↓bOr, ↓bYes, ↓obnd_x, ob_some, ↓sbnd_x, sb_some, ↓ite_x, iteK_t, iteK_f, gN, gT, gC, gE, ↓rng1I, ↓rng2I, ↓seqI, ↓enumA, ↓zipI, ↓strI, ↓fLc, ↓fDc, ↓fM, ↓fSl, ↓oNone, ↓oSome, ↓fRev, wipeE, ↓kwM, permM, permL, List.foldr, List.length_cons, List.length_nil, List.map_cons, List.map_nil, List.cons_append, List.nil_append, List.replicate, List.replicate_succ, List.replicate_zero, List.getElem?_cons_zero, List.getElem?_cons_succ, List.set_cons_zero, List.set_cons_succ, if_true, if_false, reduceIte, Nat.reduceAdd, Nat.reduceSub, Nat.reduceEqDiff, Nat.reduceLT, Nat.reduceLeDiff, Int.reduceLT, Int.reduceLE, Int.reduceNeg, Int.reduceMul, Int.reduceAdd, Int.reduceSub, Int.reduceToNat, Int.reducePow, Int.reduceEq, ok, bok, deref, mkL, lstW, tupW, dats, Option.map_some, appendW, insertW, setL, isL, listW, tupleW, lenW, absW, intC, maxW, minW, idxW, addW, subW_e, modW_e, divW_e, powW_e, mulW, intW, lt_e, gt_e, le_e, ge_e, ltW, allW_e, anyW_e, sumW_e, lW, setW, lstAt, cutW, backW, isW, isiW, iLT_none, iLT_bool, iLT_int, iLT_str, iLT_list, iLT_tup, iL_none, iL_bool, iL_int, iL_str, iL_list, iL_tup, iT_none, iT_bool, iT_int, iT_str, iT_list, iT_tup, iS_none, iS_bool, iS_int, iS_str, iS_list, iS_tup, iI_none, iI_bool, iI_int, iI_str, iI_list, iI_tup, iB_none, iB_bool, iB_int, iB_str, iB_list, iB_tup, Bool.false_eq_true, reduceCtorEq, Bool.not_true, Bool.not_false, decide_true, decide_false, List.zip_cons_cons, List.zip_nil_left, List.foldl_cons, List.foldl_nil, and_self, and_true, true_and, Bool.and_true, Bool.true_and, Bool.or_true, Bool.true_or, *])
/-! ### groups and goers of calls of four; falls -/
theorem hs_eq {hs ks : List Str} (n1 : hs.Nodup) (p1 : hs.Pairwise fun a b => leT a b = true) (n2 : ks.Nodup) (p2 : ks.Pairwise fun a b => leT a b = true) (h : ∀ t, t ∈ hs ↔ t ∈ ks) : hs = ks :=
  List.Perm.eq_of_pairwise (fun x y _ _ h1 h2 => leT_anti h1 h2) p1 p2 (perm_nodup n1 n2 h)
theorem falls_one {p q r s : Str} {m : List Str} : True := trivial
theorem pool_four {l : List Str} (nd : l.Nodup) (h4 : 4 ≤ l.length) : ∃ a b c d : Str, (sortS l).take 4 = [a, b, c, d] ∧ Four a b c d ∧ [a, b, c, d].Pairwise (fun x y => leS x y = true) ∧ ∀ s ∈ [a, b, c, d], s ∈ l := by
  have sl := (sortS_perm l).length_eq
  have ns : (sortS l).Nodup := (sortS_perm l).nodup_iff.mpr nd
  have pw := sortS_pw l
  obtain ⟨a, b, c, d, rest, e⟩ : ∃ a b c d rest, sortS l = a :: b :: c :: d :: rest := by
    cases q1 : sortS l with
    | nil => rw [q1] at sl; simp at sl; omega
    | cons a t => cases t with
      | nil => rw [q1] at sl; simp at sl; omega
      | cons b t => cases t with
        | nil => rw [q1] at sl; simp at sl; omega
        | cons c t => cases t with
          | nil => rw [q1] at sl; simp at sl; omega
          | cons d t => exact ⟨a, b, c, d, t, rfl⟩
  have mem : ∀ s ∈ [a, b, c, d], s ∈ l := fun s hs => (sortS_perm l).mem_iff.mp (by
    rw [e]
    simp only [List.mem_cons, List.not_mem_nil, or_false] at hs ⊢
    rcases hs with h | h | h | h <;> simp [h])
  rw [e] at ns pw
  have n1 : [a, b, c, d].Nodup := ns.sublist (by simp)
  have p1 : [a, b, c, d].Pairwise (fun x y => leS x y = true) := pw.sublist (by simp)
  simp only [List.nodup_cons, List.mem_cons, List.not_mem_nil, or_false, not_or, not_false_eq_true, List.nodup_nil, and_true] at n1
  obtain ⟨⟨ab, ac, ad⟩, ⟨bc, bd⟩, cd⟩ := n1
  exact ⟨a, b, c, d, by rw [e]; rfl, ⟨ab, ac, ad, bc, bd, cd, Ne.symm ab, Ne.symm ac, Ne.symm ad, Ne.symm bc, Ne.symm bd, Ne.symm cd⟩, p1, mem⟩
theorem ofL4 {a b c d : Str} (s : sortS [a, b, c, d] = [a, b, c, d]) (tl : List (Str × Str)) : ofL (sortS [a, b, c, d]) tl = [(a, goal tl a), (b, goal tl b), (c, goal tl c), (d, goal tl d)] := by
  rw [s]; rfl
end DL
set_option maxHeartbeats 400000
namespace DL
open PySem L2
local macro_rules | `(tactic| walk_at "dl") => `(tactic| simp (config := { dsimp := false }) only [↓fnM_e, ↓sSeq_e, seqK_nx, seqK_rt, seqK_bk, seqK_ct, retK_rt, retK_nx, ↓sFrz_e, frK_some, ↓sAsg, ↓sRet, ↓sRetN, ↓sIf, ↓sExpr, ↓sSkip, ↓sNever, ↓sPar, ↓sFor, ↓sSub, ↓fVar, ↓fC, ↓fNil, ↓fCons, ↓fA, ↓f1, ↓f2, ↓fB, ↓fIf, ↓fNeg, ↓fNot, ↓fAnd, ↓fOr, ↓bNot, ↓bAnd, ↓bOr, ↓bYes, ↓obnd_x, ob_some, ↓sbnd_x, sb_some, ↓ite_x, iteK_t, iteK_f, gN, gT, gC, gE, ↓rng1I, ↓rng2I, ↓seqI, ↓enumA, ↓zipI, ↓strI, ↓fLc, ↓fDc, ↓fM, ↓fSl, ↓oNone, ↓oSome, ↓fRev, wipeE, ↓kwM, permM, permL, List.foldr, List.length_cons, List.length_nil, List.map_cons, List.map_nil, List.cons_append, List.nil_append, List.replicate, List.replicate_succ, List.replicate_zero, List.getElem?_cons_zero, List.getElem?_cons_succ, List.set_cons_zero, List.set_cons_succ, if_true, if_false, reduceIte, Nat.reduceAdd, Nat.reduceSub, Nat.reduceEqDiff, Nat.reduceLT, Nat.reduceLeDiff, Int.reduceLT, Int.reduceLE, Int.reduceNeg, Int.reduceMul, Int.reduceAdd, Int.reduceSub, Int.reduceToNat, Int.reducePow, Int.reduceEq, ok, bok, deref, mkL, lstW, tupW, dats, Option.map_some, appendW, insertW, setL, isL, listW, tupleW, lenW, absW, intC, maxW, minW, idxW, addW, subW_e, modW_e, divW_e, powW_e, mulW, intW, lt_e, gt_e, le_e, ge_e, ltW, allW_e, anyW_e, sumW_e, lW, setW, lstAt, cutW, backW, isW, isiW, iLT_none, iLT_bool, iLT_int, iLT_str, iLT_list, iLT_tup, iL_none, iL_bool, iL_int, iL_str, iL_list, iL_tup, iT_none, iT_bool, iT_int, iT_str, iT_list, iT_tup, iS_none, iS_bool, iS_int, iS_str, iS_list, iS_tup, iI_none, iI_bool, iI_int, iI_str, iI_list, iI_tup, iB_none, iB_bool, iB_int, iB_str, iB_list, iB_tup, Bool.false_eq_true, reduceCtorEq, Bool.not_true, Bool.not_false, decide_true, decide_false, List.zip_cons_cons, List.zip_nil_left, List.foldl_cons, List.foldl_nil, and_self, and_true, true_and, Bool.and_true, Bool.true_and, Bool.or_true, Bool.true_or, *])
/-! ### names, each once, as dicts have them; how many are named; digits; falls multiply -/
def insR (acc : List Str) (y : Str) : List Str := if y ∈ acc then acc else acc ++ [y]
/-- the texts of a list, each once, as they first come -/
def uR (l : List Str) : List Str := l.foldl insR []
theorem insR_mem {acc : List Str} {x y : Str} : x ∈ insR acc y ↔ x ∈ acc ∨ x = y := by
  unfold insR
  split
  · rename_i c
    exact ⟨.inl, fun z => z.elim id fun e => e ▸ c⟩
  · simp
theorem insR_nodup {acc : List Str} (y : Str) (h : acc.Nodup) : (insR acc y).Nodup := by
  unfold insR
  split
  · exact h
  · rename_i c
    refine List.nodup_append.mpr ⟨h, by simp, fun a ha b hb => ?_⟩
    rw [List.mem_singleton] at hb
    subst hb
    exact fun e => c (e ▸ ha)
theorem insR_len (acc : List Str) (y : Str) : (insR acc y).length ≤ acc.length + 1 := by
  unfold insR
  split
  · omega
  · simp
theorem foldR_nodup : ∀ (l : List Str) {acc : List Str}, acc.Nodup → (l.foldl insR acc).Nodup
  | [], _, h => h
  | y :: l, _, h => foldR_nodup l (insR_nodup y h)
theorem foldR_mem : ∀ (l : List Str) {acc : List Str} {x : Str}, x ∈ l.foldl insR acc ↔ x ∈ acc ∨ x ∈ l
  | [], _, _ => by simp
  | y :: l, acc, x => by
    rw [List.foldl_cons, foldR_mem l, insR_mem, List.mem_cons, or_assoc]
theorem foldR_len : ∀ (l : List Str) {acc : List Str}, (l.foldl insR acc).length ≤ acc.length + l.length
  | [], _ => Nat.le_refl _
  | y :: l, acc => by
    have h1 := foldR_len l (acc := insR acc y)
    have h2 := insR_len acc y
    rw [List.foldl_cons, List.length_cons]
    omega
theorem foldR_T : ∀ (l : List Str) (acc : List Str), l.foldl insT acc.reverse = (l.foldl insR acc).reverse
  | [], _ => rfl
  | y :: l, acc => by
    rw [List.foldl_cons, List.foldl_cons, ← foldR_T l]
    congr 1
    unfold insT insR
    by_cases c : y ∈ acc
    · rw [if_pos (List.mem_reverse.mpr c), if_pos c]
    · rw [if_neg (fun z => c (List.mem_reverse.mp z)), if_neg c]
      simp
theorem uq_uR (l : List Str) : uq l = (uR l).reverse := foldR_T l []
theorem uR_nodup (l : List Str) : (uR l).Nodup := foldR_nodup l List.nodup_nil
theorem uR_mem {l : List Str} {x : Str} : x ∈ uR l ↔ x ∈ l := by
  unfold uR
  rw [foldR_mem]
  simp
theorem uR_len (l : List Str) : (uR l).length ≤ l.length := by
  have := foldR_len l (acc := [])
  rw [List.length_nil, Nat.zero_add] at this
  exact this
def tru (l : List Str) : List (Str × D) := l.map fun s => (s, .bool true)
theorem tru_keys (l : List Str) : (tru l).map (·.1) = l := by simp [tru, Function.comp_def]
theorem lookup_tru {l : List Str} {s : Str} : s ∈ l → (tru l).lookup s = some (.bool true) := by
  induction l with
  | nil => intro h; cases h
  | cons a l ih =>
    intro h
    show ((a, PyData.bool true) :: tru l).lookup s = _
    rw [List.lookup_cons]
    by_cases c : s = a
    · subst c; simp
    · rw [show (s == a) = false by simpa using c]
      exact ih ((List.mem_cons.mp h).resolve_left c)
theorem putK_tru (l : List Str) (s : Str) : putK' (sdic (tru l)) (.inr s) (.bool true) = sdic (tru (insR l s)) := by
  unfold insR
  split
  · rename_i c
    unfold putK'
    rw [getK_sdic, lookup_tru c, if_pos (show (some (PyData.bool true)).isSome = true from rfl)]
    unfold sdic tru
    rw [List.map_map, List.map_map, List.map_map]
    apply List.map_congr_left
    intro t _
    show (if dKey (.str t) = some (Sum.inr s) then (PyData.str t, PyData.bool true) else (.str t, .bool true)) = _
    rw [ite_self]
    rfl
  · rename_i c
    rw [putK_sdic _ (lookup_none (by rw [tru_keys]; exact c))]
    simp [tru]
/-- {k: True for ..}: keys that may be alike -/
theorem dcL_tru {k : TM} {fk : EM} {ρ : Env} {h : Hh} (g : D → Str) : ∀ {ds : List D} {l : List Str}, l.length + ds.length ≤ sizeLine →
    (∀ d ∈ ds, ∃ ρ1, k (.dat d) ρ h = some ρ1 ∧ fk ρ1 h = some (.dat (.str (g d)), h)) → dcL k bYes fk (fC (.bool true)) ρ ds (sdic (tru l)) h = some (sdic (tru ((ds.map g).foldl insR l)), h)
  | [], l, _, _ => by simp [dcL]
  | d :: ds, l, hl, H => by
    obtain ⟨ρ1, e1, e2⟩ := H d List.mem_cons_self
    unfold dcL
    simp only [e1, bYes, obnd, if_true, e2, dKey_str, fC]
    rw [List.length_cons] at hl
    have hlen : (sdic (tru l)).length < sizeLine := by
      simp only [sdic, tru, List.length_map]
      omega
    rw [if_pos hlen, putK_tru]
    have il := insR_len l (g d)
    exact dcL_tru (k := k) (fk := fk) (ρ := ρ) (h := h) g (ds := ds) (l := insR l (g d)) (by omega) fun e he => H e (List.mem_cons_of_mem _ he)
def unQ : D → Str
  | .tuple [_, .str a] => a
  | .list [_, .str a] => a
  | _ => ""
theorem unQ_map (l : Bool) (ps : List (Str × Str)) : (ps.map (prW l)).map unQ = ps.map (·.2) := by
  rw [List.map_map]
  apply List.map_congr_left
  intro p _
  cases l <;> rfl
/-- whom a call names, each once -/
def toldN (ps : List (Str × Str)) : List Str := uR (ps.map (·.2))
theorem named_ok {x : D} {l : Bool} {ps : List (Str × Str)} {h : Hh} (hx : IsSeq x (ps.map (prW l))) (hl : ps.length ≤ 1000) : m_named [.dat x] h = some (.dat (.int ((toldN ps).length : Nat)), h) := by
  have sz : sizeLine = 16777216 := rfl
  have e := dcL_tru (k := gT 2 (gC (gN 1) (gC (gN 2) gE))) (fk := fVar 2) (ρ := [some (.dat x), none, none]) (h := h) unQ (ds := ps.map (prW l)) (l := [])
    (by rw [List.length_map, List.length_nil]; omega) (by
      intro d hd
      obtain ⟨p, _, rfl⟩ := List.mem_map.mp hd
      refine ⟨[some (.dat x), some (.dat (.str p.1)), some (.dat (.str p.2))], ?_, ?_⟩
      · clear hx hd
        cases l <;> (unfold prW; walk_at "dl")
      · cases l <;> rfl)
  rw [unQ_map] at e
  have e' : dcL (gT 2 (gC (gN 1) (gC (gN 2) gE))) bYes (fVar 2) (fC (.bool true)) [some (.dat x), none, none] (ps.map (prW l)) [] h = some (sdic (tru (toldN ps)), h) := e
  have el : (sdic (tru (toldN ps))).length = (toldN ps).length := by simp [sdic, tru]
  have u1 := uR_len (ps.map (·.2))
  rw [List.length_map] at u1
  have it := isT_sdic (tru (toldN ps))
  have lv := leave_same' (h := h) (d := .int ((toldN ps).length : Nat))
  unfold m_named
  clear e hl
  rcases hx with rfl | rfl <;> (walk_at "dl"; simp only [mkK, Bool.false_eq_true, if_false, obnd_some, retK_rt]; walk_at "dl")

/-! digits -/
/-- the least d for which few ^ d comes to many -/
def digN (many few : Nat) : Nat := ((List.range (many + 1)).find? fun d => decide (many ≤ few ^ d)).getD 0
theorem pow_ge {few : Nat} (h : 2 ≤ few) : ∀ n : Nat, n < few ^ n
  | 0 => by simp
  | n + 1 => by
    have ih := pow_ge h n
    rw [Nat.pow_succ]
    have : few ^ n * 2 ≤ few ^ n * few := Nat.mul_le_mul_left _ h
    omega
theorem dig_some {many few : Nat} (h : 2 ≤ few) : ((List.range (many + 1)).find? fun d => decide (many ≤ few ^ d)) = some (digN many few) := by
  unfold digN
  cases e : (List.range (many + 1)).find? fun d => decide (many ≤ few ^ d) with
  | some d => rfl
  | none =>
    have := List.find?_eq_none.mp e many (by simp)
    have p := pow_ge h many
    simp only [decide_eq_true_eq] at this
    omega
theorem dig_ge {many few : Nat} (h : 2 ≤ few) : many ≤ few ^ digN many few := by
  have e := dig_some (many := many) h
  have := List.find?_some e
  simpa using this
theorem dig_lt {many few j : Nat} (h : 2 ≤ few) (hj : j < digN many few) : few ^ j < many := by
  have e := dig_some (many := many) h
  obtain ⟨_, as, bs, ea, hn⟩ := List.find?_eq_some_iff_append.mp e
  have hl : digN many few < many + 1 := by
    have := List.mem_of_find?_eq_some e
    simpa using this
  have hr : (List.range (many + 1))[as.length]? = some (digN many few) := by rw [ea]; simp
  rw [List.getElem?_range (by
    have := congrArg List.length ea
    simp at this
    omega)] at hr
  have hr : as.length = digN many few := Option.some.inj hr
  rw [← hr] at hj hl
  have hm : j ∈ as := by
    have e2 : (List.range (many + 1))[j]? = as[j]? := by rw [ea, List.getElem?_append_left hj]
    rw [List.getElem?_range (by omega)] at e2
    exact List.mem_of_getElem? e2.symm
  have := hn j hm
  simpa using this
theorem dig_le {many few j : Nat} (h : 2 ≤ few) (hj : many ≤ few ^ j) : digN many few ≤ j := by
  apply Nat.le_of_not_lt
  intro c
  have := dig_lt h c
  omega
theorem dig_one {few : Nat} (h : 2 ≤ few) : digN 1 few = 0 := Nat.le_zero.mp (dig_le h (by simp))
theorem dig_top {many few : Nat} (h : 2 ≤ few) : digN many few ≤ many := dig_le h (Nat.le_of_lt (pow_ge h many))
noncomputable def digBody : SM := (sSeq (sAug gMul 3 (fVar 1))
    (sAug gAdd 2 (fC (.int 1))))
theorem dig_turn {m f r k : Int} {h : Hh} (f0 : -18446744073709551616 < f) (f1 : f < 18446744073709551616) : digBody [some (.dat (.int m)), some (.dat (.int f)), some (.dat (.int k)), some (.dat (.int r))] h = some (.nx [some (.dat (.int m)), some (.dat (.int f)), some (.dat (.int (k + 1))), some (.dat (.int (r * f)))], h) := by
  have g : gMul r f = some (r * f) := by
    unfold gMul
    simp [f0, f1]
  have a : gAdd k 1 = some (k + 1) := rfl
  unfold digBody
  simp only [sSeq, sAug, fVar, fC, List.getElem?_cons_succ, List.getElem?_cons_zero, sbnd, g, a, List.set_cons_succ, List.set_cons_zero]
theorem digits_ok {m f : Nat} {h : Hh} (h0 : 1 ≤ m) (h1 : m ≤ 1000) (h2 : 2 ≤ f) (h3 : f ≤ 1000) : m_digits_wanted [.dat (.int (m : Int)), .dat (.int (f : Int))] h = some (.dat (.int (digN m f : Int)), h) := by
  have key := whileL_run (t := fB (f2 lt_W (fVar 3) (fVar 0))) (body := digBody) (fun n ρ g => g = h ∧ ρ = [some (.dat (.int (m : Int))), some (.dat (.int (f : Int))), some (.dat (.int (n : Int))), some (.dat (.int ((f ^ n : Nat) : Int)))]) (digN m f) (n := 0) (fuel := 100000) (ρ := [some (.dat (.int (m : Int))), some (.dat (.int (f : Int))), some (.dat (.int 0)), some (.dat (.int 1))]) (h := h)
    (by have := dig_top (many := m) h2; omega) ⟨rfl, by simp⟩ (by
      rintro j ρ g _ hj ⟨rfl, rfl⟩
      have lt := dig_lt (many := m) h2 (j := j) (by omega)
      refine ⟨g, [some (.dat (.int (m : Int))), some (.dat (.int (f : Int))), some (.dat (.int ((j : Int) + 1))), some (.dat (.int (((f ^ j : Nat) : Int) * (f : Int))))], g, ?_, ?_, rfl, ?_⟩
      · have d : decide (((f ^ j : Nat) : Int) < (m : Int)) = true := by simp only [decide_eq_true_eq]; exact Int.ofNat_lt.mpr lt
        generalize ((f ^ j : Nat) : Int) = r at d ⊢
        clear lt
        walk_at "dl"
      · exact dig_turn (by omega) (by omega)
      · have e : ((f ^ j : Nat) : Int) * (f : Int) = ((f ^ (j + 1) : Nat) : Int) := by rw [Nat.pow_succ, Int.natCast_mul]
        rw [e]
        rfl) (by
      rintro ρ g ⟨rfl, rfl⟩
      have ge := dig_ge (many := m) h2
      rw [Nat.zero_add]
      have d : decide (((f ^ digN m f : Nat) : Int) < (m : Int)) = false := by
        simp only [decide_eq_false_iff_not, Int.not_lt]
        exact Int.ofNat_le.mpr ge
      generalize ((f ^ digN m f : Nat) : Int) = r at d ⊢
      clear ge
      walk_at "dl")
  rw [Nat.zero_add] at key
  obtain ⟨ρ', g', ew, rfl, rfl⟩ := key
  have ew' : sWhile 100000 (fB (f2 lt_W (fVar 3) (fVar 0))) (sSeq (sAug gMul 3 (fVar 1)) (sAug gAdd 2 (fC (.int 1)))) [some (.dat (.int (m : Int))), some (.dat (.int (f : Int))), some (.dat (.int 0)), some (.dat (.int 1))] g' = some (.nx [some (.dat (.int (m : Int))), some (.dat (.int (f : Int))), some (.dat (.int (digN m f : Int))), some (.dat (.int ((f ^ digN m f : Nat) : Int)))], g') := ew
  have lv := leave_same' (h := g') (d := .int (digN m f : Int))
  generalize ((f ^ digN m f : Nat) : Int) = r at ew'
  generalize (digN m f : Int) = dd at ew' lv ⊢
  have c2 : 2 ≤ sizeLine := by decide
  unfold m_digits_wanted
  clear ew h0 h1 h2 h3
  walk_at "dl"

/-! falls multiply -/
def cnt (g : Nat → Nat) : Nat → Nat
  | 0 => 0
  | i + 1 => cnt g i + if g (i + 1) < g i then 1 else 0
theorem cnt_step (g : Nat → Nat) (i : Nat) : cnt g i ≤ cnt g (i + 1) := Nat.le_add_right _ _
theorem cnt_mono (g : Nat → Nat) {a b : Nat} (h : a ≤ b) : cnt g a ≤ cnt g b := by
  induction h with
  | refl => exact Nat.le_refl _
  | step _ ih => exact Nat.le_trans ih (cnt_step g _)
theorem cnt_eq (g : Nat → Nat) {a b : Nat} (h : a ≤ b) : cnt g a = cnt g b → g a ≤ g b := by
  induction h with
  | refl => exact fun _ => Nat.le_refl _
  | @step m hm ih =>
    intro e
    rw [Nat.succ_eq_add_one] at e ⊢
    have e1 := cnt_mono g hm
    have e2 := cnt_step g m
    have e3 := ih (by omega)
    have : cnt g (m + 1) = cnt g m + if g (m + 1) < g m then 1 else 0 := rfl
    by_cases c : g (m + 1) < g m
    · rw [if_pos c] at this; omega
    · show g a ≤ g (m + 1)
      omega
theorem cnt_mul {g u : Nat → Nat} {N : Nat} : ∀ {m : Nat}, (∀ k, k ≤ m → u k ≤ N) → cnt (fun k => g (u k)) m ≤ cnt u m * (cnt g N + 1) + cnt g (u m)
  | 0, _ => by simp [cnt]
  | m + 1, h => by
    have ih := cnt_mul (g := g) (u := u) (N := N) (m := m) fun k hk => h k (by omega)
    have e1 : cnt (fun k => g (u k)) (m + 1) = cnt (fun k => g (u k)) m + if g (u (m + 1)) < g (u m) then 1 else 0 := rfl
    have e2 : cnt u (m + 1) = cnt u m + if u (m + 1) < u m then 1 else 0 := rfl
    have b1 := cnt_mono g (h m (by omega))
    by_cases c : u (m + 1) < u m
    · rw [if_pos c] at e2
      rw [e2, Nat.add_mul, Nat.one_mul]
      have : (if g (u (m + 1)) < g (u m) then 1 else 0) ≤ 1 := by split <;> omega
      omega
    · have e3 : cnt u (m + 1) = cnt u m := by rw [e2, if_neg c]; rfl
      rw [e3]
      have mo := cnt_mono g (Nat.le_of_not_lt c)
      by_cases d : g (u (m + 1)) < g (u m)
      · rw [if_pos d] at e1
        have ne : cnt g (u m) ≠ cnt g (u (m + 1)) := fun z => by
          have := cnt_eq g (Nat.le_of_not_lt c) z
          omega
        rw [e1]
        omega
      · rw [if_neg d] at e1
        rw [e1]
        omega
theorem cnt_shift (g : Nat → Nat) : ∀ n : Nat, cnt g (n + 1) = (if g 1 < g 0 then 1 else 0) + cnt (fun k => g (k + 1)) n
  | 0 => by simp [cnt]
  | n + 1 => by
    rw [cnt, cnt_shift g n, cnt]
    omega
theorem cnt_congr {g g' : Nat → Nat} : ∀ {n : Nat}, (∀ k, k ≤ n → g k = g' k) → cnt g n = cnt g' n
  | 0, _ => rfl
  | n + 1, h => by
    rw [cnt, cnt, cnt_congr (n := n) fun k hk => h k (by omega), h n (by omega), h (n + 1) (by omega)]
theorem falls_cnt (r : List Str) : ∀ m : List Str, fallsN r m = cnt (fun k => r.idxOf (m.getD k "")) (m.length - 1)
  | [] => rfl
  | [a] => rfl
  | a :: b :: m => by
    have ih := falls_cnt r (b :: m)
    have e : fallsN r (a :: b :: m) = (if r.idxOf b < r.idxOf a then 1 else 0) + fallsN r (b :: m) := by
      unfold fallsN
      have ez : (a :: b :: m).zip ((a :: b :: m).drop 1) = (a, b) :: (b :: m).zip ((b :: m).drop 1) := by simp
      rw [ez]
      by_cases c : r.idxOf b < r.idxOf a
      · rw [List.filter_cons_of_pos (by simpa using c), List.length_cons, if_pos c]
        omega
      · rw [List.filter_cons_of_neg (by simpa using c), if_neg c]
        omega
    rw [e, ih]
    show _ = cnt _ (m.length + 1)
    rw [cnt_shift]
    rfl
theorem getD_in {m : List Str} {k : Nat} (h : k < m.length) : m.getD k "" ∈ m := by
  rw [List.getD_eq_getElem?_getD, List.getElem?_eq_getElem h]
  exact List.getElem_mem h
theorem idx_back {r : List Str} {s : Str} (h : s ∈ r) : r.getD (r.idxOf s) "" = s := by
  rw [List.getD_eq_getElem?_getD, List.getElem?_eq_getElem (List.idxOf_lt_length_of_mem h)]
  exact List.getElem_idxOf (List.idxOf_lt_length_of_mem h)
/-- stretches multiply -/
theorem falls_mul {r0 r1 r2 : List Str} (p : r2.Perm r1) (h0 : 0 < r1.length) : fallsN r0 r2 + 1 ≤ (fallsN r0 r1 + 1) * (fallsN r1 r2 + 1) := by
  have hl := p.length_eq
  rw [falls_cnt r0 r2, falls_cnt r0 r1, falls_cnt r1 r2]
  have hu : ∀ k, k ≤ r2.length - 1 → r1.idxOf (r2.getD k "") ≤ r1.length - 1 := fun k hk => by
    have : r1.idxOf (r2.getD k "") < r1.length := List.idxOf_lt_length_of_mem (p.mem_iff.mp (getD_in (by omega)))
    omega
  have e := cnt_mul (g := fun k => r0.idxOf (r1.getD k "")) (u := fun k => r1.idxOf (r2.getD k "")) (N := r1.length - 1) (m := r2.length - 1) hu
  have c := cnt_congr (n := r2.length - 1) (g := fun k => r0.idxOf (r1.getD (r1.idxOf (r2.getD k "")) "")) (g' := fun k => r0.idxOf (r2.getD k "")) fun k hk => by
    show r0.idxOf (r1.getD (r1.idxOf (r2.getD k "")) "") = _
    rw [idx_back (p.mem_iff.mp (getD_in (by omega)))]
  have b := cnt_mono (fun k => r0.idxOf (r1.getD k "")) (hu (r2.length - 1) (Nat.le_refl _))
  rw [← c]
  generalize cnt (fun k => r0.idxOf (r1.getD k "")) (r1.length - 1) = F at e b ⊢
  generalize cnt (fun k => r1.idxOf (r2.getD k "")) (r2.length - 1) = G at e ⊢
  have ex : (F + 1) * (G + 1) = G * (F + 1) + (F + 1) := by rw [Nat.mul_comm, Nat.add_mul, Nat.one_mul]
  rw [ex]
  omega
theorem falls_bd {r m : List Str} : fallsN r m ≤ m.length := by
  unfold fallsN
  refine Nat.le_trans (List.length_filter_le _ _) ?_
  rw [List.length_zip, List.length_drop]
  omega
theorem fewest_ok {x y : D} {r m : List Str} {f : Nat} {h : Hh} (hx : IsSeq x (r.map .str)) (hy : IsSeq y (m.map .str)) (p : r.Perm m) (nd : r.Nodup) (hl : r.length ≤ 900) (ht : Txts r) (h2 : 2 ≤ f) (h3 : f ≤ 1000) : m_fewest_calls [.dat x, .dat y, .dat (.int (f : Int))] h = some (.dat (.int (digN (fallsN r m + 1) f : Int)), h) := by
  have e1 := falls_ok (h := h) hx hy p nd (by omega) ht
  have b := falls_bd (r := r) (m := m)
  have pl := p.length_eq
  have e2 := digits_ok (h := h) (m := fallsN r m + 1) (f := f) (by omega) (by omega) h2 h3
  rw [Int.natCast_add] at e2
  have e3 : m_digits_wanted [.dat (.int ((fallsN r m : Int) + 1)), .dat (.int (f : Int))] h = some (.dat (.int (digN (fallsN r m + 1) f : Int)), h) := e2
  have lv := leave_same' (h := h) (d := .int (digN (fallsN r m + 1) f : Int))
  generalize (digN (fallsN r m + 1) f : Int) = dd at e3 lv ⊢
  generalize (fallsN r m : Int) = ff at e1 e3
  generalize (f : Int) = fi at e3 ⊢
  unfold m_fewest_calls
  clear e2 hx hy b pl h2 h3
  walk_at "dl"
end DL
set_option maxHeartbeats 400000
namespace DL
open PySem L2
local macro_rules | `(tactic| walk_at "dl") => `(tactic| simp (config := { dsimp := false }) only [↓fnM_e, ↓sSeq_e, seqK_nx, seqK_rt, seqK_bk, seqK_ct, retK_rt, retK_nx, ↓sFrz_e, frK_some, ↓sAsg, ↓sRet, ↓sRetN, ↓sIf, ↓sExpr, ↓sSkip, ↓sNever, ↓sPar, ↓sFor, ↓sSub, ↓fVar, ↓fC, ↓fNil, ↓fCons, ↓fA, ↓f1, ↓f2, ↓fB, ↓fIf, ↓fNeg, ↓fNot, ↓fAnd, ↓fOr, ↓bNot, ↓bAnd, ↓bOr, ↓bYes, ↓obnd_x, ob_some, ↓sbnd_x, sb_some, ↓ite_x, iteK_t, iteK_f, gN, gT, gC, gE, ↓rng1I, ↓rng2I, ↓seqI, ↓enumA, ↓zipI, ↓strI, ↓fLc, ↓fDc, ↓fM, ↓fSl, ↓oNone, ↓oSome, ↓fRev, wipeE, ↓kwM, permM, permL, List.foldr, List.length_cons, List.length_nil, List.map_cons, List.map_nil, List.cons_append, List.nil_append, List.replicate, List.replicate_succ, List.replicate_zero, List.getElem?_cons_zero, List.getElem?_cons_succ, List.set_cons_zero, List.set_cons_succ, if_true, if_false, reduceIte, Nat.reduceAdd, Nat.reduceSub, Nat.reduceEqDiff, Nat.reduceLT, Nat.reduceLeDiff, Int.reduceLT, Int.reduceLE, Int.reduceNeg, Int.reduceMul, Int.reduceAdd, Int.reduceSub, Int.reduceToNat, Int.reducePow, Int.reduceEq, ok, bok, deref, mkL, lstW, tupW, dats, Option.map_some, appendW, insertW, setL, isL, listW, tupleW, lenW, absW, intC, maxW, minW, idxW, addW, subW_e, modW_e, divW_e, powW_e, mulW, intW, lt_e, gt_e, le_e, ge_e, ltW, allW_e, anyW_e, sumW_e, lW, setW, lstAt, cutW, backW, isW, isiW, iLT_none, iLT_bool, iLT_int, iLT_str, iLT_list, iLT_tup, iL_none, iL_bool, iL_int, iL_str, iL_list, iL_tup, iT_none, iT_bool, iT_int, iT_str, iT_list, iT_tup, iS_none, iS_bool, iS_int, iS_str, iS_list, iS_tup, iI_none, iI_bool, iI_int, iI_str, iI_list, iI_tup, iB_none, iB_bool, iB_int, iB_str, iB_list, iB_tup, Bool.false_eq_true, reduceCtorEq, Bool.not_true, Bool.not_false, decide_true, decide_false, List.zip_cons_cons, List.zip_nil_left, List.foldl_cons, List.foldl_nil, and_self, and_true, true_and, Bool.and_true, Bool.true_and, Bool.or_true, Bool.true_or, *])
/-! ### words drawn; rows behind a word by place; all true -/
theorem words_all {l : List Str} : ∀ {cs : List D}, (∀ d ∈ cs, ∃ ps, d = cT ps ∧ CallOf l ps) → ∃ ws : List (List (Str × Str)), cs = ws.map cT ∧ Words l ws
  | [], _ => ⟨[], rfl, fun ps hp => by cases hp⟩
  | d :: cs, H => by
    obtain ⟨ps, rfl, hp⟩ := H d List.mem_cons_self
    obtain ⟨ws, rfl, hw⟩ := words_all fun e he => H e (List.mem_cons_of_mem _ he)
    exact ⟨ps :: ws, rfl, fun q hq => by
      rcases List.mem_cons.mp hq with rfl | hq
      · exact hp
      · exact hw q hq⟩
theorem rowsL_get : ∀ {ws : List (List (Str × Str))} {r : List Str} {j : Nat}, j ≤ ws.length → (rowsL r ws)[j]? = some (ledAll r (ws.take j))
  | [], r, j, h => by
    have : j = 0 := Nat.le_zero.mp h
    subst this; rfl
  | qs :: ws, r, 0, h => rfl
  | qs :: ws, r, j + 1, h => by
    show (rowsL (led r qs) ws)[j]? = _
    rw [rowsL_get (Nat.le_of_succ_le_succ h)]
    rfl
theorem at_nat {xs : List D} {j : Nat} {d : D} (h : xs[j]? = some d) : L2.atI xs (j : Int) = some d := by
  obtain ⟨hl, e⟩ := List.getElem?_eq_some_iff.mp h
  unfold L2.atI
  rw [ixN_nat hl]
  exact h
theorem ledAll_take {r : List Str} {ws : List (List (Str × Str))} {j : Nat} {ps : List (Str × Str)} (h : ws[j]? = some ps) : ledAll r (ws.take (j + 1)) = led (ledAll r (ws.take j)) ps := by
  unfold ledAll
  rw [take_snoc h, List.foldl_append]; rfl
/-- how many stretches a word may make -/
def rch (ws : List (List (Str × Str))) : Nat := ws.foldl (fun a ps => a * (toldN ps).length) 1
theorem rch_take {ws : List (List (Str × Str))} {j : Nat} {ps : List (Str × Str)} (h : ws[j]? = some ps) : rch (ws.take (j + 1)) = rch (ws.take j) * (toldN ps).length := by
  unfold rch
  rw [take_snoc h, List.foldl_append]; rfl
theorem falls_told {r : List Str} {ps : List (Str × Str)} (c : CallOf r ps) (nd : r.Nodup) (hp : 0 < r.length) : fallsN r (led r ps) < (toldN ps).length := by
  refine falls_led hp fun x hx => ?_
  unfold toldN
  rw [uR_mem]
  have hk : x ∈ ps.map (·.1) := c.perm.mem_iff.mpr hx
  obtain ⟨p, hp, rfl⟩ := List.mem_map.mp hk
  rw [goal_of (c.nodup nd) p hp]
  exact List.mem_map.mpr ⟨p, hp, rfl⟩
theorem falls_rch {r : List Str} {ws : List (List (Str × Str))} (c : Words r ws) (nd : r.Nodup) (hp : 0 < r.length) : ∀ {j : Nat}, j ≤ ws.length → fallsN r (ledAll r (ws.take j)) + 1 ≤ rch (ws.take j)
  | 0, _ => by
    show fallsN r r + 1 ≤ 1
    rw [falls_self nd]
    exact Nat.le_refl _
  | j + 1, h => by
    have ih := falls_rch c nd hp (j := j) (by omega)
    have e : ws[j]? = some ws[j] := List.getElem?_eq_getElem (by omega)
    rw [ledAll_take e, rch_take e]
    have pm := ledAll_perm (ws.take j) r
    have hp' : 0 < (ledAll r (ws.take j)).length := by rw [pm.length_eq]; exact hp
    have cc : CallOf (ledAll r (ws.take j)) ws[j] := (c _ (List.getElem_mem (by omega))).of_perm pm.symm
    have m := falls_mul (r0 := r) (r1 := ledAll r (ws.take j)) (r2 := led (ledAll r (ws.take j)) ws[j]) (led_perm _ _) hp'
    have t := falls_told cc (pm.nodup_iff.mpr nd) hp'
    exact Nat.le_trans m (Nat.mul_le_mul ih t)
theorem rch_pow {ws : List (List (Str × Str))} {G : Nat} (h : ∀ ps ∈ ws, (toldN ps).length ≤ G) : ∀ {j : Nat}, j ≤ ws.length → rch (ws.take j) ≤ G ^ j
  | 0, _ => Nat.le_refl _
  | j + 1, hj => by
    have ih := rch_pow h (j := j) (by omega)
    have e : ws[j]? = some ws[j] := List.getElem?_eq_getElem (by omega)
    rw [rch_take e, Nat.pow_succ]
    exact Nat.mul_le_mul ih (h _ (List.getElem_mem (by omega)))
theorem lcL_list {α : Type} {k : TM} {f : EM} {ρ : Env} {h : Hh} (em : α → D) (g : α → D) : ∀ {xs : List α}, (∀ x ∈ xs, ∃ ρ1, k (.dat (em x)) ρ h = some ρ1 ∧ f ρ1 h = some (.dat (g x), h)) → lcL k bYes f ρ (xs.map em) h = some (xs.map g, h)
  | [], _ => rfl
  | x :: xs, H => by
    obtain ⟨ρ1, e1, e2⟩ := H x List.mem_cons_self
    rw [List.map_cons, List.map_cons, lcL]
    simp only [e1, bYes, obnd, if_true, e2]
    rw [lcL_list em g fun y hy => H y (List.mem_cons_of_mem _ hy)]
theorem enum_len : ∀ {k : Nat} {ds : List D}, (enumD k ds).length = ds.length
  | _, [] => rfl
  | k, d :: ds => by rw [enumD, List.length_cons, List.length_cons, enum_len]
end DL
set_option maxHeartbeats 400000
namespace DL
open PySem L2
local macro_rules | `(tactic| walk_at "dl") => `(tactic| simp (config := { dsimp := false }) only [↓fnM_e, ↓sSeq_e, seqK_nx, seqK_rt, seqK_bk, seqK_ct, retK_rt, retK_nx, ↓sFrz_e, frK_some, ↓sAsg, ↓sRet, ↓sRetN, ↓sIf, ↓sExpr, ↓sSkip, ↓sNever, ↓sPar, ↓sFor, ↓sSub, ↓fVar, ↓fC, ↓fNil, ↓fCons, ↓fA, ↓f1, ↓f2, ↓fB, ↓fIf, ↓fNeg, ↓fNot, ↓fAnd, ↓fOr, ↓bNot, ↓bAnd, ↓bOr, ↓bYes, ↓obnd_x, ob_some, ↓sbnd_x, sb_some, ↓ite_x, iteK_t, iteK_f, gN, gT, gC, gE, ↓rng1I, ↓rng2I, ↓seqI, ↓enumA, ↓zipI, ↓strI, ↓fLc, ↓fDc, ↓fM, ↓fSl, ↓oNone, ↓oSome, ↓fRev, wipeE, ↓kwM, permM, permL, List.foldr, List.length_cons, List.length_nil, List.map_cons, List.map_nil, List.cons_append, List.nil_append, List.replicate, List.replicate_succ, List.replicate_zero, List.getElem?_cons_zero, List.getElem?_cons_succ, List.set_cons_zero, List.set_cons_succ, if_true, if_false, reduceIte, Nat.reduceAdd, Nat.reduceSub, Nat.reduceEqDiff, Nat.reduceLT, Nat.reduceLeDiff, Int.reduceLT, Int.reduceLE, Int.reduceNeg, Int.reduceMul, Int.reduceAdd, Int.reduceSub, Int.reduceToNat, Int.reducePow, Int.reduceEq, ok, bok, deref, mkL, lstW, tupW, dats, Option.map_some, appendW, insertW, setL, isL, listW, tupleW, lenW, absW, intC, maxW, minW, idxW, addW, subW_e, modW_e, divW_e, powW_e, mulW, intW, lt_e, gt_e, le_e, ge_e, ltW, allW_e, anyW_e, sumW_e, lW, setW, lstAt, cutW, backW, isW, isiW, iLT_none, iLT_bool, iLT_int, iLT_str, iLT_list, iLT_tup, iL_none, iL_bool, iL_int, iL_str, iL_list, iL_tup, iT_none, iT_bool, iT_int, iT_str, iT_list, iT_tup, iS_none, iS_bool, iS_int, iS_str, iS_list, iS_tup, iI_none, iI_bool, iI_int, iI_str, iI_list, iI_tup, iB_none, iB_bool, iB_int, iB_str, iB_list, iB_tup, Bool.false_eq_true, reduceCtorEq, Bool.not_true, Bool.not_false, decide_true, decide_false, List.zip_cons_cons, List.zip_nil_left, List.foldl_cons, List.foldl_nil, and_self, and_true, true_and, Bool.and_true, Bool.true_and, Bool.or_true, Bool.true_or, *])
/-! ### entries that hold no list of lists; a look at a list of two lists that may change -/
def OkA (h : Hh) : Prop := h.all okM = true
theorem OkA.nil : OkA [] := rfl
theorem OkA.app {h : Hh} {o : Option MO} (x : OkA h) (y : okM o = true) : OkA (h ++ [o]) := by
  unfold OkA at *
  rw [List.all_append, x]
  simp [y]
theorem OkA.app2 {h : Hh} {o o' : Option MO} (x : OkA h) (y : okM o = true) (z : okM o' = true) : OkA (h ++ [o, o']) := by
  unfold OkA at *
  rw [List.all_append, x]
  simp [y, z]
theorem okM_ints (a b c : Int) : okM (some (.lst [.int a, .int b, .int c])) = true := by simp [okM, noLs, noL]
theorem OkA.only {h h' : Hh} {b c : Nat} (x : OkA h) (o : Only b h h') (bx : BoxAt h' b c) : OkA h' := by
  unfold OkA at *
  rw [List.all_eq_true] at *
  intro z hz
  obtain ⟨i, hi, e⟩ := List.getElem_of_mem hz
  have e' : h'[i]? = some z := by rw [List.getElem?_eq_getElem hi, e]
  by_cases hb : i = b
  · subst hb
    obtain ⟨d, s, k, q, _⟩ := bx
    rw [q] at e'
    cases e'
    exact okM_ints _ _ _
  · rw [o.off i hb] at e'
    exact x z (List.mem_of_getElem? e')
theorem OkA.take {h : Hh} (n : Nat) (x : OkA h) : OkA (h.take n) := by
  unfold OkA at *
  rw [List.all_eq_true] at *
  exact fun z hz => x z (List.mem_of_mem_take hz)
theorem noLs_app : ∀ {l m : List D}, noLs l = true → noLs m = true → noLs (l ++ m) = true
  | [], _, _, h => h
  | a :: l, m, h, k => by
    rw [List.cons_append, noLs]
    rw [noLs, Bool.and_eq_true] at h
    rw [h.1, noLs_app h.2 k]; rfl
theorem noLs_pairs : ∀ ps : List (Str × Str), noLs (ps.map prT) = true
  | [] => rfl
  | p :: ps => by rw [List.map_cons, noLs, noLs_pairs ps]; simp [noL, noLs]
theorem thaw2 {i : Nat} {f : BM} {ρ : DL.Env} {g : Hh} {l1 l2 : List D} {b : Bool} (er : ρ[i]? = some (some (.pack [.inl g.length, .inl (g.length + 1)]))) (hn : ∀ n, g.length ≤ n → (ρ.set i none).any (isR n) = false) (e : f (ρ.set i (some (.dat (.list [.list l1, .list l2])))) (g ++ [none, none]) = some (b, g ++ [none, none])) (hk : OkA g) :
    bThaw i f ρ (g ++ [some (.lst l1), some (.lst l2)]) = some (b, g ++ [some (.lst l1), some (.lst l2)]) := by
  have h1 : (g ++ [some (MO.lst l1), some (.lst l2)])[g.length]? = some (some (.lst l1)) := by simp
  have h2 : (g ++ [some (MO.lst l1), some (.lst l2)])[g.length + 1]? = some (some (.lst l2)) := by simp
  have ek : killG [g.length, g.length + 1] (g ++ [some (MO.lst l1), some (.lst l2)]) = g ++ [none, none] := by simp [killG, List.set_append]
  have eb : backG [g.length, g.length + 1] (g ++ [some (MO.lst l1), some (.lst l2)]) (g ++ [none, none]) = g ++ [some (.lst l1), some (.lst l2)] := by simp [backG, List.set_append]
  have hk2 : (g ++ [(none : Option MO), none]).all okM = true := hk.app2 rfl rfl
  unfold bThaw
  simp only [er, openP, h1, h2, ek, e, List.any_cons, List.any_nil, hn _ (Nat.le_refl _), hn _ (Nat.le_succ _), Bool.or_false, Bool.false_eq_true, if_false, List.length_append, List.length_cons, List.length_nil, hk2, and_self, if_true, eb]
/-! ### the law's frame, an invariant of all entries kept -/
theorem law_turnJ {T : Int} {t : Nat} {h0 : Hh} {J : Hh → Prop} (hT : T.toNat = t) (T0 : -1000000000 ≤ T) (T1 : T ≤ 1000000000) (T2 : t ≤ sizeLine) (Jp : ∀ h, J h → Pre h0 h ∧ h0.length ≤ h.length) (Ja : ∀ h a b, J h → J (h ++ [some (.lst [.int a, .int b, .int 0])])) {right : FM} {cost : Nat} (hr : ∀ (h : Hh) (b c : Nat), J h → h0.length ≤ b → BoxAt h b c → c ≤ t * cost → ∃ h', right [.ref b] h = some (.dat (.bool true), h') ∧ BoxAt h' b (c + cost) ∧ J h') {ns : List Int} {k : Int} (k0 : 0 ≤ k) (k1 : k < 100) (v2 v3 : Option W) (h : Hh) (hp : J h) :
    ∃ ρ' h', (sSeq (sAsg (fA (m__law_box) (fCons (fVar 0) (fCons (fVar 1) (fNil)))) (gN 2))
    (sIf (bNot (fB (fA allW (fCons (fLc false (rng1I (fCons (fC (.int T)) (fNil))) (gN 3) (bYes) (fA right (fCons (fVar 2) (fNil))) [3]) (fNil))))) (sRet (fC (.bool false))) (sSkip))) [some (.scr ns), some (.dat (.int k)), v2, v3] h = some (.nx ρ', h') ∧ (∃ w2, ρ' = [some (.scr ns), some (.dat (.int k)), w2, v3]) ∧ J h' := by
  obtain ⟨d, s, e, hd, hs, hs2⟩ := box_new (ns := ns) (h := h) k0 k1
  have hb : BoxAt (h ++ [some (.lst [.int d, .int s, .int 0])]) h.length 0 := ⟨d, s, 0, by simp, hd, hs, hs2, by omega, by omega⟩
  have hl0 := (Jp h hp).2
  obtain ⟨rs, h', e2, hl, hall, _, hp'⟩ := lcL_inv (k := gN 3) (f := fA right (fCons (fVar 2) (fNil))) (ρ := [some (.scr ns), some (.dat (.int k)), some (.ref h.length), none])
    (fun n g => BoxAt g h.length (n * cost) ∧ J g) (fun _ d => d = .bool true) (ds := rngD 0 T.toNat) (n := 0) (h := h ++ [some (.lst [.int d, .int s, .int 0])]) (by rw [Nat.zero_mul]; exact ⟨hb, Ja h d s hp⟩) (by
      intro j d' ej g hi
      obtain ⟨hi, hp1⟩ := hi
      rw [Nat.zero_add] at hi ⊢
      have hj := (rng_get ej).1
      obtain ⟨g', e3, b3, o3⟩ := hr g h.length _ hp1 hl0 hi (Nat.mul_le_mul_right _ (by omega))
      refine ⟨[some (.scr ns), some (.dat (.int k)), some (.ref h.length), some (.dat d')], .bool true, g', rfl, ?_, rfl, by rw [Nat.succ_mul]; exact b3, o3⟩
      clear hp hp1 hl0 Jp Ja
      walk_at "dl")
  have er : rs = List.replicate rs.length (.bool true) := bools_all fun r hr => by
    obtain ⟨j, hj, rfl⟩ := List.getElem_of_mem hr
    exact hall j _ (List.getElem?_eq_getElem hj)
  have hl' : rs.length = t := by rw [hl, rng_len, hT]
  rw [hl'] at er
  subst er
  have e4 := bools_true t
  have e5 := all_true t
  have e6 : (List.replicate t (PyData.bool true)).length ≤ sizeLine := by rw [List.length_replicate]; exact T2
  refine ⟨[some (.scr ns), some (.dat (.int k)), some (.ref h.length), v3], h', ?_, ⟨_, rfl⟩, hp'⟩
  clear hall hl hl' hb hr hp hp' hl0 Jp Ja
  rw [hT] at e2
  walk_at "dl"
theorem law_okJ {T : Int} {t : Nat} {h0 : Hh} {J : Hh → Prop} (hT : T.toNat = t) (T0 : -1000000000 ≤ T) (T1 : T ≤ 1000000000) (T2 : t ≤ sizeLine) (J0 : J h0) (Jp : ∀ h, J h → Pre h0 h ∧ h0.length ≤ h.length) (Ja : ∀ h a b, J h → J (h ++ [some (.lst [.int a, .int b, .int 0])])) {right : FM} {cost : Nat} (hr : ∀ (h : Hh) (b c : Nat), J h → h0.length ≤ b → BoxAt h b c → c ≤ t * cost → ∃ h', right [.ref b] h = some (.dat (.bool true), h') ∧ BoxAt h' b (c + cost) ∧ J h') (ns : List Int) (hn : ns.length ≤ 63) :
    ∃ h', lawM T right [.scr ns] h0 = some (.dat (.bool true), h') := by
  obtain ⟨m, hm, m0, m1⟩ : ∃ m : Int, (if (if (ns.length : Int) < 3 then (ns.length : Int) else 3) > 1 then (if (ns.length : Int) < 3 then (ns.length : Int) else 3) else 1) = m ∧ 0 ≤ m ∧ m ≤ 3 := ⟨_, rfl, by split <;> split <;> omega, by split <;> split <;> omega⟩
  obtain ⟨ρ', h', e, ⟨w1, w2, w3, rfl⟩, hp⟩ := forL_end (k := gN 1) (body := (sSeq (sAsg (fA (m__law_box) (fCons (fVar 0) (fCons (fVar 1) (fNil)))) (gN 2))
    (sIf (bNot (fB (fA allW (fCons (fLc false (rng1I (fCons (fC (.int T)) (fNil))) (gN 3) (bYes) (fA right (fCons (fVar 2) (fNil))) [3]) (fNil))))) (sRet (fC (.bool false))) (sSkip)))) (fun _ ρ g => (∃ w1 w2 w3, ρ = [some (.scr ns), w1, w2, w3]) ∧ J g) (ds := rngD 0 m.toNat) (ρ := [some (.scr ns), none, none, none]) (h := h0) ⟨⟨none, none, none, rfl⟩, J0⟩ (by
      intro j d ej ρ h hi
      obtain ⟨⟨w1, w2, w3, rfl⟩, hp⟩ := hi
      obtain ⟨hj, rfl⟩ := rng_get ej
      obtain ⟨ρ', h', e, ⟨w2', rfl⟩, hp'⟩ := law_turnJ hT T0 T1 T2 Jp Ja hr (ns := ns) (k := j) (by omega) (by omega) w2 w3 h hp
      exact ⟨_, _, h', rfl, e, ⟨_, _, _, rfl⟩, hp'⟩)
  refine ⟨h0, ?_⟩
  have b0 : -1000000000 ≤ m := by omega
  have b1 : m ≤ 1000000000 := by omega
  have lv : leave false h0 (.dat (.bool true)) h' = some (.dat (.bool true), h0) := by
    have e := (Jp h' hp).1.take (Jp h' hp).2
    rw [leave_dat (by rw [e]), e]
  unfold lawM
  clear hr m0 m1 T0 T1 T2 hp J0 Jp Ja
  walk_at "dl"
/-! ### repr of a word; all its calls as lists -/
theorem cost_words {n : Nat} : ∀ {ws : List (List (Str × Str))}, (∀ ps ∈ ws, TxtP ps ∧ ps.length ≤ n) → costDs (ws.map cT) ≤ (2013 * n + 5) * ws.length
  | [], _ => Nat.le_refl _
  | ps :: ws, h => by
    obtain ⟨h1, h2⟩ := h ps List.mem_cons_self
    have ih := cost_words fun q hq => h q (List.mem_cons_of_mem _ hq)
    have a := cost_pairs h1
    have b : costD (cT ps) ≤ 2013 * n + 3 := by
      show costD (.tuple (ps.map prT)) ≤ _
      rw [costD]
      have := Nat.mul_le_mul_left 2013 h2
      omega
    rw [List.map_cons, costDs, List.length_cons, Nat.mul_succ]
    omega
theorem tx_words : ∀ {ws : List (List (Str × Str))}, (∀ ps ∈ ws, TxtP ps) → txDs (ws.map cT) = true
  | [], _ => rfl
  | ps :: ws, h => by
    rw [List.map_cons, txDs, tx_words fun q hq => h q (List.mem_cons_of_mem _ hq)]
    show (txD (.tuple (ps.map prT)) && true) = true
    rw [tx_call (h ps List.mem_cons_self)]; rfl
theorem depth_words : ∀ ws : List (List (Str × Str)), PyData.depthAll (ws.map cT) ≤ 2
  | [] => Nat.zero_le _
  | ps :: ws => by
    rw [List.map_cons, PyData.depthAll]
    have := depth_words ws
    have := depth_call ps
    exact Nat.max_le.mpr ⟨by assumption, by assumption⟩
theorem repr_words {n : Nat} {ws : List (List (Str × Str))} {h : Hh} (ht : ∀ ps ∈ ws, TxtP ps ∧ ps.length ≤ n) (hn : n ≤ 30) (hl : ws.length ≤ 100) : reprW [.dat (.list (ws.map cT))] h = some (.dat (.str (PyData.list (ws.map cT)).shown), h) := by
  apply repr_ok rfl
  · rw [txD]; exact tx_words fun ps hp => (ht ps hp).1
  · rw [PyData.depth]
    have := depth_words ws
    omega
  · rw [costD]
    have := cost_words ht
    have : (2013 * n + 5) * ws.length ≤ (2013 * 30 + 5) * 100 := Nat.mul_le_mul (by omega) hl
    omega
theorem plain_words {ws : List (List (Str × Str))} (ht : ∀ ps ∈ ws, ps.length ≤ 1000) (hl : ws.length ≤ 1000) : plainD (.list (ws.map cT)) = true := by
  rw [plainD, Bool.and_eq_true, decide_eq_true_eq, List.length_map]
  refine ⟨?_, Nat.le_trans hl (by decide)⟩
  induction ws with
  | nil => rfl
  | cons ps ws ih =>
    rw [List.map_cons, plainDs, ih (fun q hq => ht q (List.mem_cons_of_mem _ hq)) (by simp at hl; omega)]
    show (plainD (.tuple (ps.map prT)) && true) = true
    rw [plain_call (ht ps List.mem_cons_self)]; rfl
theorem lsts_words (ws : List (List (Str × Str))) : lsts (.list (ws.map cT)) = .list (ws.map (cD true)) := by
  have e : ∀ ps : List (Str × Str), lsts (cT ps) = cD true ps := fun ps => by
    show lsts (.tuple (ps.map prT)) = .list (ps.map (prW true))
    rw [← lsts_call ps]; rfl
  show PyData.list (lstsA (ws.map cT)) = _
  rw [lstsA_map, List.map_map]
  congr 1
  exact List.map_congr_left fun ps _ => e ps
theorem lists_words {ws : List (List (Str × Str))} {h : Hh} (ht : ∀ ps ∈ ws, ps.length ≤ 1000) (hl : ws.length ≤ 1000) : m__law_lists 12 [.dat (.list (ws.map cT))] h = some (.dat (.list (ws.map (cD true))), h) := by
  rw [lists_ok 12 _ h (plain_words ht hl) (by rw [PyData.depth]; have := depth_words ws; omega), lsts_words]
end DL
namespace LW
open PySem L2 DL
local macro_rules | `(tactic| walk_at "dl") => `(tactic| simp (config := { dsimp := false }) only [↓fnM_e, ↓sSeq_e, seqK_nx, seqK_rt, seqK_bk, seqK_ct, retK_rt, retK_nx, ↓sFrz_e, frK_some, ↓sAsg, ↓sRet, ↓sRetN, ↓sIf, ↓sExpr, ↓sSkip, ↓sNever, ↓sPar, ↓sFor, ↓sSub, ↓fVar, ↓fC, ↓fNil, ↓fCons, ↓fA, ↓f1, ↓f2, ↓fB, ↓fIf, ↓fNeg, ↓fNot, ↓fAnd, ↓fOr, ↓bNot, ↓bAnd, ↓bOr, ↓bYes, ↓obnd_x, ob_some, ↓sbnd_x, sb_some, ↓ite_x, iteK_t, iteK_f, gN, gT, gC, gE, ↓rng1I, ↓rng2I, ↓seqI, ↓enumA, ↓zipI, ↓strI, ↓fLc, ↓fDc, ↓fM, ↓fSl, ↓oNone, ↓oSome, ↓fRev, wipeE, ↓kwM, permM, permL, List.foldr, List.length_cons, List.length_nil, List.map_cons, List.map_nil, List.cons_append, List.nil_append, List.replicate, List.replicate_succ, List.replicate_zero, List.getElem?_cons_zero, List.getElem?_cons_succ, List.set_cons_zero, List.set_cons_succ, if_true, if_false, reduceIte, Nat.reduceAdd, Nat.reduceSub, Nat.reduceEqDiff, Nat.reduceLT, Nat.reduceLeDiff, Int.reduceLT, Int.reduceLE, Int.reduceNeg, Int.reduceMul, Int.reduceAdd, Int.reduceSub, Int.reduceToNat, Int.reducePow, Int.reduceEq, ok, bok, deref, mkL, lstW, tupW, dats, Option.map_some, appendW, insertW, setL, isL, listW, tupleW, lenW, absW, intC, maxW, minW, idxW, addW, subW_e, modW_e, divW_e, powW_e, mulW, intW, lt_e, gt_e, le_e, ge_e, ltW, allW_e, anyW_e, sumW_e, lW, setW, lstAt, cutW, backW, isW, isiW, iLT_none, iLT_bool, iLT_int, iLT_str, iLT_list, iLT_tup, iL_none, iL_bool, iL_int, iL_str, iL_list, iL_tup, iT_none, iT_bool, iT_int, iT_str, iT_list, iT_tup, iS_none, iS_bool, iS_int, iS_str, iS_list, iS_tup, iI_none, iI_bool, iI_int, iI_str, iI_list, iI_tup, iB_none, iB_bool, iB_int, iB_str, iB_list, iB_tup, Bool.false_eq_true, reduceCtorEq, Bool.not_true, Bool.not_false, decide_true, decide_false, List.zip_cons_cons, List.zip_nil_left, List.foldl_cons, List.foldl_nil, and_self, and_true, true_and, Bool.and_true, Bool.true_and, Bool.or_true, Bool.true_or, *])
noncomputable def m__law_walk : FM := fnM false 3 8 (sSeq (sAsg (fA (lstW true) (fCons (fA tupW (fCons (fVar 1) (fCons (fVar 2) (fNil)))) (fNil))) (gN 3))
    (sSeq (sFor (seqI (fRev false (fVar 0))) (gN 4)
    (sSeq (sAsg (fA tupW (fCons (fA (dictA false) (fCons (fVar 4) (fNil))) (fCons (f2 idxW (fVar 3) (fNeg (fC (.int 1)))) (fNil)))) (gT 2 (gC (gN 5) (gC (gT 2 (gC (gN 6) (gC (gN 7) (gE)))) (gE)))))
    (sExpr (fM isL appendW (fVar 3) (fCons (fIf (fB (f2 (eqW false) (f2 idxW (fVar 5) (fVar 6)) (f2 idxW (fVar 5) (fVar 7)))) (fA tupW (fCons (fVar 6) (fCons (fVar 7) (fNil)))) (fA tupW (fCons (f2 idxW (fVar 5) (fVar 6)) (fCons (f2 idxW (fVar 5) (fVar 7)) (fNil))))) (fNil))))))
    (sRet (fVar 3))))
noncomputable def m_walked__M : FM := fnM true 2 4 (sSeq (sAsg (fA (lstW true) (fCons (fVar 1) (fNil))) (gN 2))
    (sSeq (sFor (seqI (fVar 0)) (gN 3)
    (sExpr (fM isL appendW (fVar 2) (fCons (fA (m_gone) (fCons (fVar 3) (fCons (f2 idxW (fVar 2) (fNeg (fC (.int 1)))) (fNil)))) (fNil)))))
    (sRet (fVar 2))))
noncomputable def m_walks__M : FM := fnM true 3 3 (sRet (fA (m_walked__M) (fCons (fA (m_ways_back) (fCons (fVar 0) (fNil))) (fCons (fA tupW (fCons (fVar 1) (fCons (fVar 2) (fNil)))) (fNil)))))
noncomputable def m__law_right : FM := fnM false 1 13 (sSeq (sAsg (f2 (addW false) (fA (m__law_crew) (fCons (fVar 0) (fCons (fC (.int 11)) (fNil)))) (fA (lstW false) (fCons (fC (.str "qqq")) (fNil)))) (gN 1))
    (sSeq (sAsg (fA (m__law_asks) (fCons (fVar 0) (fCons (fVar 1) (fCons (fC (.int 15)) (fNil))))) (gN 2))
    (sSeq (sPar (fCons (fA reprW (fCons (fVar 2) (fNil))) (fCons (fA tupleW (fCons (fA (m__law_lists 12) (fCons (fVar 2) (fNil))) (fNil))) (fNil))) [4, 5])
    (sSeq (sFor (rng1I (fCons (fC (.int 5)) (fNil))) (gN 3)
    (sSeq (sAsg (fA (m__law_two) (fCons (fVar 0) (fCons (fVar 1) (fNil)))) (gT 2 (gC (gN 8) (gC (gN 9) (gE)))))
    (sSeq (sAsg (fA (m__law_walk) (fCons (fVar 2) (fCons (fVar 8) (fCons (fVar 9) (fNil))))) (gN 6))
    (sSeq (sFor (rng1I (fCons (fC (.int 2)) (fNil))) (gN 7)
    (sSeq (sAsg (fA packW (fCons (fA (m_walks__M) (fCons (fVar 2) (fCons (fVar 8) (fCons (fVar 9) (fNil))))) (fCons (fA (kwM 3 [2, 1, 0] (m_walks__M)) (fCons (fVar 9) (fCons (fVar 8) (fCons (fVar 5) (fNil))))) (fNil)))) (gN 10))
    (sSeq (sIf (bThaw 10 (bNot (fB (fA (m__law_same 12) (fCons (fVar 10) (fCons (fA (lstW false) (fCons (fVar 6) (fCons (fVar 6) (fNil)))) (fNil))))))) (sRet (fC (.bool false))) (sSkip))
    (sSeq (sExpr (fM isL appendW (f2 idxP (fVar 10) (fC (.int 0))) (fCons (fC (.str "more")) (fNil))))
    (sExpr (fM isL clearW (f2 idxP (fVar 10) (fC (.int 1))) fNil))))))
    (sSeq (sIf (bNot (fB (fA (m__law_same 12) (fCons (fA (lstW false) (fCons (fA (m_pair_of) (fCons (fVar 2) (fCons (fVar 8) (fCons (fVar 9) (fNil))))) (fCons (fA (kwM 3 [2, 1, 0] (m_pair_of)) (fCons (fVar 9) (fCons (fVar 8) (fCons (fVar 5) (fNil))))) (fNil)))) (fCons (f2 (mulW false) (fA (lstW false) (fCons (f2 idxW (fVar 6) (fNeg (fC (.int 1)))) (fNil))) (fC (.int 2))) (fNil)))))) (sRet (fC (.bool false))) (sSkip))
    (sIf (bNot (fB (fA (m__law_same 12) (fCons (fA (m_walks) (fCons (fVar 2) (fCons (fVar 9) (fCons (fVar 8) (fNil))))) (fCons (fLc false (seqI (fVar 6)) (gT 2 (gC (gN 11) (gC (gN 12) (gE)))) (bYes) (fA tupW (fCons (fVar 12) (fCons (fVar 11) (fNil)))) [11, 12]) (fNil)))))) (sRet (fC (.bool false))) (sSkip)))))))
    (sRet (fAnd (fA (m__law_same 12) (fCons (fA (m_walks) (fCons (fA (lstW false) (fNil)) (fCons (fC (.str "a")) (fCons (fC (.str "b")) (fNil))))) (fCons (fA (lstW false) (fCons (fA tupW (fCons (fC (.str "a")) (fCons (fC (.str "b")) (fNil)))) (fNil))) (fNil)))) (f2 (eqW false) (fA reprW (fCons (fVar 2) (fNil))) (fVar 4))))))))
noncomputable def m_law : FM := fnM false 1 4 (sSeq (sFor (rng1I (fCons (fA maxW (fCons (fC (.int 1)) (fCons (fA minW (fCons (fC (.int 3)) (fCons (fA lenW (fCons (fVar 0) (fNil))) (fNil)))) (fNil)))) (fNil))) (gN 1)
    (sSeq (sAsg (fA (m__law_box) (fCons (fVar 0) (fCons (fVar 1) (fNil)))) (gN 2))
    (sIf (bNot (fB (fA allW (fCons (fLc false (rng1I (fCons (fC (.int 4)) (fNil))) (gN 3) (bYes) (fA (m__law_right) (fCons (fVar 2) (fNil))) [3]) (fNil))))) (sRet (fC (.bool false))) (sSkip))))
    (sRet (fC (.bool true))))
def swapP (p : Str × Str) : Str × Str := (p.2, p.1)
theorem goneP_swap (ps : List (Str × Str)) (p : Str × Str) : goneP ps (swapP p) = swapP (goneP ps p) := by
  unfold goneP swapP
  by_cases z : goal ps p.1 = goal ps p.2
  · rw [if_pos z, if_pos z.symm]
  · rw [if_neg z, if_neg (fun e => z e.symm)]
theorem walkL_swap : ∀ (ws : List (List (Str × Str))) (p : Str × Str), walkL ws (swapP p) = (walkL ws p).map swapP
  | [], p => rfl
  | ps :: ws, p => by
    rw [walkL, walkL, goneP_swap, walkL_swap ws, List.map_cons]
/-! ### walks, a list that may change -/
theorem walkedM_ok {r : List Str} {ws : List (List (Str × Str))} {p : Str × Str} {h : Hh} (c : Words r ws) (h1 : p.1 ∈ r) (h2 : p.2 ∈ r) (hw : ws.length ≤ 1000) : m_walked__M [.dat (.list (ws.map dW)), .dat (prT p)] h = some (.ref h.length, h ++ [some (.lst ((walkL ws p).map prT))]) := by
  have hz : sizeLine = 16777216 := rfl
  have key := forL_inv (k := gN 3) (body := sExpr (fM isL appendW (fVar 2) (fCons (fA (m_gone) (fCons (fVar 3) (fCons (f2 idxW (fVar 2) (fNeg (fC (.int 1)))) (fNil)))) (fNil))))
    (fun n ρ g => ∃ v : Option W, ρ = [some (.dat (.list (ws.map dW))), some (.dat (prT p)), some (.ref h.length), v] ∧ g = h ++ [some (.lst ((walkL (ws.take n) p).map prT))]) (ds := ws.map dW) (n := 0)
    (ρ := [some (.dat (.list (ws.map dW))), some (.dat (prT p)), some (.ref h.length), none]) (h := h ++ [some (.lst [prT p])]) ⟨none, rfl, rfl⟩ (by
      intro j d ej ρ g hi
      obtain ⟨v, rfl, rfl⟩ := hi
      rw [Nat.zero_add]
      rw [List.getElem?_map] at ej
      obtain ⟨ps, ep, rfl⟩ := Option.map_eq_some_iff.mp ej
      have hj : j < ws.length := (List.getElem?_eq_some_iff.mp ep).1
      have hc : CallOf r ps := c ps (List.mem_of_getElem? ep)
      obtain ⟨m1, m2⟩ := lastW_in (ws := ws.take j) (fun q hq => c q (List.mem_of_mem_take hq)) h1 h2
      have e1 := gone_ok (h := h ++ [some (.lst ((walkL (ws.take j) p).map prT))]) hc m1 m2
      obtain ⟨l, el⟩ := walkL_last (ws.take j) p
      have al : L2.atI ((walkL (ws.take j) p).map prT) (-1) = some (prT (lastW (ws.take j) p)) := by rw [el, List.map_append]; exact atI_neg1 _ _
      have hg : (h ++ [some (MO.lst ((walkL (ws.take j) p).map prT))])[h.length]? = some (some (.lst ((walkL (ws.take j) p).map prT))) := app_get rfl
      have hl : ((walkL (ws.take j) p).map prT).length < sizeLine := by rw [List.length_map, walkL_len, List.length_take]; omega
      have hs : (h ++ [some (MO.lst ((walkL (ws.take j) p).map prT))]).set h.length (some (.lst ((walkL (ws.take j) p).map prT ++ [prT (goneP ps (lastW (ws.take j) p))]))) = h ++ [some (.lst ((walkL (ws.take (j + 1)) p).map prT))] := by
        rw [app_set rfl, take_snoc ep, walkL_snoc, List.map_append]; rfl
      refine ⟨_, _, _, rfl, ?_, some (.dat (dW ps)), rfl, rfl⟩
      clear c h1 h2 hw hz ej ep hj hc m1 m2 el
      generalize (walkL (ws.take j) p).map prT = wl at *
      walk_at "dl")
  obtain ⟨ρ', h', e, v, rfl, rfl⟩ := key
  rw [Nat.zero_add, List.length_map, List.take_length] at e
  have lv := leave_ref (h := h) (ds := (walkL ws p).map prT)
  have c1 : 1 ≤ sizeLine := by omega
  unfold m_walked__M
  clear c h1 h2 hw hz
  generalize (walkL ws p).map prT = wl at *
  walk_at "dl"
theorem walksM_ok {x : D} {l : Bool} {r : List Str} {ws : List (List (Str × Str))} {a b : Str} {h : Hh} (hx : IsSeq x (ws.map (cD l))) (c : Words r ws) (nd : r.Nodup) (hr : r.length ≤ 1000) (hw : ws.length ≤ 1000) (h1 : a ∈ r) (h2 : b ∈ r) :
    m_walks__M [.dat x, .dat (.str a), .dat (.str b)] h = some (.ref h.length, h ++ [some (.lst ((walkL ws.reverse (a, b)).map prT))]) := by
  have e1 := ways_ok (h := h) hx c nd hr hw
  have e2 := walkedM_ok (h := h) (ws := ws.reverse) (p := (a, b)) (fun q hq => c q (List.mem_reverse.mp hq)) h1 h2 (by rw [List.length_reverse]; exact hw)
  have c2 : 2 ≤ sizeLine := by decide
  have lv := leave_ref (h := h) (ds := (walkL ws.reverse (a, b)).map prT)
  unfold m_walks__M
  clear hx c nd hr hw h1 h2
  walk_at "dl"
/-! ### the law's own walking -/
noncomputable def ownWalk2 : SM := (sSeq (sAsg (fA tupW (fCons (fA (dictA false) (fCons (fVar 4) (fNil))) (fCons (f2 idxW (fVar 3) (fNeg (fC (.int 1)))) (fNil)))) (gT 2 (gC (gN 5) (gC (gT 2 (gC (gN 6) (gC (gN 7) (gE)))) (gE)))))
    (sExpr (fM isL appendW (fVar 3) (fCons (fIf (fB (f2 (eqW false) (f2 idxW (fVar 5) (fVar 6)) (f2 idxW (fVar 5) (fVar 7)))) (fA tupW (fCons (fVar 6) (fCons (fVar 7) (fNil)))) (fA tupW (fCons (f2 idxW (fVar 5) (fVar 6)) (fCons (f2 idxW (fVar 5) (fVar 7)) (fNil))))) (fNil)))))
theorem ownWalk2_run {x y y' : W} {n : Nat} {A : List D} {GO : List (D × D)} {wl : List D} {s1 s2 t1 t2 : Str} {z : Bool} {v5 v6 v7 : Option W} {g : Hh} (hg : g[n]? = some (some (.lst wl))) (e1 : dictA false [.dat (.tuple A)] g = some (.dat (.dict GO), g)) (al : L2.atI wl (-1) = some (.tuple [.str s1, .str s2])) (g1 : getD GO (.str s1) = some (some (.str t1))) (g2 : getD GO (.str s2) = some (some (.str t2))) (ez : decide (t1 = t2) = z) (hl : wl.length < sizeLine) :
    ownWalk2 [some x, some y, some y', some (.ref n), some (.dat (.tuple A)), v5, v6, v7] g = some (.nx [some x, some y, some y', some (.ref n), some (.dat (.tuple A)), some (.dat (.dict GO)), some (.dat (.str s1)), some (.dat (.str s2))], g.set n (some (.lst (wl ++ [if z = true then .tuple [.str s1, .str s2] else .tuple [.str t1, .str t2]])))) := by
  have q := eqW_strs (neg := false) (i := t1) (j := t2) (h := g)
  have c2 : 2 ≤ sizeLine := by decide
  unfold ownWalk2
  cases z with
  | true => walk_at "dl"
  | false => walk_at "dl"
theorem own_walk_ok {r : List Str} {ws : List (List (Str × Str))} {p : Str × Str} {h : Hh} (c : Words r ws) (nd : r.Nodup) (hp : 0 < r.length) (h1 : p.1 ∈ r) (h2 : p.2 ∈ r) (hw : ws.length ≤ 1000) : m__law_walk [.dat (.list (ws.map cT)), .dat (.str p.1), .dat (.str p.2)] h = some (.dat (.list ((walkL ws.reverse p).map prT)), h) := by
  have hz : sizeLine = 16777216 := rfl
  have cr : Words r ws.reverse := fun q hq => c q (List.mem_reverse.mp hq)
  have key := forL_inv (k := gN 4) (body := ownWalk2)
    (fun n ρ g => ∃ v3 v4 v5 v6 : Option W, ρ = [some (.dat (.list (ws.map cT))), some (.dat (.str p.1)), some (.dat (.str p.2)), some (.ref h.length), v3, v4, v5, v6] ∧ g = h ++ [some (.lst ((walkL (ws.reverse.take n) p).map prT))]) (ds := ws.reverse.map cT) (n := 0)
    (ρ := [some (.dat (.list (ws.map cT))), some (.dat (.str p.1)), some (.dat (.str p.2)), some (.ref h.length), none, none, none, none]) (h := h ++ [some (.lst [prT p])]) ⟨none, none, none, none, rfl, rfl⟩ (by
      intro j d ej ρ g hi
      obtain ⟨v3, v4, v5, v6, rfl, rfl⟩ := hi
      rw [Nat.zero_add]
      rw [List.getElem?_map] at ej
      obtain ⟨ps, ep, rfl⟩ := Option.map_eq_some_iff.mp ej
      have hj : j < ws.reverse.length := (List.getElem?_eq_some_iff.mp ep).1
      rw [List.length_reverse] at hj
      have hc : CallOf r ps := cr ps (List.mem_of_getElem? ep)
      have hpl : ps.length = r.length := by have := hc.perm.length_eq; rw [List.length_map] at this; exact this
      obtain ⟨m1, m2⟩ := lastW_in (ws := ws.reverse.take j) (fun q hq => cr q (List.mem_of_mem_take hq)) h1 h2
      obtain ⟨k1, _⟩ := hc.goal_mem m1
      obtain ⟨k2, _⟩ := hc.goal_mem m2
      obtain ⟨l, el⟩ := walkL_last (ws.reverse.take j) p
      have al : L2.atI ((walkL (ws.reverse.take j) p).map prT) (-1) = some (prT (lastW (ws.reverse.take j) p)) := by rw [el, List.map_append]; exact atI_neg1 _ _
      have et := ownWalk2_run (x := .dat (.list (ws.map cT))) (y := .dat (.str p.1)) (y' := .dat (.str p.2)) (n := h.length) (A := ps.map prT) (GO := sdic (tld ps)) (wl := (walkL (ws.reverse.take j) p).map prT) (s1 := (lastW (ws.reverse.take j) p).1) (s2 := (lastW (ws.reverse.take j) p).2) (t1 := goal ps (lastW (ws.reverse.take j) p).1) (t2 := goal ps (lastW (ws.reverse.take j) p).2) (v5 := v4) (v6 := v5) (v7 := v6) (g := h ++ [some (.lst ((walkL (ws.reverse.take j) p).map prT))]) (app_get rfl) (dict_call (by omega) (hc.nodup nd)) al (by rw [getD_sdic, look_tld, k1]; rfl) (by rw [getD_sdic, look_tld, k2]; rfl) rfl (by rw [List.length_map, walkL_len, List.length_take]; omega)
      have eg : (if decide (goal ps (lastW (ws.reverse.take j) p).1 = goal ps (lastW (ws.reverse.take j) p).2) = true then PyData.tuple [.str (lastW (ws.reverse.take j) p).1, .str (lastW (ws.reverse.take j) p).2] else .tuple [.str (goal ps (lastW (ws.reverse.take j) p).1), .str (goal ps (lastW (ws.reverse.take j) p).2)]) = prT (goneP ps (lastW (ws.reverse.take j) p)) := by
        unfold goneP
        by_cases z : goal ps (lastW (ws.reverse.take j) p).1 = goal ps (lastW (ws.reverse.take j) p).2
        · rw [if_pos z, decide_eq_true z, if_pos rfl]
        · rw [if_neg z, decide_eq_false z, if_neg (by simp)]
      rw [eg, app_set rfl] at et
      refine ⟨_, _, _, rfl, et, _, _, _, _, rfl, ?_⟩
      rw [take_snoc ep, walkL_snoc, List.map_append]
      rfl)
  obtain ⟨ρ', h', e, v3, v4, v5, v6, rfl, rfl⟩ := key
  rw [Nat.zero_add, List.length_map, List.take_length] at e
  have hg : (h ++ [some (MO.lst ((walkL ws.reverse p).map prT))])[h.length]? = some (some (.lst ((walkL ws.reverse p).map prT))) := app_get rfl
  have et : (h ++ [some (MO.lst ((walkL ws.reverse p).map prT))]).take h.length = h := app_take rfl
  have nl : ¬ h.length < h.length := by omega
  have c1 : 1 ≤ sizeLine := by omega
  have c2 : 2 ≤ sizeLine := by omega
  rw [List.map_reverse] at e
  unfold ownWalk2 at e
  unfold m__law_walk
  clear c nd hp h1 h2 hw hz cr
  generalize (walkL ws.reverse p).map prT = wl at *
  walk_at "dl"
  unfold leave
  walk_at "dl"
/-! ### told lists changed, told again -/
noncomputable def thawT : BM := (bNot (fB (fA (m__law_same 12) (fCons (fVar 10) (fCons (fA (lstW false) (fCons (fVar 6) (fCons (fVar 6) (fNil)))) (fNil))))))
noncomputable def innerTurn : SM := (sSeq (sAsg (fA packW (fCons (fA (m_walks__M) (fCons (fVar 2) (fCons (fVar 8) (fCons (fVar 9) (fNil))))) (fCons (fA (kwM 3 [2, 1, 0] (m_walks__M)) (fCons (fVar 9) (fCons (fVar 8) (fCons (fVar 5) (fNil))))) (fNil)))) (gN 10))
    (sSeq (sIf (bThaw 10 (bNot (fB (fA (m__law_same 12) (fCons (fVar 10) (fCons (fA (lstW false) (fCons (fVar 6) (fCons (fVar 6) (fNil)))) (fNil))))))) (sRet (fC (.bool false))) (sSkip))
    (sSeq (sExpr (fM isL appendW (f2 idxP (fVar 10) (fC (.int 0))) (fCons (fC (.str "more")) (fNil))))
    (sExpr (fM isL clearW (f2 idxP (fVar 10) (fC (.int 1))) fNil)))))
theorem inner_run {b : Nat} {y z : D} {a e : Str} {WL : List D} {v1 v3 v4 v7 v10 v11 v12 : Option W} {g : Hh} (e1 : m_walks__M [.dat y, .dat (.str a), .dat (.str e)] g = some (.ref g.length, g ++ [some (.lst WL)])) (e2 : m_walks__M [.dat z, .dat (.str a), .dat (.str e)] (g ++ [some (.lst WL)]) = some (.ref (g.length + 1), g ++ [some (.lst WL), some (.lst WL)]))
    (hk : OkA g) (hb : b < g.length) (r1 : ∀ n, isR n v1 = false) (r3 : ∀ n, isR n v3 = false) (r4 : ∀ n, isR n v4 = false) (r7 : ∀ n, isR n v7 = false) (r11 : ∀ n, isR n v11 = false) (r12 : ∀ n, isR n v12 = false)
    (sm : m__law_same 12 [.dat (.list [.list WL, .list WL]), .dat (.list [.list WL, .list WL])] (g ++ [none, none]) = some (.dat (.bool true), g ++ [none, none])) (hl : WL.length < sizeLine) :
    innerTurn [some (.ref b), v1, some (.dat y), v3, v4, some (.dat z), some (.dat (.list WL)), v7, some (.dat (.str a)), some (.dat (.str e)), v10, v11, v12] g =
      some (.nx [some (.ref b), v1, some (.dat y), v3, v4, some (.dat z), some (.dat (.list WL)), v7, some (.dat (.str a)), some (.dat (.str e)), some (.pack [.inl g.length, .inl (g.length + 1)]), v11, v12], g ++ [some (.lst (WL ++ [.str "more"])), some (.lst [])]) := by
  have c2 : 2 ≤ sizeLine := by decide
  have et : thawT [some (.ref b), v1, some (.dat y), v3, v4, some (.dat z), some (.dat (.list WL)), v7, some (.dat (.str a)), some (.dat (.str e)), some (.dat (.list [.list WL, .list WL])), v11, v12] (g ++ [none, none]) = some (false, g ++ [none, none]) := by
    unfold thawT
    clear e1 e2 hk hb r1 r3 r4 r7 r11 r12 hl
    walk_at "dl"
  have th : bThaw 10 thawT [some (.ref b), v1, some (.dat y), v3, v4, some (.dat z), some (.dat (.list WL)), v7, some (.dat (.str a)), some (.dat (.str e)), some (.pack [.inl g.length, .inl (g.length + 1)]), v11, v12] (g ++ [some (.lst WL), some (.lst WL)]) = some (false, g ++ [some (.lst WL), some (.lst WL)]) := by
    refine thaw2 rfl (fun n hn => ?_) et hk
    have hbn : (b = n) = False := eq_false (by omega)
    simp only [List.set_cons_zero, List.set_cons_succ, List.any_cons, List.any_nil, r1, r3, r4, r7, r11, r12, isR_ref, isR_dat, isR_none, hbn, decide_false, Bool.or_false]
  have pk : packW [.ref g.length, .ref (g.length + 1)] (g ++ [some (.lst WL), some (.lst WL)]) = some (.pack [.inl g.length, .inl (g.length + 1)], g ++ [some (.lst WL), some (.lst WL)]) := by
    unfold packW
    simp only [packs, Option.map_some, List.length_cons, List.length_nil, Nat.zero_add, Nat.reduceAdd, c2, if_true]
  have i0 : idxP (.pack [.inl g.length, .inl (g.length + 1)]) (.dat (.int 0)) (g ++ [some (.lst WL), some (.lst WL)]) = some (.ref g.length, g ++ [some (.lst WL), some (.lst WL)]) := rfl
  have i1 : idxP (.pack [.inl g.length, .inl (g.length + 1)]) (.dat (.int 1)) (g ++ [some (.lst (WL ++ [.str "more"])), some (.lst WL)]) = some (.ref (g.length + 1), g ++ [some (.lst (WL ++ [.str "more"])), some (.lst WL)]) := rfl
  have g0 : (g ++ [some (MO.lst WL), some (.lst WL)])[g.length]? = some (some (.lst WL)) := by simp
  have s0 : (g ++ [some (MO.lst WL), some (.lst WL)]).set g.length (some (.lst (WL ++ [.str "more"]))) = g ++ [some (.lst (WL ++ [.str "more"])), some (.lst WL)] := by simp [List.set_append]
  have g1 : (g ++ [some (MO.lst (WL ++ [.str "more"])), some (.lst WL)])[g.length + 1]? = some (some (.lst WL)) := by simp
  have s1 : (g ++ [some (MO.lst (WL ++ [.str "more"])), some (.lst WL)]).set (g.length + 1) (some (.lst [])) = g ++ [some (.lst (WL ++ [.str "more"])), some (.lst [])] := by simp [List.set_append]
  have cl : clearW (.ref (g.length + 1)) [] (g ++ [some (.lst (WL ++ [.str "more"])), some (.lst WL)]) = some (.dat .none, g ++ [some (.lst (WL ++ [.str "more"])), some (.lst [])]) := by
    unfold clearW
    simp only [lstAt, setL, g1, s1, ok]
  unfold thawT at th
  unfold innerTurn
  clear hk hb r1 r3 r4 r7 r11 r12 sm et
  walk_at "dl"
noncomputable def againTurn : SM := (sSeq (sAsg (fA (m__law_two) (fCons (fVar 0) (fCons (fVar 1) (fNil)))) (gT 2 (gC (gN 8) (gC (gN 9) (gE)))))
    (sSeq (sAsg (fA (m__law_walk) (fCons (fVar 2) (fCons (fVar 8) (fCons (fVar 9) (fNil))))) (gN 6))
    (sSeq (sFor (rng1I (fCons (fC (.int 2)) (fNil))) (gN 7)
    (sSeq (sAsg (fA packW (fCons (fA (m_walks__M) (fCons (fVar 2) (fCons (fVar 8) (fCons (fVar 9) (fNil))))) (fCons (fA (kwM 3 [2, 1, 0] (m_walks__M)) (fCons (fVar 9) (fCons (fVar 8) (fCons (fVar 5) (fNil))))) (fNil)))) (gN 10))
    (sSeq (sIf (bThaw 10 (bNot (fB (fA (m__law_same 12) (fCons (fVar 10) (fCons (fA (lstW false) (fCons (fVar 6) (fCons (fVar 6) (fNil)))) (fNil))))))) (sRet (fC (.bool false))) (sSkip))
    (sSeq (sExpr (fM isL appendW (f2 idxP (fVar 10) (fC (.int 0))) (fCons (fC (.str "more")) (fNil))))
    (sExpr (fM isL clearW (f2 idxP (fVar 10) (fC (.int 1))) fNil))))))
    (sSeq (sIf (bNot (fB (fA (m__law_same 12) (fCons (fA (lstW false) (fCons (fA (m_pair_of) (fCons (fVar 2) (fCons (fVar 8) (fCons (fVar 9) (fNil))))) (fCons (fA (kwM 3 [2, 1, 0] (m_pair_of)) (fCons (fVar 9) (fCons (fVar 8) (fCons (fVar 5) (fNil))))) (fNil)))) (fCons (f2 (mulW false) (fA (lstW false) (fCons (f2 idxW (fVar 6) (fNeg (fC (.int 1)))) (fNil))) (fC (.int 2))) (fNil)))))) (sRet (fC (.bool false))) (sSkip))
    (sIf (bNot (fB (fA (m__law_same 12) (fCons (fA (m_walks) (fCons (fVar 2) (fCons (fVar 9) (fCons (fVar 8) (fNil))))) (fCons (fLc false (seqI (fVar 6)) (gT 2 (gC (gN 11) (gC (gN 12) (gE)))) (bYes) (fA tupW (fCons (fVar 12) (fCons (fVar 11) (fNil)))) [11, 12]) (fNil)))))) (sRet (fC (.bool false))) (sSkip))))))
theorem again_run {b : Nat} {x y z : D} {a e n1 n2 : Str} {WL WS : List D} {v3 v4 v6 v7 v8 v9 v10 w7 w10 : Option W} {g g1 g2 : Hh} (e1 : m__law_two [.ref b, .dat x] g = some (.dat (.tuple [.str a, .str e]), g1)) (e2 : m__law_walk [.dat y, .dat (.str a), .dat (.str e)] g1 = some (.dat (.list WL), g1))
    (e3 : forL (gN 7) innerTurn (rngD 0 2) [some (.ref b), some (.dat x), some (.dat y), v3, v4, some (.dat z), some (.dat (.list WL)), v7, some (.dat (.str a)), some (.dat (.str e)), v10, none, none] g1 = some (.nx [some (.ref b), some (.dat x), some (.dat y), v3, v4, some (.dat z), some (.dat (.list WL)), w7, some (.dat (.str a)), some (.dat (.str e)), w10, none, none], g2))
    (e4 : m_pair_of [.dat y, .dat (.str a), .dat (.str e)] g2 = some (.dat (.tuple [.str n1, .str n2]), g2)) (e5 : m_pair_of [.dat z, .dat (.str a), .dat (.str e)] g2 = some (.dat (.tuple [.str n1, .str n2]), g2)) (al : L2.atI WL (-1) = some (.tuple [.str n1, .str n2]))
    (e6 : m_walks [.dat y, .dat (.str e), .dat (.str a)] g2 = some (.dat (.list WS), g2)) (e7 : lcL (gT 2 (gC (gN 11) (gC (gN 12) (gE)))) (bYes) (fA tupW (fCons (fVar 12) (fCons (fVar 11) (fNil)))) [some (.ref b), some (.dat x), some (.dat y), v3, v4, some (.dat z), some (.dat (.list WL)), w7, some (.dat (.str a)), some (.dat (.str e)), w10, none, none] WL g2 = some (WS, g2)) (hl : WS.length ≤ sizeLine)
    (s2 : m__law_same 12 [.dat (.list WS), .dat (.list WS)] g2 = some (.dat (.bool true), g2)) :
    againTurn [some (.ref b), some (.dat x), some (.dat y), v3, v4, some (.dat z), v6, v7, v8, v9, v10, none, none] g =
      some (.nx [some (.ref b), some (.dat x), some (.dat y), v3, v4, some (.dat z), some (.dat (.list WL)), w7, some (.dat (.str a)), some (.dat (.str e)), w10, none, none], g2) := by
  have sm := same_refl 12 (.list [.tuple [.str n1, .str n2], .tuple [.str n1, .str n2]]) g2 (by rfl) (by simp [PyData.depth, PyData.depthAll])
  have e8 : [[PyData.tuple [.str n1, .str n2]], [PyData.tuple [.str n1, .str n2]]].flatten = [PyData.tuple [.str n1, .str n2], .tuple [.str n1, .str n2]] := rfl
  have c2 : 2 ≤ sizeLine := by decide
  have c1 : 1 ≤ sizeLine := by decide
  have c3 : 3 ≤ sizeLine := by decide
  have s0' : (-1000000000 : Int) ≤ 2 := by omega
  have s1' : (2 : Int) ≤ 1000000000 := by omega
  unfold innerTurn at e3
  unfold againTurn
  walk_at "dl"
theorem right_run {b : Nat} {h h1 h2 h3 : Hh} {cs X1 ws WL : List D} {K : Str} {ρ' : DL.Env}
    (e1 : m__law_crew [.ref b, .dat (.int 11)] h = some (.dat (.list cs), h1)) (x1 : cs ++ [.str "qqq"] = X1) (l1 : cs.length + 1 ≤ sizeLine) (e2 : m__law_asks [.ref b, .dat (.list X1), .dat (.int 15)] h1 = some (.dat (.list ws), h2))
    (e3 : reprW [.dat (.list ws)] h2 = some (.dat (.str K), h2)) (e4 : m__law_lists 12 [.dat (.list ws)] h2 = some (.dat (.list WL), h2)) (l2 : WL.length ≤ sizeLine)
    (e5 : forL (gN 3) againTurn (rngD 0 5) [some (.ref b), some (.dat (.list X1)), some (.dat (.list ws)), none, some (.dat (.str K)), some (.dat (.tuple WL)), none, none, none, none, none, none, none] h2 = some (.nx ρ', h3))
    (r2 : ρ'[2]? = some (some (.dat (.list ws)))) (r4 : ρ'[4]? = some (some (.dat (.str K)))) (e6 : reprW [.dat (.list ws)] h3 = some (.dat (.str K), h3)) :
    m__law_right [.ref b] h = leave false h (.dat (.bool true)) h3 := by
  have c1 : 1 ≤ sizeLine := by decide
  have c2 : 2 ≤ sizeLine := by decide
  have c0 : 0 ≤ sizeLine := by decide
  have s0' : (-1000000000 : Int) ≤ 5 := by omega
  have s1' : (5 : Int) ≤ 1000000000 := by omega
  have wk := walks_ok (h := h3) (l := false) (x := .list []) (ws := []) (r := ["a", "b"]) (a := "a") (b := "b") (.inl rfl) (fun q hq => by cases hq) (by decide) (by decide) (by decide) (by simp) (by simp)
  have wk' : m_walks [.dat (.list []), .dat (.str "a"), .dat (.str "b")] h3 = some (.dat (.list [.tuple [.str "a", .str "b"]]), h3) := wk
  have sm := same_refl 12 (.list [.tuple [.str "a", .str "b"]]) h3 (by rfl) (by simp [PyData.depth, PyData.depthAll])
  have q := eqW_strs (neg := false) (i := K) (j := K) (h := h3)
  have dk : decide (K = K) = true := by simp
  clear wk
  unfold againTurn at e5
  unfold m__law_right
  walk_at "dl"
theorem right_ok (h : Hh) (b c : Nat) (hk : OkA h) (hb : BoxAt h b c) (hc : c ≤ 4 * 3000) : ∃ h', m__law_right [.ref b] h = some (.dat (.bool true), h') ∧ BoxAt h' b (c + 3000) ∧ OkA h' := by
  have hz : sizeLine = 16777216 := rfl
  obtain ⟨cr, h1, e1, ct, b1, o1⟩ := crew_ok (most := 11) hb (by omega) (by omega) (by omega)
  obtain ⟨fk, k2⟩ := ct.more
  have f4 := fk.le
  have x1 : cr.map PyData.str ++ [.str qqq] = (cr ++ [qqq]).map .str := by rw [List.map_append]; rfl
  have crl := ct.le
  generalize cr ++ [qqq] = l at *
  obtain ⟨ws, h2, e2, cw, wl, b2, o2⟩ := asks_ok (x := .list (l.map .str)) (n := 15) (.inl rfl) fk.txts b1 (by omega) fk.pos (by omega) (by omega)
  have hpl : ∀ ps ∈ ws, TxtP ps ∧ ps.length ≤ 12 := fun ps hp => by
    have := (cw ps hp).perm.length_eq
    rw [List.length_map] at this
    exact ⟨(cw ps hp).txts fk.txts, by omega⟩
  have e3 := repr_words (h := h2) hpl (by omega) (by omega)
  have e4 := lists_words (h := h2) (ws := ws) (fun ps hp => by have := (hpl ps hp).2; omega) (by omega)
  have hk2 : OkA h2 := (hk.only o1 b1).only o2 b2
  have b2' : BoxAt h2 b (c + 2400) := b2.mono (by omega)
  have hy : IsSeq (PyData.list (ws.map cT)) (ws.map (cD false)) := .inl (by rw [cD_false])
  have hzz : IsSeq (PyData.tuple (ws.map (cD true))) (ws.map (cD true)) := .inr rfl
  obtain ⟨ρ5, h5, e5, b5, o5, k5, v3, v6, v7, v8, v9, v10, _, rfl⟩ := forL_end (k := gN 3) (body := againTurn) (fun n ρ g => BoxAt g b (c + 2400 + 2 * n) ∧ OnlyP b h g ∧ OkA g ∧ ∃ v3 v6 v7 v8 v9 v10 : Option W, (∀ n, isR n v7 = false) ∧ ρ = [some (.ref b), some (.dat (.list (l.map .str))), some (.dat (.list (ws.map cT))), v3, some (.dat (.str (PyData.list (ws.map cT)).shown)), some (.dat (.tuple (ws.map (cD true)))), v6, v7, v8, v9, v10, none, none])
    (ds := rngD 0 5) (ρ := [some (.ref b), some (.dat (.list (l.map .str))), some (.dat (.list (ws.map cT))), none, some (.dat (.str (PyData.list (ws.map cT)).shown)), some (.dat (.tuple (ws.map (cD true)))), none, none, none, none, none, none, none]) (h := h2) ⟨b2', (o1.trans o2).p, hk2, none, none, none, none, none, none, fun _ => rfl, rfl⟩ (by
      intro j d ej ρ g hi
      obtain ⟨bx, on, kg, v3, v6, v7, v8, v9, v10, i7, rfl⟩ := hi
      obtain ⟨hj, rfl⟩ := rng_get ej
      obtain ⟨u, w, g1, f1, ha, he, hne, b9, o9⟩ := two_ok (x := .list (l.map .str)) (.inl rfl) fk.nd bx (by omega) k2 (by omega)
      have k1 : OkA g1 := kg.only o9 b9
      have f2 := own_walk_ok (h := g1) (p := (u, w)) cw fk.nd fk.pos ha he (by omega)
      have wlen : ((walkL ws.reverse (u, w)).map prT).length = ws.length + 1 := by rw [List.length_map, walkL_len, List.length_reverse]
      obtain ⟨ρ6, h6, e6, b6, o6, k6, w7, w10, i7', rfl⟩ := forL_end (k := gN 7) (body := innerTurn) (fun n ρ g => BoxAt g b (c + 2400 + 2 * (j + 1)) ∧ OnlyP b h g ∧ OkA g ∧ ∃ v7 v10 : Option W, (∀ n, isR n v7 = false) ∧ ρ = [some (.ref b), some (.dat (.list (l.map .str))), some (.dat (.list (ws.map cT))), some (.dat (.int (j : Int))), some (.dat (.str (PyData.list (ws.map cT)).shown)), some (.dat (.tuple (ws.map (cD true)))), some (.dat (.list ((walkL ws.reverse (u, w)).map prT))), v7, some (.dat (.str u)), some (.dat (.str w)), v10, none, none])
        (ds := rngD 0 2) (ρ := [some (.ref b), some (.dat (.list (l.map .str))), some (.dat (.list (ws.map cT))), some (.dat (.int (j : Int))), some (.dat (.str (PyData.list (ws.map cT)).shown)), some (.dat (.tuple (ws.map (cD true)))), some (.dat (.list ((walkL ws.reverse (u, w)).map prT))), v7, some (.dat (.str u)), some (.dat (.str w)), v10, none, none]) (h := g1) ⟨b9.mono (by omega), on.only o9, k1, v7, v10, i7, rfl⟩ (by
          intro j2 d2 ej2 ρ g' hi
          obtain ⟨bx', on', kg', v7, v10, i7, rfl⟩ := hi
          obtain ⟨hj2, rfl⟩ := rng_get ej2
          have m1 := walksM_ok (h := g') (l := false) hy cw fk.nd (by omega) (by omega) ha he
          have m2 := walksM_ok (h := g' ++ [some (.lst ((walkL ws.reverse (u, w)).map prT))]) (l := true) hzz cw fk.nd (by omega) (by omega) ha he
          rw [List.length_append, List.append_assoc] at m2
          have sm := same_refl 12 (.list [.list ((walkL ws.reverse (u, w)).map prT), .list ((walkL ws.reverse (u, w)).map prT)]) (g' ++ [none, none]) (by
            have q : plainD (.list ((walkL ws.reverse (u, w)).map prT)) = true := by
              rw [plainD, plain_pairs, Bool.true_and, decide_eq_true_eq, wlen]; omega
            rw [plainD, plainDs, plainDs, q]; rfl) (by
            have := depth_pairs (walkL ws.reverse (u, w))
            rw [PyData.depth, PyData.depthAll, PyData.depthAll, PyData.depthAll, PyData.depth]
            omega)
          have et := inner_run (v1 := some (.dat (.list (l.map .str)))) (v3 := some (.dat (.int (j : Int)))) (v4 := some (.dat (.str (PyData.list (ws.map cT)).shown))) (v7 := some (.dat (.int (j2 : Int)))) (v10 := v10) (v11 := none) (v12 := none) m1 m2 kg' bx'.lt (fun _ => rfl) (fun _ => rfl) (fun _ => rfl) (fun _ => rfl) (fun _ => rfl) (fun _ => rfl) sm (by rw [wlen]; omega)
          refine ⟨_, _, _, rfl, et, box_app bx', on'.app, kg'.app2 ?_ rfl, _, _, fun _ => rfl, rfl⟩
          exact noLs_app (noLs_pairs _) rfl)
      have p1 := pair_of_ok (h := h6) (l := false) hy cw fk.nd (by omega) (by omega) ha he
      have p2 := pair_of_ok (h := h6) (l := true) hzz cw fk.nd (by omega) (by omega) ha he
      have p3 := walks_ok (h := h6) (l := false) hy cw fk.nd (by omega) (by omega) he ha
      have esw : (walkL ws.reverse (w, u)).map prT = (walkL ws.reverse (u, w)).map (fun p => prT (swapP p)) := by
        rw [show (w, u) = swapP (u, w) from rfl, walkL_swap, List.map_map]; rfl
      rw [esw] at p3
      obtain ⟨ll, el⟩ := walkL_last ws.reverse (u, w)
      have al : L2.atI ((walkL ws.reverse (u, w)).map prT) (-1) = some (prT (lastW ws.reverse (u, w))) := by rw [el, List.map_append]; exact atI_neg1 _ _
      have p4 := fun ρ : DL.Env => fun (hρ : ∃ v0 v1 v2 v3 v4 v5 v6 v7 v8 v9 v10 : Option W, ρ = [v0, v1, v2, v3, v4, v5, v6, v7, v8, v9, v10, none, none]) => lcL_list (k := gT 2 (gC (gN 11) (gC (gN 12) (gE)))) (f := fA tupW (fCons (fVar 12) (fCons (fVar 11) (fNil)))) (ρ := ρ) (h := h6) prT (fun p => prT (swapP p)) (xs := walkL ws.reverse (u, w)) (by
        obtain ⟨v0, v1, v2, v3, v4, v5, v6, v7, v8, v9, v10, rfl⟩ := hρ
        intro p _
        have c2 : 2 ≤ sizeLine := by decide
        refine ⟨[v0, v1, v2, v3, v4, v5, v6, v7, v8, v9, v10, some (.dat (.str p.1)), some (.dat (.str p.2))], rfl, ?_⟩
        show _ = some (W.dat (.tuple [.str p.2, .str p.1]), h6)
        clear e1 e2 e3 e4 e6 f1 f2 hpl
        simp only [fA, fCons, fNil, fVar, obnd, List.getElem?_cons_zero, List.getElem?_cons_succ, tupW, dats, Option.map_some, List.length_cons, List.length_nil, Nat.zero_add, Nat.reduceAdd, c2, if_true, ok])
      have slen : ((walkL ws.reverse (u, w)).map (fun p => prT (swapP p))).length ≤ sizeLine := by rw [List.length_map, walkL_len, List.length_reverse]; omega
      have s2 := same_refl 12 (.list ((walkL ws.reverse (u, w)).map (fun p => prT (swapP p)))) h6 (by
          rw [plainD, show (fun p => prT (swapP p)) = prT ∘ swapP from rfl, ← List.map_map, plain_pairs, Bool.true_and, decide_eq_true_eq]
          rw [List.map_map]; exact slen) (by
          have := depth_pairs ((walkL ws.reverse (u, w)).map swapP)
          rw [List.map_map] at this
          rw [PyData.depth]
          have e : (fun p => prT (swapP p)) = prT ∘ swapP := rfl
          rw [e]
          omega)
      have et := again_run (v3 := some (.dat (.int (j : Int)))) (v4 := some (.dat (.str (PyData.list (ws.map cT)).shown))) (v6 := v6) (v7 := v7) (v8 := v8) (v9 := v9) (v10 := v10) f1 f2 e6 p1 p2 al p3 (p4 _ ⟨_, _, _, _, _, _, _, _, _, _, _, rfl⟩) slen s2
      exact ⟨_, _, _, rfl, et, b6.mono (by omega), o6, k6, _, _, _, _, _, _, i7', rfl⟩)
  rw [rng_len] at b5
  obtain ⟨hE, lv, bE, oE⟩ := leave_P (d := .bool true) hb b5 o5
  have e6 := repr_words (h := h5) hpl (by omega) (by omega)
  refine ⟨hE, ?_, bE.mono (by omega), hk.only oE bE⟩
  rw [right_run e1 x1 (by rw [List.length_map]; omega) e2 e3 e4 (by rw [List.length_map]; omega) e5 rfl rfl e6]
  exact lv
theorem law_eq : m_law = lawM 4 m__law_right := rfl
theorem law_true (ns : List Int) (hl : ns.length ≤ 63) : ∃ h, m_law [.scr ns] [] = some (.dat (.bool true), h) := by
  rw [law_eq]
  exact law_okJ (t := 4) (J := OkA) rfl (by omega) (by omega) (by decide) OkA.nil (fun h _ => ⟨fun i hi => absurd hi (by simp), by simp⟩) (fun h a b x => x.app (okM_ints _ _ _)) (fun h b c hk _ hb hc => right_ok h b c hk hb hc) ns hl
end LW
set_option maxHeartbeats 4000000
namespace LW
open PySem PySem.Spec PyProof.Rows L2 DL
def topS (i : Nat) : Stmt := PySem.Challenge.pw_standby_k10_two_walkers.main.body.getD i (.Pass ⟨0, 0, 0, 0⟩)
section
variable {P : Program} {w : World} {K : PySem.W.Frag} {mg : Str → Option Value} {base : Heap}
abbrev s_by_names : Stmt := topS 1
abbrev N_by_names : List Str := ["call", "who", "whom"]
theorem sc_by_names : FnScope N_by_names ["call"] (defScope s_by_names) := ⟨rfl, rfl, rfl, by decide +kernel, rfl, by decide +kernel, by decide +kernel⟩
theorem ok_by_names (f : Addr) (fd : FuncData) (F : Fun K "by_names" "by_names" s_by_names f fd) (hm : mg "by_names" = some (.ref f)) (B : Bi mg)   : GD P w K mg base 1 "by_names" s_by_names ["call"] m_by_names := gd_ok false F hm sc_by_names fun cdv A outer s H E hr =>
    ds_one (ds_ret (d_dc false (own := [("who", 1), ("whom", 2)]) rfl sc_by_names.nd (di_seq (dv 0 (pv 0))) (blkOk_by (N := N_by_names) (sc := defScope s_by_names) (by decide +kernel)) (fun _ _ _ _ _ => dg_tup rfl (dgs_cons (dg_name 1 (pg_name (i := 1) sc_by_names.nd rfl (Or.inl rfl))) (dgs_cons (dg_name 2 (pg_name (i := 2) sc_by_names.nd rfl (Or.inl rfl))) (dgs_nil)))) (fun _ _ _ _ _ => dts_nil) (fun _ _ _ _ _ => dv 1 (pv 1)) (fun _ _ _ _ _ => dv 2 (pv 2)) (by decide)))
abbrev s_gone : Stmt := topS 3
abbrev N_gone : List Str := ["told", "pair", "one", "other"]
theorem sc_gone : FnScope N_gone ["told", "pair"] (defScope s_gone) := ⟨rfl, rfl, rfl, by decide +kernel, rfl, by decide +kernel, by decide +kernel⟩
theorem ok_gone (f : Addr) (fd : FuncData) (F : Fun K "gone" "gone" s_gone f fd) (hm : mg "gone" = some (.ref f)) (B : Bi mg)   : GD P w K mg base 1 "gone" s_gone ["told", "pair"] m_gone := gd_ok false F hm sc_gone fun cdv A outer s H E hr =>
    ds_cons (ds_par2 (ps_par (i := 2) (j := 3) rfl sc_gone.nd rfl rfl (by decide) rfl rfl (da_cons (d_idx hr.room (dv 0 (pv 0)) (d_idx hr.room (dv 1 (pv 1)) (d_int) (fun _ _ => rfl)) (fun _ _ => rfl)) (da_cons (d_idx hr.room (dv 0 (pv 0)) (d_idx hr.room (dv 1 (pv 1)) (d_int) (fun _ _ => rfl)) (fun _ _ => rfl)) (da_nil))) (by rfl)))
    (ds_one (ds_ret (d_if (t_eq hr.room (dv 2 (pv 2)) (dv 3 (pv 3))) (dv 1 (pv 1)) (d_tup (da_cons (dv 2 (pv 2)) (da_cons (dv 3 (pv 3)) (da_nil)))))))
abbrev s__law_box : Stmt := topS 9
abbrev N__law_box : List Str := ["_law_script", "_law_k", "_law_cell"]
theorem sc__law_box : FnScope N__law_box ["_law_script", "_law_k"] (defScope s__law_box) := ⟨rfl, rfl, rfl, by decide +kernel, rfl, by decide +kernel, by decide +kernel⟩
theorem ok__law_box (f : Addr) (fd : FuncData) (F : Fun K "_law_box" "_law_box" s__law_box f fd) (hm : mg "_law_box" = some (.ref f)) (B : Bi mg)   : GD P w K mg base 1 "_law_box" s__law_box ["_law_script", "_law_k"] m__law_box := gd_ok true F hm sc__law_box fun cdv A outer s H E hr =>
    ds_cons (ds_set (ps_set (i := 2) sc__law_box.nd rfl (Or.inl rfl) (d_int)))
    (ds_cons (ds_if (t_lt (dv 1 (pv 1)) (d_len B.len (da_cons (dv 0 (pv 0)) (da_nil)))) (ds_one (ds_set (ps_set (i := 2) sc__law_box.nd rfl (Or.inl rfl) (d_idx hr.room (dv 0 (pv 0)) (dv 1 (pv 1)) (fun _ _ => rfl))))) (ds_nil))
    (ds_one (ds_ret (d_lst true (da_cons (d_mul false (d_abs B.abs (da_cons (dv 2 (pv 2)) (da_nil))) (d_intC B.int (da_cons (d_ge (d_abs B.abs (da_cons (dv 2 (pv 2)) (da_nil))) (d_pow (d_int) (d_int))) (da_nil)))) (da_cons (d_add false (d_add false (d_mod (dv 2 (pv 2)) (d_int)) (d_mul false (d_int) (dv 1 (pv 1)))) (d_int)) (da_cons (d_int) (da_nil))))))))
abbrev s__law_take : Stmt := topS 10
abbrev N__law_take : List Str := ["_law_box_here", "_law_bound", "_law_once", "_law_found"]
theorem sc__law_take : FnScope N__law_take ["_law_box_here", "_law_bound"] (defScope s__law_take) := ⟨rfl, rfl, rfl, by decide +kernel, rfl, by decide +kernel, by decide +kernel⟩
theorem ok__law_take (f : Addr) (fd : FuncData) (F : Fun K "_law_take" "_law_take" s__law_take f fd) (hm : mg "_law_take" = some (.ref f)) (B : Bi mg)   : GD P w K mg base 1 "_law_take" s__law_take ["_law_box_here", "_law_bound"] m__law_take := gd_ok false F hm sc__law_take fun cdv A outer s H E hr =>
    ds_cons (ds_if (t_gt (d_idx hr.room (dv 0 (pv 0)) (d_int) (fun _ _ => rfl)) (d_int)) (ds_cons (ds_set (ps_set (i := 3) sc__law_take.nd rfl (Or.inl rfl) (d_mod (d_idx hr.room (dv 0 (pv 0)) (d_int) (fun _ _ => rfl)) (dv 1 (pv 1)))))
    (ds_cons (ds_sub (d_div (d_idx hr.room (dv 0 (pv 0)) (d_int) (fun _ _ => rfl)) (dv 1 (pv 1))) (dv 0 (pv 0)) (d_int) (ps_asg (d_div (d_idx hr.room (dv 0 (pv 0)) (d_int) (fun _ _ => rfl)) (dv 1 (pv 1))) (pg_sub (dv 0 (pv 0)) (d_int) set_list)))
    (ds_one (ds_ret (dv 3 (pv 3)))))) (ds_nil))
    (ds_cons (ds_sub (d_add false (d_idx hr.room (dv 0 (pv 0)) (d_int) (fun _ _ => rfl)) (d_int)) (dv 0 (pv 0)) (d_int) (ps_asg (d_add false (d_idx hr.room (dv 0 (pv 0)) (d_int) (fun _ _ => rfl)) (d_int)) (pg_sub (dv 0 (pv 0)) (d_int) set_list)))
    (ds_cons (ds_set (ps_set (i := 2) sc__law_take.nd rfl (Or.inl rfl) (d_mod (d_pow (d_add false (d_idx hr.room (dv 0 (pv 0)) (d_int) (fun _ _ => rfl)) (d_mul false (d_int) (d_idx hr.room (dv 0 (pv 0)) (d_int) (fun _ _ => rfl)))) (d_int)) (d_int))))
    (ds_one (ds_ret (d_mod (d_div (d_mod (d_add false (d_mul false (dv 2 (pv 2)) (d_add false (d_mod (dv 2 (pv 2)) (d_int)) (d_int))) (d_mul false (d_idx hr.room (dv 0 (pv 0)) (d_int) (fun _ _ => rfl)) (d_int))) (d_int)) (d_int)) (dv 1 (pv 1)))))))
abbrev s__law_walk : Stmt := topS 18
abbrev N__law_walk : List Str := ["_law_asks_here", "_law_first", "_law_second", "_law_found", "_law_ask_here", "_law_goal", "_law_near", "_law_side"]
theorem sc__law_walk : FnScope N__law_walk ["_law_asks_here", "_law_first", "_law_second"] (defScope s__law_walk) := ⟨rfl, rfl, rfl, by decide +kernel, rfl, by decide +kernel, by decide +kernel⟩
theorem ok__law_walk (f : Addr) (fd : FuncData) (F : Fun K "_law_walk" "_law_walk" s__law_walk f fd) (hm : mg "_law_walk" = some (.ref f)) (B : Bi mg)   : GD P w K mg base 1 "_law_walk" s__law_walk ["_law_asks_here", "_law_first", "_law_second"] m__law_walk := gd_ok false F hm sc__law_walk fun cdv A outer s H E hr =>
    ds_cons (ds_set (ps_set (i := 3) sc__law_walk.nd rfl (Or.inl rfl) (d_lst true (da_cons (d_tup (da_cons (dv 1 (pv 1)) (da_cons (dv 2 (pv 2)) (da_nil)))) (da_nil)))))
    (ds_cons (ds_for rfl PassesOwn.never (di_seq (d_rev false (dv 0 (pv 0)))) (dg_name 4 (pg_name (i := 4) sc__law_walk.nd rfl (Or.inl rfl)))
    (ds_cons (ds_asg (d_tup (da_cons (d_dictA rfl false B.dict (da_cons (dv 4 (pv 4)) (da_nil))) (da_cons (d_idx hr.room (dv 3 (pv 3)) (d_neg (d_int)) (fun _ _ => rfl)) (da_nil)))) (dg_tup rfl (dgs_cons (dg_name 5 (pg_name (i := 5) sc__law_walk.nd rfl (Or.inl rfl))) (dgs_cons (dg_tup rfl (dgs_cons (dg_name 6 (pg_name (i := 6) sc__law_walk.nd rfl (Or.inl rfl))) (dgs_cons (dg_name 7 (pg_name (i := 7) sc__law_walk.nd rfl (Or.inl rfl))) (dgs_nil)))) (dgs_nil)))))
    (ds_one (ds_expr ((pe_bm PySem.F.plainAttrs_list PySem.F.slot_list_append PySem.F.type_list_append mt_append (dv 3 (pv 3)) (da_cons (d_if (t_eq hr.room (d_idx hr.room (dv 5 (pv 5)) (dv 6 (pv 6)) (fun _ _ => rfl)) (d_idx hr.room (dv 5 (pv 5)) (dv 7 (pv 7)) (fun _ _ => rfl))) (d_tup (da_cons (dv 6 (pv 6)) (da_cons (dv 7 (pv 7)) (da_nil)))) (d_tup (da_cons (d_idx hr.room (dv 5 (pv 5)) (dv 6 (pv 6)) (fun _ _ => rfl)) (da_cons (d_idx hr.room (dv 5 (pv 5)) (dv 7 (pv 7)) (fun _ _ => rfl)) (da_nil))))) (da_nil))).weak (meth_imp s_append))))))
    (ds_one (ds_ret (dv 3 (pv 3)))))
abbrev s_ways_back : Stmt := topS 4
abbrev N_ways_back : List Str := ["word", "call"]
theorem sc_ways_back : FnScope N_ways_back ["word"] (defScope s_ways_back) := ⟨rfl, rfl, rfl, by decide +kernel, rfl, by decide +kernel, by decide +kernel⟩
theorem ok_ways_back (f : Addr) (fd : FuncData) (F : Fun K "ways_back" "ways_back" s_ways_back f fd) (hm : mg "ways_back" = some (.ref f)) (B : Bi mg)  (g_by_names : GD P w K mg base 1 "by_names" s_by_names ["call"] m_by_names) : GD P w K mg base 2 "ways_back" s_ways_back ["word"] m_ways_back := gd_ok false F hm sc_ways_back fun cdv A outer s H E hr =>
    ds_one (ds_ret (d_lc false (own := [("call", 1)]) rfl sc_ways_back.nd (di_rev B.reversed (dv 0 (pv 0))) (blkOk_by (N := N_ways_back) (sc := defScope s_ways_back) (by decide +kernel)) (fun _ _ _ _ _ => dg_name 1 (pg_name (i := 1) sc_ways_back.nd rfl (Or.inl rfl))) (fun _ _ _ _ _ => dts_nil) (fun _ _ _ _ _ => d_call' g_by_names (hr.mono (by omega)) (da_cons (dv 1 (pv 1)) (da_nil)) (fun _ _ _ _ _ _ us hl => match us, hl with | [_], _ => rfl)) (by decide)))
abbrev s_walked : Stmt := topS 5
abbrev N_walked : List Str := ["ways", "pair", "found", "told"]
theorem sc_walked : FnScope N_walked ["ways", "pair"] (defScope s_walked) := ⟨rfl, rfl, rfl, by decide +kernel, rfl, by decide +kernel, by decide +kernel⟩
theorem ok_walked (f : Addr) (fd : FuncData) (F : Fun K "walked" "walked" s_walked f fd) (hm : mg "walked" = some (.ref f)) (B : Bi mg)  (g_gone : GD P w K mg base 1 "gone" s_gone ["told", "pair"] m_gone) : GD P w K mg base 2 "walked" s_walked ["ways", "pair"] m_walked := gd_ok false F hm sc_walked fun cdv A outer s H E hr =>
    ds_cons (ds_set (ps_set (i := 2) sc_walked.nd rfl (Or.inl rfl) (d_lst true (da_cons (dv 1 (pv 1)) (da_nil)))))
    (ds_cons (ds_for rfl PassesOwn.never (di_seq (dv 0 (pv 0))) (dg_name 3 (pg_name (i := 3) sc_walked.nd rfl (Or.inl rfl)))
    (ds_one (ds_expr ((pe_bm PySem.F.plainAttrs_list PySem.F.slot_list_append PySem.F.type_list_append mt_append (dv 2 (pv 2)) (da_cons (d_call' g_gone (hr.mono (by omega)) (da_cons (dv 3 (pv 3)) (da_cons (d_idx hr.room (dv 2 (pv 2)) (d_neg (d_int)) (fun _ _ => rfl)) (da_nil))) (fun _ _ _ _ _ _ us hl => match us, hl with | [_, _], _ => rfl)) (da_nil))).weak (meth_imp s_append)))))
    (ds_one (ds_ret (dv 2 (pv 2)))))
theorem ok_walked__M (f : Addr) (fd : FuncData) (F : Fun K "walked" "walked" s_walked f fd) (hm : mg "walked" = some (.ref f)) (B : Bi mg)  (g_gone : GD P w K mg base 1 "gone" s_gone ["told", "pair"] m_gone) : GD P w K mg base 2 "walked" s_walked ["ways", "pair"] m_walked__M := gd_ok true F hm sc_walked fun cdv A outer s H E hr =>
    ds_cons (ds_set (ps_set (i := 2) sc_walked.nd rfl (Or.inl rfl) (d_lst true (da_cons (dv 1 (pv 1)) (da_nil)))))
    (ds_cons (ds_for rfl PassesOwn.never (di_seq (dv 0 (pv 0))) (dg_name 3 (pg_name (i := 3) sc_walked.nd rfl (Or.inl rfl)))
    (ds_one (ds_expr ((pe_bm PySem.F.plainAttrs_list PySem.F.slot_list_append PySem.F.type_list_append mt_append (dv 2 (pv 2)) (da_cons (d_call' g_gone (hr.mono (by omega)) (da_cons (dv 3 (pv 3)) (da_cons (d_idx hr.room (dv 2 (pv 2)) (d_neg (d_int)) (fun _ _ => rfl)) (da_nil))) (fun _ _ _ _ _ _ us hl => match us, hl with | [_, _], _ => rfl)) (da_nil))).weak (meth_imp s_append)))))
    (ds_one (ds_ret (dv 2 (pv 2)))))
abbrev s__law_of : Stmt := topS 13
abbrev N__law_of : List Str := ["_law_box_here", "_law_some"]
theorem sc__law_of : FnScope N__law_of ["_law_box_here", "_law_some"] (defScope s__law_of) := ⟨rfl, rfl, rfl, by decide +kernel, rfl, by decide +kernel, by decide +kernel⟩
theorem ok__law_of (f : Addr) (fd : FuncData) (F : Fun K "_law_of" "_law_of" s__law_of f fd) (hm : mg "_law_of" = some (.ref f)) (B : Bi mg)  (g__law_take : GD P w K mg base 1 "_law_take" s__law_take ["_law_box_here", "_law_bound"] m__law_take) : GD P w K mg base 2 "_law_of" s__law_of ["_law_box_here", "_law_some"] m__law_of := gd_ok false F hm sc__law_of fun cdv A outer s H E hr =>
    ds_one (ds_ret (d_idx hr.room (dv 1 (pv 1)) (d_call' g__law_take (hr.mono (by omega)) (da_cons (dv 0 (pv 0)) (da_cons (d_len B.len (da_cons (dv 1 (pv 1)) (da_nil))) (da_nil))) (fun _ _ _ _ _ _ us hl => match us, hl with | [_, _], _ => rfl)) (fun _ _ => rfl)))
abbrev s__law_strewn : Stmt := topS 14
abbrev N__law_strewn : List Str := ["_law_box_here", "_law_some", "_law_found", "_law_item"]
theorem sc__law_strewn : FnScope N__law_strewn ["_law_box_here", "_law_some"] (defScope s__law_strewn) := ⟨rfl, rfl, rfl, by decide +kernel, rfl, by decide +kernel, by decide +kernel⟩
theorem ok__law_strewn (f : Addr) (fd : FuncData) (F : Fun K "_law_strewn" "_law_strewn" s__law_strewn f fd) (hm : mg "_law_strewn" = some (.ref f)) (B : Bi mg)  (g__law_take : GD P w K mg base 1 "_law_take" s__law_take ["_law_box_here", "_law_bound"] m__law_take) : GD P w K mg base 2 "_law_strewn" s__law_strewn ["_law_box_here", "_law_some"] m__law_strewn := gd_ok false F hm sc__law_strewn fun cdv A outer s H E hr =>
    ds_cons (ds_set (ps_set (i := 2) sc__law_strewn.nd rfl (Or.inl rfl) (d_lst true (da_nil))))
    (ds_cons (ds_for rfl PassesOwn.never (di_seq (dv 1 (pv 1))) (dg_name 3 (pg_name (i := 3) sc__law_strewn.nd rfl (Or.inl rfl)))
    (ds_one (ds_expr ((pe_bm PySem.F.plainAttrs_list PySem.F.slot_list_insert PySem.F.type_list_insert mt_insert (dv 2 (pv 2)) (da_cons (d_call' g__law_take (hr.mono (by omega)) (da_cons (dv 0 (pv 0)) (da_cons (d_add false (d_len B.len (da_cons (dv 2 (pv 2)) (da_nil))) (d_int)) (da_nil))) (fun _ _ _ _ _ _ us hl => match us, hl with | [_, _], _ => rfl)) (da_cons (dv 3 (pv 3)) (da_nil)))).weak (meth_imp s_insert)))))
    (ds_one (ds_ret (dv 2 (pv 2)))))
abbrev s__law_two : Stmt := topS 19
abbrev N__law_two : List Str := ["_law_box_here", "_law_crew_here", "_law_at"]
theorem sc__law_two : FnScope N__law_two ["_law_box_here", "_law_crew_here"] (defScope s__law_two) := ⟨rfl, rfl, rfl, by decide +kernel, rfl, by decide +kernel, by decide +kernel⟩
theorem ok__law_two (f : Addr) (fd : FuncData) (F : Fun K "_law_two" "_law_two" s__law_two f fd) (hm : mg "_law_two" = some (.ref f)) (B : Bi mg)  (g__law_take : GD P w K mg base 1 "_law_take" s__law_take ["_law_box_here", "_law_bound"] m__law_take) : GD P w K mg base 2 "_law_two" s__law_two ["_law_box_here", "_law_crew_here"] m__law_two := gd_ok false F hm sc__law_two fun cdv A outer s H E hr =>
    ds_cons (ds_set (ps_set (i := 2) sc__law_two.nd rfl (Or.inl rfl) (d_call' g__law_take (hr.mono (by omega)) (da_cons (dv 0 (pv 0)) (da_cons (d_len B.len (da_cons (dv 1 (pv 1)) (da_nil))) (da_nil))) (fun _ _ _ _ _ _ us hl => match us, hl with | [_, _], _ => rfl))))
    (ds_one (ds_ret (d_tup (da_cons (d_idx hr.room (dv 1 (pv 1)) (dv 2 (pv 2)) (fun _ _ => rfl)) (da_cons (d_idx hr.room (dv 1 (pv 1)) (d_mod (d_add false (d_add false (dv 2 (pv 2)) (d_int)) (d_call' g__law_take (hr.mono (by omega)) (da_cons (dv 0 (pv 0)) (da_cons (d_sub (d_len B.len (da_cons (dv 1 (pv 1)) (da_nil))) (d_int)) (da_nil))) (fun _ _ _ _ _ _ us hl => match us, hl with | [_, _], _ => rfl))) (d_len B.len (da_cons (dv 1 (pv 1)) (da_nil)))) (fun _ _ => rfl)) (da_nil))))))
abbrev s_walks : Stmt := topS 6
abbrev N_walks : List Str := ["word", "one", "other"]
theorem sc_walks : FnScope N_walks ["word", "one", "other"] (defScope s_walks) := ⟨rfl, rfl, rfl, by decide +kernel, rfl, by decide +kernel, by decide +kernel⟩
theorem ok_walks (f : Addr) (fd : FuncData) (F : Fun K "walks" "walks" s_walks f fd) (hm : mg "walks" = some (.ref f)) (B : Bi mg)  (g_walked : GD P w K mg base 2 "walked" s_walked ["ways", "pair"] m_walked) (g_ways_back : GD P w K mg base 2 "ways_back" s_ways_back ["word"] m_ways_back) : GD P w K mg base 3 "walks" s_walks ["word", "one", "other"] m_walks := gd_ok false F hm sc_walks fun cdv A outer s H E hr =>
    ds_one (ds_ret (d_call' g_walked (hr.mono (by omega)) (da_cons (d_call' g_ways_back (hr.mono (by omega)) (da_cons (dv 0 (pv 0)) (da_nil)) (fun _ _ _ _ _ _ us hl => match us, hl with | [_], _ => rfl)) (da_cons (d_tup (da_cons (dv 1 (pv 1)) (da_cons (dv 2 (pv 2)) (da_nil)))) (da_nil))) (fun _ _ _ _ _ _ us hl => match us, hl with | [_, _], _ => rfl)))
theorem ok_walks__M (f : Addr) (fd : FuncData) (F : Fun K "walks" "walks" s_walks f fd) (hm : mg "walks" = some (.ref f)) (B : Bi mg)  (g_walked__M : GD P w K mg base 2 "walked" s_walked ["ways", "pair"] m_walked__M) (g_ways_back : GD P w K mg base 2 "ways_back" s_ways_back ["word"] m_ways_back) : GD P w K mg base 3 "walks" s_walks ["word", "one", "other"] m_walks__M := gd_ok true F hm sc_walks fun cdv A outer s H E hr =>
    ds_one (ds_ret (d_call' g_walked__M (hr.mono (by omega)) (da_cons (d_call' g_ways_back (hr.mono (by omega)) (da_cons (dv 0 (pv 0)) (da_nil)) (fun _ _ _ _ _ _ us hl => match us, hl with | [_], _ => rfl)) (da_cons (d_tup (da_cons (dv 1 (pv 1)) (da_cons (dv 2 (pv 2)) (da_nil)))) (da_nil))) (fun _ _ _ _ _ _ us hl => match us, hl with | [_, _], _ => rfl)))
abbrev s__law_crew : Stmt := topS 15
abbrev N__law_crew : List Str := ["_law_box_here", "_law_most", "_law_at", "_law_size", "_law_letters", "_law_pool", "_law_start", "_law_step", "_law_sign"]
theorem sc__law_crew : FnScope N__law_crew ["_law_box_here", "_law_most"] (defScope s__law_crew) := ⟨rfl, rfl, rfl, by decide +kernel, rfl, by decide +kernel, by decide +kernel⟩
theorem ok__law_crew (f : Addr) (fd : FuncData) (F : Fun K "_law_crew" "_law_crew" s__law_crew f fd) (hm : mg "_law_crew" = some (.ref f)) (B : Bi mg)  (g__law_strewn : GD P w K mg base 2 "_law_strewn" s__law_strewn ["_law_box_here", "_law_some"] m__law_strewn) (g__law_take : GD P w K mg base 1 "_law_take" s__law_take ["_law_box_here", "_law_bound"] m__law_take) : GD P w K mg base 3 "_law_crew" s__law_crew ["_law_box_here", "_law_most"] m__law_crew := gd_ok false F hm sc__law_crew fun cdv A outer s H E hr =>
    ds_cons (ds_par3 (ps_par3 (i := 3) (j := 4) (l := 5) rfl sc__law_crew.nd rfl rfl rfl (by decide) (by decide) (by decide) rfl rfl rfl (da_cons (d_add false (d_int) (d_call' g__law_take (hr.mono (by omega)) (da_cons (dv 0 (pv 0)) (da_cons (dv 1 (pv 1)) (da_nil))) (fun _ _ _ _ _ _ us hl => match us, hl with | [_, _], _ => rfl))) (da_cons (d_str) (da_cons (d_lst true (da_nil)) (da_nil)))) (by rfl)))
    (ds_cons (ds_par2 (ps_par (i := 6) (j := 7) rfl sc__law_crew.nd rfl rfl (by decide) rfl rfl (da_cons (d_call' g__law_take (hr.mono (by omega)) (da_cons (dv 0 (pv 0)) (da_cons (d_int) (da_nil))) (fun _ _ _ _ _ _ us hl => match us, hl with | [_, _], _ => rfl)) (da_cons (d_idx hr.room (d_lst false (da_cons (d_int) (da_cons (d_int) (da_cons (d_int) (da_nil))))) (d_call' g__law_take (hr.mono (by omega)) (da_cons (dv 0 (pv 0)) (da_cons (d_int) (da_nil))) (fun _ _ _ _ _ _ us hl => match us, hl with | [_, _], _ => rfl)) (fun _ _ => rfl)) (da_nil))) (by rfl)))
    (ds_cons (ds_for rfl PassesOwn.never (di_rng1 B.range (da_cons (dv 3 (pv 3)) (da_nil))) (dg_name 2 (pg_name (i := 2) sc__law_crew.nd rfl (Or.inl rfl)))
    (ds_cons (ds_set (ps_set (i := 8) sc__law_crew.nd rfl (Or.inl rfl) (d_idx hr.room (dv 4 (pv 4)) (d_mod (d_add false (dv 6 (pv 6)) (d_mul false (dv 7 (pv 7)) (d_div (dv 2 (pv 2)) (d_int)))) (d_int)) (fun _ _ => rfl))))
    (ds_one (ds_expr ((pe_bm PySem.F.plainAttrs_list PySem.F.slot_list_append PySem.F.type_list_append mt_append (dv 5 (pv 5)) (da_cons (d_add false (dv 8 (pv 8)) (d_idx hr.room (d_lst false (da_cons (d_str) (da_cons (d_str) (da_cons (d_str) (da_nil))))) (d_mul false (d_mod (dv 2 (pv 2)) (d_int)) (d_add false (d_int) (d_mod (dv 6 (pv 6)) (d_int)))) (fun _ _ => rfl))) (da_nil))).weak (meth_imp s_append))))))
    (ds_frz 5 (ds_one (ds_ret (d_call' g__law_strewn (hr.mono (by omega)) (da_cons (dv 0 (pv 0)) (da_cons (dv 5 (pv 5)) (da_nil))) (fun _ _ _ _ _ _ us hl => match us, hl with | [_, _], _ => rfl)))))))
abbrev s__law_ask : Stmt := topS 16
abbrev N__law_ask : List Str := ["_law_box_here", "_law_crew_here", "_law_found", "_law_folk", "_law_sort", "_law_some", "_law_swap", "_law_at", "_law_mate", "_law_seldom", "_law_any_one", "_law_near"]
theorem sc__law_ask : FnScope N__law_ask ["_law_box_here", "_law_crew_here"] (defScope s__law_ask) := ⟨rfl, rfl, rfl, by decide +kernel, rfl, by decide +kernel, by decide +kernel⟩
theorem ok__law_ask (f : Addr) (fd : FuncData) (F : Fun K "_law_ask" "_law_ask" s__law_ask f fd) (hm : mg "_law_ask" = some (.ref f)) (B : Bi mg)  (g__law_take : GD P w K mg base 1 "_law_take" s__law_take ["_law_box_here", "_law_bound"] m__law_take) (g__law_strewn : GD P w K mg base 2 "_law_strewn" s__law_strewn ["_law_box_here", "_law_some"] m__law_strewn) (g__law_of : GD P w K mg base 2 "_law_of" s__law_of ["_law_box_here", "_law_some"] m__law_of) : GD P w K mg base 3 "_law_ask" s__law_ask ["_law_box_here", "_law_crew_here"] m__law_ask := gd_ok false F hm sc__law_ask fun cdv A outer s H E hr =>
    ds_cons (ds_par2 (ps_par (i := 3) (j := 4) rfl sc__law_ask.nd rfl rfl (by decide) rfl rfl (da_cons (d_sorted hr false B.sorted (da_cons (dv 1 (pv 1)) (da_nil))) (da_cons (d_call' g__law_take (hr.mono (by omega)) (da_cons (dv 0 (pv 0)) (da_cons (d_int) (da_nil))) (fun _ _ _ _ _ _ us hl => match us, hl with | [_, _], _ => rfl)) (da_nil))) (by rfl)))
    (ds_cons (ds_par2 (ps_par (i := 5) (j := 6) rfl sc__law_ask.nd rfl rfl (by decide) rfl rfl (da_cons (d_slice false (d_call' g__law_strewn (hr.mono (by omega)) (da_cons (dv 0 (pv 0)) (da_cons (dv 3 (pv 3)) (da_nil))) (fun _ _ _ _ _ _ us hl => match us, hl with | [_, _], _ => rfl)) (do_none) (do_some (d_add false (d_int) (d_call' g__law_take (hr.mono (by omega)) (da_cons (dv 0 (pv 0)) (da_cons (d_int) (da_nil))) (fun _ _ _ _ _ _ us hl => match us, hl with | [_, _], _ => rfl))))) (da_cons (d_call' g__law_strewn (hr.mono (by omega)) (da_cons (dv 0 (pv 0)) (da_cons (dv 3 (pv 3)) (da_nil))) (fun _ _ _ _ _ _ us hl => match us, hl with | [_, _], _ => rfl)) (da_nil))) (by rfl)))
    (ds_cons (ds_set (ps_set (i := 2) sc__law_ask.nd rfl (Or.inl rfl) (d_lst true (da_nil))))
    (ds_cons (ds_for rfl PassesOwn.never (di_enumA B.enumerate (da_cons (dv 3 (pv 3)) (da_nil))) (dg_tup rfl (dgs_cons (dg_name 7 (pg_name (i := 7) sc__law_ask.nd rfl (Or.inl rfl))) (dgs_cons (dg_name 8 (pg_name (i := 8) sc__law_ask.nd rfl (Or.inl rfl))) (dgs_nil))))
    (ds_cons (ds_par2 (ps_par (i := 10) (j := 11) rfl sc__law_ask.nd rfl rfl (by decide) rfl rfl (da_cons (d_call' g__law_of (hr.mono (by omega)) (da_cons (dv 0 (pv 0)) (da_cons (dv 3 (pv 3)) (da_nil))) (fun _ _ _ _ _ _ us hl => match us, hl with | [_, _], _ => rfl)) (da_cons (d_call' g__law_of (hr.mono (by omega)) (da_cons (dv 0 (pv 0)) (da_cons (dv 5 (pv 5)) (da_nil))) (fun _ _ _ _ _ _ us hl => match us, hl with | [_, _], _ => rfl)) (da_nil))) (by rfl)))
    (ds_cons (ds_set (ps_set (i := 9) sc__law_ask.nd rfl (Or.inl rfl) (d_if (t_eq hr.room (d_call' g__law_take (hr.mono (by omega)) (da_cons (dv 0 (pv 0)) (da_cons (d_int) (da_nil))) (fun _ _ _ _ _ _ us hl => match us, hl with | [_, _], _ => rfl)) (d_int)) (dv 10 (pv 10)) (dv 8 (pv 8)))))
    (ds_one (ds_expr ((pe_bm PySem.F.plainAttrs_list PySem.F.slot_list_append PySem.F.type_list_append mt_append (dv 2 (pv 2)) (da_cons (d_tup (da_cons (dv 8 (pv 8)) (da_cons (d_idx hr.room (d_lst false (da_cons (dv 10 (pv 10)) (da_cons (dv 10 (pv 10)) (da_cons (dv 11 (pv 11)) (da_cons (dv 9 (pv 9)) (da_cons (d_idx hr.room (dv 6 (pv 6)) (dv 7 (pv 7)) (fun _ _ => rfl)) (da_cons (dv 11 (pv 11)) (da_nil)))))))) (dv 4 (pv 4)) (fun _ _ => rfl)) (da_nil)))) (da_nil))).weak (meth_imp s_append)))))))
    (ds_frz 2 (ds_one (ds_ret (d_tuple B.tuple (da_cons (dv 2 (pv 2)) (da_nil)))))))))
abbrev s_pair_of : Stmt := topS 7
abbrev N_pair_of : List Str := ["word", "one", "other"]
theorem sc_pair_of : FnScope N_pair_of ["word", "one", "other"] (defScope s_pair_of) := ⟨rfl, rfl, rfl, by decide +kernel, rfl, by decide +kernel, by decide +kernel⟩
theorem ok_pair_of (f : Addr) (fd : FuncData) (F : Fun K "pair_of" "pair_of" s_pair_of f fd) (hm : mg "pair_of" = some (.ref f)) (B : Bi mg)  (g_walks : GD P w K mg base 3 "walks" s_walks ["word", "one", "other"] m_walks) : GD P w K mg base 4 "pair_of" s_pair_of ["word", "one", "other"] m_pair_of := gd_ok false F hm sc_pair_of fun cdv A outer s H E hr =>
    ds_one (ds_ret (d_idx hr.room (d_call' g_walks (hr.mono (by omega)) (da_cons (dv 0 (pv 0)) (da_cons (dv 1 (pv 1)) (da_cons (dv 2 (pv 2)) (da_nil)))) (fun _ _ _ _ _ _ us hl => match us, hl with | [_, _, _], _ => rfl)) (d_neg (d_int)) (fun _ _ => rfl)))
abbrev s__law_asks : Stmt := topS 17
abbrev N__law_asks : List Str := ["_law_box_here", "_law_crew_here", "_law_size", "_law_turn"]
theorem sc__law_asks : FnScope N__law_asks ["_law_box_here", "_law_crew_here", "_law_size"] (defScope s__law_asks) := ⟨rfl, rfl, rfl, by decide +kernel, rfl, by decide +kernel, by decide +kernel⟩
theorem ok__law_asks (f : Addr) (fd : FuncData) (F : Fun K "_law_asks" "_law_asks" s__law_asks f fd) (hm : mg "_law_asks" = some (.ref f)) (B : Bi mg)  (g__law_ask : GD P w K mg base 3 "_law_ask" s__law_ask ["_law_box_here", "_law_crew_here"] m__law_ask) (g__law_take : GD P w K mg base 1 "_law_take" s__law_take ["_law_box_here", "_law_bound"] m__law_take) : GD P w K mg base 4 "_law_asks" s__law_asks ["_law_box_here", "_law_crew_here", "_law_size"] m__law_asks := gd_ok false F hm sc__law_asks fun cdv A outer s H E hr =>
    ds_one (ds_ret (d_lc false (own := [("_law_turn", 3)]) rfl sc__law_asks.nd (di_rng1 B.range (da_cons (d_call' g__law_take (hr.mono (by omega)) (da_cons (dv 0 (pv 0)) (da_cons (d_add false (dv 2 (pv 2)) (d_int)) (da_nil))) (fun _ _ _ _ _ _ us hl => match us, hl with | [_, _], _ => rfl)) (da_nil))) (blkOk_by (N := N__law_asks) (sc := defScope s__law_asks) (by decide +kernel)) (fun _ _ _ _ _ => dg_name 3 (pg_name (i := 3) sc__law_asks.nd rfl (Or.inl rfl))) (fun _ _ _ _ _ => dts_nil) (fun _ _ _ _ _ => d_call' g__law_ask (hr.mono (by omega)) (da_cons (dv 0 (pv 0)) (da_cons (dv 1 (pv 1)) (da_nil))) (fun _ _ _ _ _ _ us hl => match us, hl with | [_, _], _ => rfl)) (by decide)))
abbrev s__law_same : Stmt := topS 11
abbrev N__law_same : List Str := ["_law_found", "_law_due", "_law_mine", "_law_its"]
theorem sc__law_same : FnScope N__law_same ["_law_found", "_law_due"] (defScope s__law_same) := ⟨rfl, rfl, rfl, by decide +kernel, rfl, by decide +kernel, by decide +kernel⟩
theorem ok__law_same (f : Addr) (fd : FuncData) (F : Fun K "_law_same" "_law_same" s__law_same f fd) (hm : mg "_law_same" = some (.ref f)) (B : Bi mg)   : ∀ n : Nat, GD P w K mg base (n) "_law_same" s__law_same ["_law_found", "_law_due"] (m__law_same n)
  | 0 => GD.no F hm
  | n + 1 => have ih := ok__law_same f fd F hm B  n
    gd_ok false F hm sc__law_same fun cdv A outer s H E hr =>
    ds_cons (ds_if (dt_val (d_isi2 B.isinstance B.list bt_list (.inr (.inr (.inr (.inl rfl)))) B.tuple bt_tuple (.inr (.inr (.inr (.inr (.inl rfl))))) (dv 1 (pv 1)))) (ds_cons (ds_if (PW.pt (dw_or (t_ne hr.room (d_isi B.isinstance B.list bt_list (.inr (.inr (.inr (.inl rfl)))) (dv 0 (pv 0))) (d_isi B.isinstance B.list bt_list (.inr (.inr (.inr (.inl rfl)))) (dv 1 (pv 1)))) (dw_or1 (t_ne hr.room (d_isi B.isinstance B.tuple bt_tuple (.inr (.inr (.inr (.inr (.inl rfl))))) (dv 0 (pv 0))) (d_isi B.isinstance B.tuple bt_tuple (.inr (.inr (.inr (.inr (.inl rfl))))) (dv 1 (pv 1))))))) (ds_one (ds_ret (d_bl))) (ds_nil))
    (ds_cons (ds_if (t_ne hr.room (d_len B.len (da_cons (dv 0 (pv 0)) (da_nil))) (d_len B.len (da_cons (dv 1 (pv 1)) (da_nil)))) (ds_one (ds_ret (d_bl))) (ds_nil))
    (ds_one (ds_ret (d_all rfl B.all (da_cons (d_lc false (own := [("_law_mine", 2), ("_law_its", 3)]) rfl sc__law_same.nd (di_zip B.zip (da_cons (dv 0 (pv 0)) (da_cons (dv 1 (pv 1)) (da_nil)))) (blkOk_by (N := N__law_same) (sc := defScope s__law_same) (by decide +kernel)) (fun _ _ _ _ _ => dg_tup rfl (dgs_cons (dg_name 2 (pg_name (i := 2) sc__law_same.nd rfl (Or.inl rfl))) (dgs_cons (dg_name 3 (pg_name (i := 3) sc__law_same.nd rfl (Or.inl rfl))) (dgs_nil)))) (fun _ _ _ _ _ => dts_nil) (fun _ _ _ _ _ => d_call' ih hr (da_cons (dv 2 (pv 2)) (da_cons (dv 3 (pv 3)) (da_nil))) (fun _ _ _ _ _ _ us hl => match us, hl with | [_, _], _ => rfl)) (by decide)) (da_nil))))))) (ds_nil))
    (ds_cons (ds_if (PW.pt (dw_or (t_is (dv 1 (pv 1)) (d_non)) (dw_or1 (dt_val (d_isi B.isinstance B.str bt_str (.inr (.inr (.inl rfl))) (dv 1 (pv 1))))))) (ds_one (ds_ret (d_and (d_eq hr.room (dv 0 (pv 0)) (dv 1 (pv 1))) (d_one (d_eq hr.room (d_isi B.isinstance B.str bt_str (.inr (.inr (.inl rfl))) (dv 0 (pv 0))) (d_isi B.isinstance B.str bt_str (.inr (.inr (.inl rfl))) (dv 1 (pv 1)))))))) (ds_nil))
    (ds_one (ds_ret (d_and (d_isi B.isinstance B.int bt_int (.inl rfl) (dv 0 (pv 0))) (d_and (d_eq hr.room (d_isi B.isinstance B.bool bt_bool (.inr (.inl rfl)) (dv 0 (pv 0))) (d_isi B.isinstance B.bool bt_bool (.inr (.inl rfl)) (dv 1 (pv 1)))) (d_one (d_eq hr.room (dv 0 (pv 0)) (dv 1 (pv 1)))))))))
abbrev s__law_lists : Stmt := topS 12
abbrev N__law_lists : List Str := ["_law_matter", "_law_part"]
theorem sc__law_lists : FnScope N__law_lists ["_law_matter"] (defScope s__law_lists) := ⟨rfl, rfl, rfl, by decide +kernel, rfl, by decide +kernel, by decide +kernel⟩
theorem ok__law_lists (f : Addr) (fd : FuncData) (F : Fun K "_law_lists" "_law_lists" s__law_lists f fd) (hm : mg "_law_lists" = some (.ref f)) (B : Bi mg)   : ∀ n : Nat, GD P w K mg base (n) "_law_lists" s__law_lists ["_law_matter"] (m__law_lists n)
  | 0 => GD.no F hm
  | n + 1 => have ih := ok__law_lists f fd F hm B  n
    gd_ok false F hm sc__law_lists fun cdv A outer s H E hr =>
    ds_one (ds_ret (d_if (dt_val (d_isi2 B.isinstance B.list bt_list (.inr (.inr (.inr (.inl rfl)))) B.tuple bt_tuple (.inr (.inr (.inr (.inr (.inl rfl))))) (dv 0 (pv 0)))) (d_lc false (own := [("_law_part", 1)]) rfl sc__law_lists.nd (di_seq (dv 0 (pv 0))) (blkOk_by (N := N__law_lists) (sc := defScope s__law_lists) (by decide +kernel)) (fun _ _ _ _ _ => dg_name 1 (pg_name (i := 1) sc__law_lists.nd rfl (Or.inl rfl))) (fun _ _ _ _ _ => dts_nil) (fun _ _ _ _ _ => d_call' ih hr (da_cons (dv 1 (pv 1)) (da_nil)) (fun _ _ _ _ _ _ us hl => match us, hl with | [_], _ => rfl)) (by decide)) (dv 0 (pv 0))))
abbrev s__law_right : Stmt := topS 20
abbrev N__law_right : List Str := ["_law_box_here", "_law_crew_here", "_law_asks_here", "_law_again", "_law_kept", "_law_lists_here", "_law_due", "_law_turn", "_law_first", "_law_second", "_law_found", "_law_near", "_law_side"]
theorem sc__law_right : FnScope N__law_right ["_law_box_here"] (defScope s__law_right) := ⟨rfl, rfl, rfl, by decide +kernel, rfl, by decide +kernel, by decide +kernel⟩
theorem ok__law_right (f : Addr) (fd : FuncData) (F : Fun K "_law_right" "_law_right" s__law_right f fd) (hm : mg "_law_right" = some (.ref f)) (B : Bi mg)  (g__law_asks : GD P w K mg base 4 "_law_asks" s__law_asks ["_law_box_here", "_law_crew_here", "_law_size"] m__law_asks) (g__law_crew : GD P w K mg base 3 "_law_crew" s__law_crew ["_law_box_here", "_law_most"] m__law_crew) (g__law_two : GD P w K mg base 2 "_law_two" s__law_two ["_law_box_here", "_law_crew_here"] m__law_two) (g__law_walk : GD P w K mg base 1 "_law_walk" s__law_walk ["_law_asks_here", "_law_first", "_law_second"] m__law_walk) (g__law_same : GD P w K mg base 12 "_law_same" s__law_same ["_law_found", "_law_due"] (m__law_same 12)) (g__law_lists : GD P w K mg base 12 "_law_lists" s__law_lists ["_law_matter"] (m__law_lists 12)) (g_walks : GD P w K mg base 3 "walks" s_walks ["word", "one", "other"] m_walks) (g_walks__M : GD P w K mg base 3 "walks" s_walks ["word", "one", "other"] m_walks__M) (g_pair_of : GD P w K mg base 4 "pair_of" s_pair_of ["word", "one", "other"] m_pair_of) : GD P w K mg base 13 "_law_right" s__law_right ["_law_box_here"] m__law_right := gd_ok false F hm sc__law_right fun cdv A outer s H E hr =>
    ds_cons (ds_set (ps_set (i := 1) sc__law_right.nd rfl (Or.inl rfl) (d_add false (d_call' g__law_crew (hr.mono (by omega)) (da_cons (dv 0 (pv 0)) (da_cons (d_int) (da_nil))) (fun _ _ _ _ _ _ us hl => match us, hl with | [_, _], _ => rfl)) (d_lst false (da_cons (d_str) (da_nil))))))
    (ds_cons (ds_set (ps_set (i := 2) sc__law_right.nd rfl (Or.inl rfl) (d_call' g__law_asks (hr.mono (by omega)) (da_cons (dv 0 (pv 0)) (da_cons (dv 1 (pv 1)) (da_cons (d_int) (da_nil)))) (fun _ _ _ _ _ _ us hl => match us, hl with | [_, _, _], _ => rfl))))
    (ds_cons (ds_par2 (ps_par (i := 4) (j := 5) rfl sc__law_right.nd rfl rfl (by decide) rfl rfl (da_cons (d_repr hr B.repr (da_cons (dv 2 (pv 2)) (da_nil))) (da_cons (d_tuple B.tuple (da_cons (d_call' g__law_lists (hr.mono (by omega)) (da_cons (dv 2 (pv 2)) (da_nil)) (fun _ _ _ _ _ _ us hl => match us, hl with | [_], _ => rfl)) (da_nil))) (da_nil))) (by rfl)))
    (ds_cons (ds_for rfl PassesOwn.never (di_rng1 B.range (da_cons (d_int) (da_nil))) (dg_name 3 (pg_name (i := 3) sc__law_right.nd rfl (Or.inl rfl)))
    (ds_cons (ds_asg (d_call' g__law_two (hr.mono (by omega)) (da_cons (dv 0 (pv 0)) (da_cons (dv 1 (pv 1)) (da_nil))) (fun _ _ _ _ _ _ us hl => match us, hl with | [_, _], _ => rfl)) (dg_tup rfl (dgs_cons (dg_name 8 (pg_name (i := 8) sc__law_right.nd rfl (Or.inl rfl))) (dgs_cons (dg_name 9 (pg_name (i := 9) sc__law_right.nd rfl (Or.inl rfl))) (dgs_nil)))))
    (ds_cons (ds_set (ps_set (i := 6) sc__law_right.nd rfl (Or.inl rfl) (d_call' g__law_walk (hr.mono (by omega)) (da_cons (dv 2 (pv 2)) (da_cons (dv 8 (pv 8)) (da_cons (dv 9 (pv 9)) (da_nil)))) (fun _ _ _ _ _ _ us hl => match us, hl with | [_, _, _], _ => rfl))))
    (ds_cons (ds_for rfl PassesOwn.never (di_rng1 B.range (da_cons (d_int) (da_nil))) (dg_name 7 (pg_name (i := 7) sc__law_right.nd rfl (Or.inl rfl)))
    (ds_cons (ds_set (ps_set (i := 10) sc__law_right.nd rfl (Or.inl rfl) (d_pack (da_cons (d_call' g_walks__M (hr.mono (by omega)) (da_cons (dv 2 (pv 2)) (da_cons (dv 8 (pv 8)) (da_cons (dv 9 (pv 9)) (da_nil)))) (fun _ _ _ _ _ _ us hl => match us, hl with | [_, _, _], _ => rfl)) (da_cons (d_callK (ks := ["other", "one", "word"]) g_walks__M (hr.mono (by omega)) (dk_cons (dv 9 (pv 9)) (dk_cons (dv 8 (pv 8)) (dk_cons (dv 5 (pv 5)) (dk_nil)))) (fun _ _ _ _ _ _ us l hl hp => match us, hl with | [_, _, _], _ => by cases hp; rfl) rfl) (da_nil))))))
    (ds_cons (ds_if (dt_thaw 10 (dt_not (dt_val (d_call' g__law_same (hr.mono (by omega)) (da_cons (dv 10 (pv 10)) (da_cons (d_lst false (da_cons (dv 6 (pv 6)) (da_cons (dv 6 (pv 6)) (da_nil)))) (da_nil))) (fun _ _ _ _ _ _ us hl => match us, hl with | [_, _], _ => rfl))))) (ds_one (ds_ret (d_bl))) (ds_nil))
    (ds_cons (ds_expr ((pe_bm PySem.F.plainAttrs_list PySem.F.slot_list_append PySem.F.type_list_append mt_append (d_idxP hr.room (dv 10 (pv 10)) (d_int) (fun _ _ => rfl)) (da_cons (d_str) (da_nil))).weak (meth_imp s_append)))
    (ds_one (ds_expr ((pe_bm0 PySem.F.plainAttrs_list PySem.F.slot_list_clear PySem.F.type_list_clear mt_clear (d_idxP hr.room (dv 10 (pv 10)) (d_int) (fun _ _ => rfl))).weak (meth0_imp s_clear))))))))
    (ds_cons (ds_if (dt_not (dt_val (d_call' g__law_same (hr.mono (by omega)) (da_cons (d_lst false (da_cons (d_call' g_pair_of (hr.mono (by omega)) (da_cons (dv 2 (pv 2)) (da_cons (dv 8 (pv 8)) (da_cons (dv 9 (pv 9)) (da_nil)))) (fun _ _ _ _ _ _ us hl => match us, hl with | [_, _, _], _ => rfl)) (da_cons (d_callK (ks := ["other", "one", "word"]) g_pair_of (hr.mono (by omega)) (dk_cons (dv 9 (pv 9)) (dk_cons (dv 8 (pv 8)) (dk_cons (dv 5 (pv 5)) (dk_nil)))) (fun _ _ _ _ _ _ us l hl hp => match us, hl with | [_, _, _], _ => by cases hp; rfl) rfl) (da_nil)))) (da_cons (d_mul false (d_lst false (da_cons (d_idx hr.room (dv 6 (pv 6)) (d_neg (d_int)) (fun _ _ => rfl)) (da_nil))) (d_int)) (da_nil))) (fun _ _ _ _ _ _ us hl => match us, hl with | [_, _], _ => rfl)))) (ds_one (ds_ret (d_bl))) (ds_nil))
    (ds_one (ds_if (dt_not (dt_val (d_call' g__law_same (hr.mono (by omega)) (da_cons (d_call' g_walks (hr.mono (by omega)) (da_cons (dv 2 (pv 2)) (da_cons (dv 9 (pv 9)) (da_cons (dv 8 (pv 8)) (da_nil)))) (fun _ _ _ _ _ _ us hl => match us, hl with | [_, _, _], _ => rfl)) (da_cons (d_lc false (own := [("_law_near", 11), ("_law_side", 12)]) rfl sc__law_right.nd (di_seq (dv 6 (pv 6))) (blkOk_by (N := N__law_right) (sc := defScope s__law_right) (by decide +kernel)) (fun _ _ _ _ _ => dg_tup rfl (dgs_cons (dg_name 11 (pg_name (i := 11) sc__law_right.nd rfl (Or.inl rfl))) (dgs_cons (dg_name 12 (pg_name (i := 12) sc__law_right.nd rfl (Or.inl rfl))) (dgs_nil)))) (fun _ _ _ _ _ => dts_nil) (fun _ _ _ _ _ => d_tup (da_cons (dv 12 (pv 12)) (da_cons (dv 11 (pv 11)) (da_nil)))) (by decide)) (da_nil))) (fun _ _ _ _ _ _ us hl => match us, hl with | [_, _], _ => rfl)))) (ds_one (ds_ret (d_bl))) (ds_nil))))))))
    (ds_one (ds_ret (d_and (d_call' g__law_same (hr.mono (by omega)) (da_cons (d_call' g_walks (hr.mono (by omega)) (da_cons (d_lst false (da_nil)) (da_cons (d_str) (da_cons (d_str) (da_nil)))) (fun _ _ _ _ _ _ us hl => match us, hl with | [_, _, _], _ => rfl)) (da_cons (d_lst false (da_cons (d_tup (da_cons (d_str) (da_cons (d_str) (da_nil)))) (da_nil))) (da_nil))) (fun _ _ _ _ _ _ us hl => match us, hl with | [_, _], _ => rfl)) (d_one (d_eq hr.room (d_repr hr B.repr (da_cons (dv 2 (pv 2)) (da_nil))) (dv 4 (pv 4))))))))))
abbrev s_law : Stmt := topS 21
abbrev N_law : List Str := ["_law_script", "_law_k", "_law_box_here", "_law_turn"]
theorem sc_law : FnScope N_law ["_law_script"] (defScope s_law) := ⟨rfl, rfl, rfl, by decide +kernel, rfl, by decide +kernel, by decide +kernel⟩
theorem ok_law (f : Addr) (fd : FuncData) (F : Fun K "law" "law" s_law f fd) (hm : mg "law" = some (.ref f)) (B : Bi mg)  (g__law_box : GD P w K mg base 1 "_law_box" s__law_box ["_law_script", "_law_k"] m__law_box) (g__law_right : GD P w K mg base 13 "_law_right" s__law_right ["_law_box_here"] m__law_right) : FnG P w K mg base CX0 14 f fd ["_law_script"] (spD m_law) := fng_ok false F sc_law fun cdv A outer s H E hr =>
    ds_cons (ds_for rfl PassesOwn.never (di_rng1 B.range (da_cons (d_max rfl B.max (da_cons (d_int) (da_cons (d_min rfl B.min (da_cons (d_int) (da_cons (d_len B.len (da_cons (dv 0 (pv 0)) (da_nil))) (da_nil)))) (da_nil)))) (da_nil))) (dg_name 1 (pg_name (i := 1) sc_law.nd rfl (Or.inl rfl)))
    (ds_cons (ds_set (ps_set (i := 2) sc_law.nd rfl (Or.inr rfl) (d_call' g__law_box (hr.mono (by omega)) (da_cons (dv 0 (pv 0)) (da_cons (dv 1 (pv 1)) (da_nil))) (fun _ _ _ _ _ _ us hl => match us, hl with | [_, _], _ => rfl))))
    (ds_one (ds_if (dt_not (dt_val (d_all rfl B.all (da_cons (d_lc false (own := [("_law_turn", 3)]) rfl sc_law.nd (di_rng1 B.range (da_cons (d_int) (da_nil))) (blkOk_by (N := N_law) (sc := defScope s_law) (by decide +kernel)) (fun _ _ _ _ _ => dg_name 3 (pg_name (i := 3) sc_law.nd rfl (Or.inl rfl))) (fun _ _ _ _ _ => dts_nil) (fun _ _ _ _ _ => d_call' g__law_right (hr.mono (by omega)) (da_cons (dv 2 (pv 2)) (da_nil)) (fun _ _ _ _ _ _ us hl => match us, hl with | [_], _ => rfl)) (by decide)) (da_nil))))) (ds_one (ds_ret (d_bl))) (ds_nil)))))
    (ds_one (ds_ret (d_bl)))
end
theorem all_mk {l : PySem.W.OpenLaw} {w : World} {K : PySem.W.Frag} {h : Heap} {mg : Str → Option Value} {fa f0 f1 f2 f3 f4 f5 f6 f7 f8 f9 f10 f11 f12 f13 f14 f15 f16 f17 f18 : Addr} (X : K.In h) (G : h.Ns mainGlobals mg) (hfa : mg "law" = some (.ref fa))
    {od0 od1 od2 od3 od4 od5 od6 od7 od8 od9 od10 od11 od12 od13 od14 od15 od16 od17 od18 an0 an1 an2 an3 an4 an5 an6 an7 an8 an9 an10 an11 an12 an13 an14 an15 an16 an17 an18 : Option Addr} {sl0 sl1 sl2 sl3 sl4 sl5 sl6 sl7 sl8 sl9 sl10 sl11 sl12 sl13 sl14 sl15 sl16 sl17 sl18 : Array (Option Value)} {oc0 oc1 oc2 oc3 oc4 oc5 oc6 oc7 oc8 oc9 oc10 oc11 oc12 oc13 oc14 oc15 oc16 oc17 oc18 kV0 kV1 kV2 kV3 kV4 kV5 kV6 kV7 kV8 kV9 kV10 kV11 kV12 kV13 kV14 kV15 kV16 kV17 kV18 dc0 dc1 dc2 dc3 dc4 dc5 dc6 dc7 dc8 dc9 dc10 dc11 dc12 dc13 dc14 dc15 dc16 dc17 dc18 pm0 pm1 pm2 pm3 pm4 pm5 pm6 pm7 pm8 pm9 pm10 pm11 pm12 pm13 pm14 pm15 pm16 pm17 pm18 cd0 cd1 cd2 cd3 cd4 cd5 cd6 cd7 cd8 cd9 cd10 cd11 cd12 cd13 cd14 cd15 cd16 cd17 cd18 ct0 ct1 ct2 ct3 ct4 ct5 ct6 ct7 ct8 ct9 ct10 ct11 ct12 ct13 ct14 ct15 ct16 ct17 ct18 : Value}
    (a0 : PySem.W.nsIn K mainGlobals "by_names" = some (some (.ref f0))) (l0 : K.lookup f0 = some ⟨oc0, od0, .func (PySem.W.fnOf "by_names" "by_names" (defArgs s_by_names) (defBody s_by_names) (defScope s_by_names) .none kV0 dc0 pm0 an0 cd0 ct0), sl0⟩) (c0 : PySem.W.codeIn K cd0 "by_names" = true) (k0 : PySem.W.keepIn K (.ref f0) = true)
    (a1 : PySem.W.nsIn K mainGlobals "gone" = some (some (.ref f1))) (l1 : K.lookup f1 = some ⟨oc1, od1, .func (PySem.W.fnOf "gone" "gone" (defArgs s_gone) (defBody s_gone) (defScope s_gone) .none kV1 dc1 pm1 an1 cd1 ct1), sl1⟩) (c1 : PySem.W.codeIn K cd1 "gone" = true) (k1 : PySem.W.keepIn K (.ref f1) = true)
    (a2 : PySem.W.nsIn K mainGlobals "ways_back" = some (some (.ref f2))) (l2 : K.lookup f2 = some ⟨oc2, od2, .func (PySem.W.fnOf "ways_back" "ways_back" (defArgs s_ways_back) (defBody s_ways_back) (defScope s_ways_back) .none kV2 dc2 pm2 an2 cd2 ct2), sl2⟩) (c2 : PySem.W.codeIn K cd2 "ways_back" = true) (k2 : PySem.W.keepIn K (.ref f2) = true)
    (a3 : PySem.W.nsIn K mainGlobals "walked" = some (some (.ref f3))) (l3 : K.lookup f3 = some ⟨oc3, od3, .func (PySem.W.fnOf "walked" "walked" (defArgs s_walked) (defBody s_walked) (defScope s_walked) .none kV3 dc3 pm3 an3 cd3 ct3), sl3⟩) (c3 : PySem.W.codeIn K cd3 "walked" = true) (k3 : PySem.W.keepIn K (.ref f3) = true)
    (a4 : PySem.W.nsIn K mainGlobals "walks" = some (some (.ref f4))) (l4 : K.lookup f4 = some ⟨oc4, od4, .func (PySem.W.fnOf "walks" "walks" (defArgs s_walks) (defBody s_walks) (defScope s_walks) .none kV4 dc4 pm4 an4 cd4 ct4), sl4⟩) (c4 : PySem.W.codeIn K cd4 "walks" = true) (k4 : PySem.W.keepIn K (.ref f4) = true)
    (a5 : PySem.W.nsIn K mainGlobals "pair_of" = some (some (.ref f5))) (l5 : K.lookup f5 = some ⟨oc5, od5, .func (PySem.W.fnOf "pair_of" "pair_of" (defArgs s_pair_of) (defBody s_pair_of) (defScope s_pair_of) .none kV5 dc5 pm5 an5 cd5 ct5), sl5⟩) (c5 : PySem.W.codeIn K cd5 "pair_of" = true) (k5 : PySem.W.keepIn K (.ref f5) = true)
    (a6 : PySem.W.nsIn K mainGlobals "_law_box" = some (some (.ref f6))) (l6 : K.lookup f6 = some ⟨oc6, od6, .func (PySem.W.fnOf "_law_box" "_law_box" (defArgs s__law_box) (defBody s__law_box) (defScope s__law_box) .none kV6 dc6 pm6 an6 cd6 ct6), sl6⟩) (c6 : PySem.W.codeIn K cd6 "_law_box" = true) (k6 : PySem.W.keepIn K (.ref f6) = true)
    (a7 : PySem.W.nsIn K mainGlobals "_law_take" = some (some (.ref f7))) (l7 : K.lookup f7 = some ⟨oc7, od7, .func (PySem.W.fnOf "_law_take" "_law_take" (defArgs s__law_take) (defBody s__law_take) (defScope s__law_take) .none kV7 dc7 pm7 an7 cd7 ct7), sl7⟩) (c7 : PySem.W.codeIn K cd7 "_law_take" = true) (k7 : PySem.W.keepIn K (.ref f7) = true)
    (a8 : PySem.W.nsIn K mainGlobals "_law_same" = some (some (.ref f8))) (l8 : K.lookup f8 = some ⟨oc8, od8, .func (PySem.W.fnOf "_law_same" "_law_same" (defArgs s__law_same) (defBody s__law_same) (defScope s__law_same) .none kV8 dc8 pm8 an8 cd8 ct8), sl8⟩) (c8 : PySem.W.codeIn K cd8 "_law_same" = true) (k8 : PySem.W.keepIn K (.ref f8) = true)
    (a9 : PySem.W.nsIn K mainGlobals "_law_lists" = some (some (.ref f9))) (l9 : K.lookup f9 = some ⟨oc9, od9, .func (PySem.W.fnOf "_law_lists" "_law_lists" (defArgs s__law_lists) (defBody s__law_lists) (defScope s__law_lists) .none kV9 dc9 pm9 an9 cd9 ct9), sl9⟩) (c9 : PySem.W.codeIn K cd9 "_law_lists" = true) (k9 : PySem.W.keepIn K (.ref f9) = true)
    (a10 : PySem.W.nsIn K mainGlobals "_law_of" = some (some (.ref f10))) (l10 : K.lookup f10 = some ⟨oc10, od10, .func (PySem.W.fnOf "_law_of" "_law_of" (defArgs s__law_of) (defBody s__law_of) (defScope s__law_of) .none kV10 dc10 pm10 an10 cd10 ct10), sl10⟩) (c10 : PySem.W.codeIn K cd10 "_law_of" = true) (k10 : PySem.W.keepIn K (.ref f10) = true)
    (a11 : PySem.W.nsIn K mainGlobals "_law_strewn" = some (some (.ref f11))) (l11 : K.lookup f11 = some ⟨oc11, od11, .func (PySem.W.fnOf "_law_strewn" "_law_strewn" (defArgs s__law_strewn) (defBody s__law_strewn) (defScope s__law_strewn) .none kV11 dc11 pm11 an11 cd11 ct11), sl11⟩) (c11 : PySem.W.codeIn K cd11 "_law_strewn" = true) (k11 : PySem.W.keepIn K (.ref f11) = true)
    (a12 : PySem.W.nsIn K mainGlobals "_law_crew" = some (some (.ref f12))) (l12 : K.lookup f12 = some ⟨oc12, od12, .func (PySem.W.fnOf "_law_crew" "_law_crew" (defArgs s__law_crew) (defBody s__law_crew) (defScope s__law_crew) .none kV12 dc12 pm12 an12 cd12 ct12), sl12⟩) (c12 : PySem.W.codeIn K cd12 "_law_crew" = true) (k12 : PySem.W.keepIn K (.ref f12) = true)
    (a13 : PySem.W.nsIn K mainGlobals "_law_ask" = some (some (.ref f13))) (l13 : K.lookup f13 = some ⟨oc13, od13, .func (PySem.W.fnOf "_law_ask" "_law_ask" (defArgs s__law_ask) (defBody s__law_ask) (defScope s__law_ask) .none kV13 dc13 pm13 an13 cd13 ct13), sl13⟩) (c13 : PySem.W.codeIn K cd13 "_law_ask" = true) (k13 : PySem.W.keepIn K (.ref f13) = true)
    (a14 : PySem.W.nsIn K mainGlobals "_law_asks" = some (some (.ref f14))) (l14 : K.lookup f14 = some ⟨oc14, od14, .func (PySem.W.fnOf "_law_asks" "_law_asks" (defArgs s__law_asks) (defBody s__law_asks) (defScope s__law_asks) .none kV14 dc14 pm14 an14 cd14 ct14), sl14⟩) (c14 : PySem.W.codeIn K cd14 "_law_asks" = true) (k14 : PySem.W.keepIn K (.ref f14) = true)
    (a15 : PySem.W.nsIn K mainGlobals "_law_walk" = some (some (.ref f15))) (l15 : K.lookup f15 = some ⟨oc15, od15, .func (PySem.W.fnOf "_law_walk" "_law_walk" (defArgs s__law_walk) (defBody s__law_walk) (defScope s__law_walk) .none kV15 dc15 pm15 an15 cd15 ct15), sl15⟩) (c15 : PySem.W.codeIn K cd15 "_law_walk" = true) (k15 : PySem.W.keepIn K (.ref f15) = true)
    (a16 : PySem.W.nsIn K mainGlobals "_law_two" = some (some (.ref f16))) (l16 : K.lookup f16 = some ⟨oc16, od16, .func (PySem.W.fnOf "_law_two" "_law_two" (defArgs s__law_two) (defBody s__law_two) (defScope s__law_two) .none kV16 dc16 pm16 an16 cd16 ct16), sl16⟩) (c16 : PySem.W.codeIn K cd16 "_law_two" = true) (k16 : PySem.W.keepIn K (.ref f16) = true)
    (a17 : PySem.W.nsIn K mainGlobals "_law_right" = some (some (.ref f17))) (l17 : K.lookup f17 = some ⟨oc17, od17, .func (PySem.W.fnOf "_law_right" "_law_right" (defArgs s__law_right) (defBody s__law_right) (defScope s__law_right) .none kV17 dc17 pm17 an17 cd17 ct17), sl17⟩) (c17 : PySem.W.codeIn K cd17 "_law_right" = true) (k17 : PySem.W.keepIn K (.ref f17) = true)
    (a18 : PySem.W.nsIn K mainGlobals "law" = some (some (.ref f18))) (l18 : K.lookup f18 = some ⟨oc18, od18, .func (PySem.W.fnOf "law" "law" (defArgs s_law) (defBody s_law) (defScope s_law) .none kV18 dc18 pm18 an18 cd18 ct18), sl18⟩) (c18 : PySem.W.codeIn K cd18 "law" = true) (k18 : PySem.W.keepIn K (.ref f18) = true)
    (z_len : PySem.W.nsIn K mainGlobals "len" = some none)
    (z_abs : PySem.W.nsIn K mainGlobals "abs" = some none)
    (z_int : PySem.W.nsIn K mainGlobals "int" = some none)
    (z_max : PySem.W.nsIn K mainGlobals "max" = some none)
    (z_min : PySem.W.nsIn K mainGlobals "min" = some none)
    (z_all : PySem.W.nsIn K mainGlobals "all" = some none)
    (z_any : PySem.W.nsIn K mainGlobals "any" = some none)
    (z_sum : PySem.W.nsIn K mainGlobals "sum" = some none)
    (z_tuple : PySem.W.nsIn K mainGlobals "tuple" = some none)
    (z_list : PySem.W.nsIn K mainGlobals "list" = some none)
    (z_dict : PySem.W.nsIn K mainGlobals "dict" = some none)
    (z_sorted : PySem.W.nsIn K mainGlobals "sorted" = some none)
    (z_isinstance : PySem.W.nsIn K mainGlobals "isinstance" = some none)
    (z_str : PySem.W.nsIn K mainGlobals "str" = some none)
    (z_bool : PySem.W.nsIn K mainGlobals "bool" = some none)
    (z_range : PySem.W.nsIn K mainGlobals "range" = some none)
    (z_enumerate : PySem.W.nsIn K mainGlobals "enumerate" = some none)
    (z_zip : PySem.W.nsIn K mainGlobals "zip" = some none)
    (z_reversed : PySem.W.nsIn K mainGlobals "reversed" = some none)
    (z_repr : PySem.W.nsIn K mainGlobals "repr" = some none)
    (z_set : PySem.W.nsIn K mainGlobals "set" = some none)
    : ∃ fd : FuncData, (∀ (s : Shared) (v : Value), BindsTo s fd ⟨[v], []⟩ [("_law_script", v)]) ∧ ∀ base : Heap, K.In base → base.Ns mainGlobals mg → FnG l.prog w K mg base CX0 14 fa fd ["_law_script"] (spD m_law) := by
  have e := hfa.symm.trans (PySem.W.mg_of X G a18)
  cases e
  have B : Bi mg := ⟨PySem.W.mg_none_of X G z_len, PySem.W.mg_none_of X G z_abs, PySem.W.mg_none_of X G z_int, PySem.W.mg_none_of X G z_max, PySem.W.mg_none_of X G z_min, PySem.W.mg_none_of X G z_all, PySem.W.mg_none_of X G z_any, PySem.W.mg_none_of X G z_sum, PySem.W.mg_none_of X G z_tuple, PySem.W.mg_none_of X G z_list, PySem.W.mg_none_of X G z_dict, PySem.W.mg_none_of X G z_sorted, PySem.W.mg_none_of X G z_isinstance, PySem.W.mg_none_of X G z_str, PySem.W.mg_none_of X G z_bool, PySem.W.mg_none_of X G z_range, PySem.W.mg_none_of X G z_enumerate, PySem.W.mg_none_of X G z_zip, PySem.W.mg_none_of X G z_reversed, PySem.W.mg_none_of X G z_repr, PySem.W.mg_none_of X G z_set⟩
  have F0 := fun_mk (st := s_by_names) l0 c0 k0
  have F1 := fun_mk (st := s_gone) l1 c1 k1
  have F2 := fun_mk (st := s_ways_back) l2 c2 k2
  have F3 := fun_mk (st := s_walked) l3 c3 k3
  have F4 := fun_mk (st := s_walks) l4 c4 k4
  have F5 := fun_mk (st := s_pair_of) l5 c5 k5
  have F6 := fun_mk (st := s__law_box) l6 c6 k6
  have F7 := fun_mk (st := s__law_take) l7 c7 k7
  have F8 := fun_mk (st := s__law_same) l8 c8 k8
  have F9 := fun_mk (st := s__law_lists) l9 c9 k9
  have F10 := fun_mk (st := s__law_of) l10 c10 k10
  have F11 := fun_mk (st := s__law_strewn) l11 c11 k11
  have F12 := fun_mk (st := s__law_crew) l12 c12 k12
  have F13 := fun_mk (st := s__law_ask) l13 c13 k13
  have F14 := fun_mk (st := s__law_asks) l14 c14 k14
  have F15 := fun_mk (st := s__law_walk) l15 c15 k15
  have F16 := fun_mk (st := s__law_two) l16 c16 k16
  have F17 := fun_mk (st := s__law_right) l17 c17 k17
  have F18 := fun_mk (st := s_law) l18 c18 k18
  refine ⟨PySem.W.fnOf "law" "law" (defArgs s_law) (defBody s_law) (defScope s_law) .none kV18 dc18 pm18 an18 cd18 ct18, fun s v => .of_eq rfl, fun base _ _ => ?_⟩
  have g__law_box := ok__law_box (P := l.prog) (w := w) (base := base) _ _ F6 (PySem.W.mg_of X G a6) B 
  have g__law_take := ok__law_take (P := l.prog) (w := w) (base := base) _ _ F7 (PySem.W.mg_of X G a7) B 
  have g__law_strewn := ok__law_strewn (P := l.prog) (w := w) (base := base) _ _ F11 (PySem.W.mg_of X G a11) B g__law_take
  have g__law_crew := ok__law_crew (P := l.prog) (w := w) (base := base) _ _ F12 (PySem.W.mg_of X G a12) B g__law_strewn g__law_take
  have g__law_of := ok__law_of (P := l.prog) (w := w) (base := base) _ _ F10 (PySem.W.mg_of X G a10) B g__law_take
  have g__law_ask := ok__law_ask (P := l.prog) (w := w) (base := base) _ _ F13 (PySem.W.mg_of X G a13) B g__law_take g__law_strewn g__law_of
  have g__law_asks := ok__law_asks (P := l.prog) (w := w) (base := base) _ _ F14 (PySem.W.mg_of X G a14) B g__law_ask g__law_take
  have g__law_lists := ok__law_lists (P := l.prog) (w := w) (base := base) _ _ F9 (PySem.W.mg_of X G a9) B  12
  have g__law_two := ok__law_two (P := l.prog) (w := w) (base := base) _ _ F16 (PySem.W.mg_of X G a16) B g__law_take
  have g__law_walk := ok__law_walk (P := l.prog) (w := w) (base := base) _ _ F15 (PySem.W.mg_of X G a15) B 
  have g_gone := ok_gone (P := l.prog) (w := w) (base := base) _ _ F1 (PySem.W.mg_of X G a1) B 
  have g_walked__M := ok_walked__M (P := l.prog) (w := w) (base := base) _ _ F3 (PySem.W.mg_of X G a3) B g_gone
  have g_by_names := ok_by_names (P := l.prog) (w := w) (base := base) _ _ F0 (PySem.W.mg_of X G a0) B 
  have g_ways_back := ok_ways_back (P := l.prog) (w := w) (base := base) _ _ F2 (PySem.W.mg_of X G a2) B g_by_names
  have g_walks__M := ok_walks__M (P := l.prog) (w := w) (base := base) _ _ F4 (PySem.W.mg_of X G a4) B g_walked__M g_ways_back
  have g__law_same := ok__law_same (P := l.prog) (w := w) (base := base) _ _ F8 (PySem.W.mg_of X G a8) B  12
  have g_walked := ok_walked (P := l.prog) (w := w) (base := base) _ _ F3 (PySem.W.mg_of X G a3) B g_gone
  have g_walks := ok_walks (P := l.prog) (w := w) (base := base) _ _ F4 (PySem.W.mg_of X G a4) B g_walked g_ways_back
  have g_pair_of := ok_pair_of (P := l.prog) (w := w) (base := base) _ _ F5 (PySem.W.mg_of X G a5) B g_walks
  have g__law_right := ok__law_right (P := l.prog) (w := w) (base := base) _ _ F17 (PySem.W.mg_of X G a17) B g__law_asks g__law_crew g__law_two g__law_walk g__law_same g__law_lists g_walks g_walks__M g_pair_of
  exact ok_law (P := l.prog) (w := w) (base := base) _ _ F18 (PySem.W.mg_of X G a18) B g__law_box g__law_right
end LW
open PySem PySem.W PyProof.Rows
set_option maxRecDepth 100000 in
set_option maxHeartbeats 0 in
theorem PySem.Challenge.cw_standby_k10_two_walkers_holds : PySem.Challenge.rw_standby_k10_two_walkers.Holds := by
  w_on; o_law; k_head; (case hw => w_witness2)
  k_fill
  refine DL.walk_g (l := PySem.Challenge.rw_standby_k10_two_walkers) (k := 14) (x := "_law_script") (m := LW.m_law) rfl rfl ⟨rfl, by decide, by decide⟩ (fun w h Y => PySem.W.kIn_of Y) ?nl ?F LW.law_true
  case nl => intro w; first | rfl | kernel_rfl | decide +kernel
  case F =>
    intro w mg fa h KX G hmg
    refine' LW.all_mk KX G hmg ?a0 ?l0 ?c0 ?k0 ?a1 ?l1 ?c1 ?k1 ?a2 ?l2 ?c2 ?k2 ?a3 ?l3 ?c3 ?k3 ?a4 ?l4 ?c4 ?k4 ?a5 ?l5 ?c5 ?k5 ?a6 ?l6 ?c6 ?k6 ?a7 ?l7 ?c7 ?k7 ?a8 ?l8 ?c8 ?k8 ?a9 ?l9 ?c9 ?k9 ?a10 ?l10 ?c10 ?k10 ?a11 ?l11 ?c11 ?k11 ?a12 ?l12 ?c12 ?k12 ?a13 ?l13 ?c13 ?k13 ?a14 ?l14 ?c14 ?k14 ?a15 ?l15 ?c15 ?k15 ?a16 ?l16 ?c16 ?k16 ?a17 ?l17 ?c17 ?k17 ?a18 ?l18 ?c18 ?k18 ?z_len ?z_abs ?z_int ?z_max ?z_min ?z_all ?z_any ?z_sum ?z_tuple ?z_list ?z_dict ?z_sorted ?z_isinstance ?z_str ?z_bool ?z_range ?z_enumerate ?z_zip ?z_reversed ?z_repr ?z_set
    (case a0 => k_is); (case l0 => k_is); (case c0 => k_is); (case k0 => k_is)
    (case a1 => k_is); (case l1 => k_is); (case c1 => k_is); (case k1 => k_is)
    (case a2 => k_is); (case l2 => k_is); (case c2 => k_is); (case k2 => k_is)
    (case a3 => k_is); (case l3 => k_is); (case c3 => k_is); (case k3 => k_is)
    (case a4 => k_is); (case l4 => k_is); (case c4 => k_is); (case k4 => k_is)
    (case a5 => k_is); (case l5 => k_is); (case c5 => k_is); (case k5 => k_is)
    (case a6 => k_is); (case l6 => k_is); (case c6 => k_is); (case k6 => k_is)
    (case a7 => k_is); (case l7 => k_is); (case c7 => k_is); (case k7 => k_is)
    (case a8 => k_is); (case l8 => k_is); (case c8 => k_is); (case k8 => k_is)
    (case a9 => k_is); (case l9 => k_is); (case c9 => k_is); (case k9 => k_is)
    (case a10 => k_is); (case l10 => k_is); (case c10 => k_is); (case k10 => k_is)
    (case a11 => k_is); (case l11 => k_is); (case c11 => k_is); (case k11 => k_is)
    (case a12 => k_is); (case l12 => k_is); (case c12 => k_is); (case k12 => k_is)
    (case a13 => k_is); (case l13 => k_is); (case c13 => k_is); (case k13 => k_is)
    (case a14 => k_is); (case l14 => k_is); (case c14 => k_is); (case k14 => k_is)
    (case a15 => k_is); (case l15 => k_is); (case c15 => k_is); (case k15 => k_is)
    (case a16 => k_is); (case l16 => k_is); (case c16 => k_is); (case k16 => k_is)
    (case a17 => k_is); (case l17 => k_is); (case c17 => k_is); (case k17 => k_is)
    (case a18 => k_is); (case l18 => k_is); (case c18 => k_is); (case k18 => k_is)
    (case z_len => k_is); (case z_abs => k_is); (case z_int => k_is); (case z_max => k_is); (case z_min => k_is); (case z_all => k_is); (case z_any => k_is); (case z_sum => k_is); (case z_tuple => k_is); (case z_list => k_is); (case z_dict => k_is); (case z_sorted => k_is); (case z_isinstance => k_is); (case z_str => k_is); (case z_bool => k_is); (case z_range => k_is); (case z_enumerate => k_is); (case z_zip => k_is); (case z_reversed => k_is); (case z_repr => k_is); (case z_set => k_is)
