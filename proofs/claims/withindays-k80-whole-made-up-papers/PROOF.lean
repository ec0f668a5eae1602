import PyProof.Rows.All
import Wide.All
import OpenK.AllK
import Wide.FinOn
import HandS.ForMost
import HandS.Codes
import HandS.Deep
import HandS.TupAny
import HandS.IsInst
import HandS.Style
import HandS.Flow
import HandS.SortInts
import HandS.Wide
import KE.KDictKeyed
import HandS.TupLe
import HandS.SortOrd
import KE.GoesEnum
import KE.KDictDisplayH
import KE.KDictPairs
import HandS.Iter
import KE.SortData
import HandS.SetFor
import HandS.Strs
import PyProof.SumAny
import KE.KStateDown
import Lean
import HandS.More
import HandS.WordsExc
import HandS.Defaults
import HandS.Head0
import HandS.Head1
import HandS.Head2
import HandS.HeadEnd
import HandS.HeadHook1
import HandS.HeadHook2
import PySem.Challenge.RW_withindays_k80_whole_made_up_papers
set_option Elab.async false
set_option linter.all false
set_option maxRecDepth 100000
section
set_option maxHeartbeats 4000000
/-! Ed: readings at the level of data. -/
namespace Ed
open PySem L2

/-! ### immutable data -/
mutual
inductive DT (H : Hp) : V → PyData → Prop
  | non : DT H .non .none
  | bl (b : Bool) : DT H (.bl b) (.bool b)
  | int (i : Int) : DT H (.int i) (.int i)
  | str (x : Str) : DT H (.str x) (.str x)
  | tup {a : Addr} {xs : List V} {ds : List PyData} : H a = some (.tup xs) → DTs H xs ds → DT H (.ref a) (.tuple ds)
inductive DTs (H : Hp) : List V → List PyData → Prop
  | nil : DTs H [] []
  | cons {v : V} {vs : List V} {d : PyData} {ds : List PyData} : DT H v d → DTs H vs ds → DTs H (v :: vs) (d :: ds)
end
/-- tuples stay -/
def Tx (H H' : Hp) : Prop := ∀ a xs, H a = some (.tup xs) → H' a = some (.tup xs)
theorem Tx.refl (H : Hp) : Tx H H := fun _ _ h => h
theorem Tx.trans {H H1 H2 : Hp} (a : Tx H H1) (b : Tx H1 H2) : Tx H H2 := fun x o h => b x o (a x o h)
theorem Tx.upd {H : Hp} {p : Addr} {o : HO} (h : ∀ xs, H p ≠ some (.tup xs)) : Tx H (upd H p o) := fun a xs e => by
  rw [upd_ne]
  · exact e
  · rintro rfl
    exact h xs e
section
variable {H H' : Hp}
mutual
theorem DT.tx (t : Tx H H') : ∀ {v : V} {d : PyData}, DT H v d → DT H' v d
  | _, _, .non => .non
  | _, _, .bl b => .bl b
  | _, _, .int i => .int i
  | _, _, .str x => .str x
  | _, _, .tup h hs => .tup (t _ _ h) (DTs.tx t hs)
theorem DTs.tx (t : Tx H H') : ∀ {vs : List V} {ds : List PyData}, DTs H vs ds → DTs H' vs ds
  | _, _, .nil => .nil
  | _, _, .cons h hs => .cons (DT.tx t h) (DTs.tx t hs)
end
theorem DTs.length : ∀ {vs : List V} {ds : List PyData}, DTs H vs ds → vs.length = ds.length
  | _, _, .nil => rfl
  | _, _, .cons _ hs => by simp [DTs.length hs]
theorem DTs.append : ∀ {vs ws : List V} {ds es : List PyData}, DTs H vs ds → DTs H ws es → DTs H (vs ++ ws) (ds ++ es)
  | _, _, _, _, .nil, h => h
  | _, _, _, _, .cons h hs, g => .cons h (DTs.append hs g)
theorem DTs.get : ∀ {vs : List V} {ds : List PyData} {i : Nat} {d : PyData}, DTs H vs ds → ds[i]? = some d → ∃ v, vs[i]? = some v ∧ DT H v d
  | _, _, _, _, .nil, e => by simp at e
  | _, _, 0, _, .cons h _, e => by simp at e; subst e; exact ⟨_, rfl, h⟩
  | _, _, i + 1, d, .cons _ hs, e => by
    obtain ⟨v, e1, h⟩ := DTs.get (i := i) (d := d) hs (by simpa using e)
    exact ⟨v, by simpa using e1, h⟩
theorem DTs.getV : ∀ {vs : List V} {ds : List PyData} {i : Nat} {v : V}, DTs H vs ds → vs[i]? = some v → ∃ d, ds[i]? = some d ∧ DT H v d
  | _, _, _, _, .nil, e => by simp at e
  | _, _, 0, _, .cons h _, e => by simp at e; subst e; exact ⟨_, rfl, h⟩
  | _, _, i + 1, d, .cons _ hs, e => by
    obtain ⟨v, e1, h⟩ := DTs.getV (i := i) (v := d) hs (by simpa using e)
    exact ⟨v, by simpa using e1, h⟩
theorem DTs.atI {vs : List V} {ds : List PyData} {i : Int} {d : PyData} (h : DTs H vs ds) (e : atI ds i = some d) : ∃ v, atI vs i = some v ∧ DT H v d := by
  unfold L2.atI at e ⊢
  rw [h.length]
  cases q : ixN ds.length i with
  | none => rw [q] at e; simp at e
  | some j =>
    rw [q] at e
    simp only [Option.bind_some] at e ⊢
    exact h.get e
theorem DTs.take : ∀ {vs : List V} {ds : List PyData} (n : Nat), DTs H vs ds → DTs H (vs.take n) (ds.take n)
  | _, _, 0, _ => .nil
  | _, _, _ + 1, .nil => .nil
  | _, _, n + 1, .cons h hs => .cons h (DTs.take n hs)
theorem DTs.drop : ∀ {vs : List V} {ds : List PyData} (n : Nat), DTs H vs ds → DTs H (vs.drop n) (ds.drop n)
  | _, _, 0, h => h
  | _, _, _ + 1, .nil => .nil
  | _, _, n + 1, .cons _ hs => DTs.drop n hs
theorem DTs.reverse : ∀ {vs : List V} {ds : List PyData}, DTs H vs ds → DTs H vs.reverse ds.reverse
  | _, _, .nil => .nil
  | _, _, .cons h hs => by
    rw [List.reverse_cons, List.reverse_cons]
    exact (DTs.reverse hs).append (.cons h .nil)
theorem DTs.set {v : V} {d : PyData} (hv : DT H v d) : ∀ {vs : List V} {ds : List PyData} (n : Nat), DTs H vs ds → DTs H (vs.set n v) (ds.set n d)
  | _, _, _, .nil => .nil
  | _, _, 0, .cons _ hs => .cons hv hs
  | _, _, n + 1, .cons h hs => .cons h (DTs.set hv n hs)
theorem DTs.dropLast : ∀ {vs : List V} {ds : List PyData}, DTs H vs ds → DTs H vs.dropLast ds.dropLast := fun h => by
  rw [List.dropLast_eq_take, List.dropLast_eq_take, h.length]
  exact h.take _
theorem DTs.rep {vs : List V} {ds : List PyData} (h : DTs H vs ds) : ∀ k : Nat, DTs H (List.replicate k vs).flatten (List.replicate k ds).flatten
  | 0 => .nil
  | k + 1 => by
    rw [List.replicate_succ, List.replicate_succ, List.flatten_cons, List.flatten_cons]
    exact h.append (DTs.rep h k)
theorem DTs.cut {vs : List V} {ds : List PyData} (h : DTs H vs ds) (lo hi : Option Int) : DTs H (cutV vs lo hi) ((ds.drop (HT.sIx ds.length 0 lo)).take (HT.sIx ds.length ds.length hi - HT.sIx ds.length 0 lo)) := by
  unfold cutV
  rw [h.length]
  exact (h.drop _).take _
theorem DTs.ints : ∀ (ns : List Int), DTs H (ns.map V.int) (ns.map PyData.int)
  | [] => .nil
  | n :: ns => .cons (.int n) (DTs.ints ns)
theorem DTs.ints_eq : ∀ {vs : List V} {ns : List Int}, DTs H vs (ns.map PyData.int) → vs = ns.map V.int
  | _, [], .nil => rfl
  | _, _ :: _, .cons h hs => by cases h; rw [DTs.ints_eq hs]; rfl
theorem DTs.bls_eq : ∀ {vs : List V} {bs : List Bool}, DTs H vs (bs.map PyData.bool) → vs = bs.map V.bl
  | _, [], .nil => rfl
  | _, _ :: _, .cons h hs => by cases h; rw [DTs.bls_eq hs]; rfl
theorem DTs.snoc {vs : List V} {ds : List PyData} {v : V} {d : PyData} (h : DTs H vs ds) (hv : DT H v d) : DTs H (vs ++ [v]) (ds ++ [d]) := h.append (.cons hv .nil)
/-- to the kit's own data -/
theorem DT.rec2 {K : PySem.W.Frag} : (∀ {v : V} {d : PyData}, DT H v d → Dp K H v d) := by
  intro v d h
  exact DT.rec (motive_1 := fun v d _ => Dp K H v d) (motive_2 := fun vs ds _ => DpAll K H vs ds) .non .bl .int .str (fun h _ ih => .tup (SqT.of h) ih) .nil (fun _ _ a b => .cons a b) h
theorem DTs.dpAll {K : PySem.W.Frag} : ∀ {vs : List V} {ds : List PyData}, DTs H vs ds → DpAll K H vs ds
  | _, _, .nil => .nil
  | _, _, .cons h hs => .cons h.rec2 (DTs.dpAll hs)
end

/-! ### the heap goes on: all but the draws' list stands -/
def Jd (dr : Option Addr) (H : Hp) : Prop := ∀ d, dr = some d → ∃ ns : List Int, H d = some (.lst (ns.map V.int)) ∧ (∀ n ∈ ns, 0 ≤ n) ∧ ns.length ≤ 400
def Rel (dr : Option Addr) (H H' : Hp) : Prop := ∀ a o, dr ≠ some a → H a = some o → H' a = some o
structure Ext (dr : Option Addr) (H H' : Hp) : Prop where
  rel : Rel dr H H'
  jd : Jd dr H'
section
variable {dr : Option Addr} {H H1 H2 : Hp}
theorem Rel.refl (H : Hp) : Rel dr H H := fun _ _ _ h => h
theorem Rel.trans (a : Rel dr H H1) (b : Rel dr H1 H2) : Rel dr H H2 := fun x o n h => b x o n (a x o n h)
theorem Ext.refl (j : Jd dr H) : Ext dr H H := ⟨Rel.refl H, j⟩
theorem Ext.trans (a : Ext dr H H1) (b : Ext dr H1 H2) : Ext dr H H2 := ⟨a.rel.trans b.rel, b.jd⟩
theorem Jd.ne (j : Jd dr H) {p : Addr} (h : H p = none) : dr ≠ some p := fun e => by
  obtain ⟨ns, e1, _⟩ := j p e
  rw [h] at e1; cases e1
theorem Jd.neT (j : Jd dr H) {p : Addr} {xs : List V} (h : H p = some (.tup xs)) : dr ≠ some p := fun e => by
  obtain ⟨ns, e1, _⟩ := j p e
  rw [h] at e1; cases e1
theorem Rel.tx (r : Rel dr H H1) (j : Jd dr H) : Tx H H1 := fun a xs h => r a _ (j.neT h) h
theorem Ext.tx (r : Ext dr H H1) (j : Jd dr H) : Tx H H1 := r.rel.tx j
theorem Ext.new (j : Jd dr H) {p : Addr} {o : HO} (h : H p = none) : Ext dr H (upd H p o) := by
  refine ⟨fun a u _ e => by rw [upd_ne (ne_of_none e h)]; exact e, fun d e => ?_⟩
  obtain ⟨ns, e1, r⟩ := j d e
  exact ⟨ns, by rw [upd_ne (ne_of_none e1 h)]; exact e1, r⟩
/-- an object that was not there at the start may change -/
theorem Rel.mut (r : Rel dr H H1) {p : Addr} {o : HO} (h : H p = none) : Rel dr H (upd H1 p o) := fun a u n e => by
  rw [upd_ne (ne_of_none e h)]
  exact r a u n e
theorem Jd.upd (j : Jd dr H) {p : Addr} {o : HO} (h : dr ≠ some p) : Jd dr (upd H p o) := fun d e => by
  obtain ⟨ns, e1, r⟩ := j d e
  refine ⟨ns, ?_, r⟩
  rw [upd_ne]
  · exact e1
  · rintro rfl; exact h e
theorem Rel.back (r : Rel dr H H1) (j : Jd dr H) {p : Addr} (h : H1 p = none) (n : dr ≠ some p) : H p = none := by
  cases q : H p with
  | none => rfl
  | some o => rw [r p o n q] at h; cases h
theorem Ext.back (r : Ext dr H H1) (j : Jd dr H) {p : Addr} (h : H1 p = none) : H p = none := r.rel.back j h (r.jd.ne h)
end

/-! ### values, slots -/
/-- a thing that is told by its own predicate: by value; by place (what it holds stands at fixed places: free a = a is none of them) -/
structure Gv where
  ok : Option Addr → Hp → V → Prop
  ext : ∀ {dr : Option Addr} {H H1 : Hp} {v : V}, Ext dr H H1 → Jd dr H → ok dr H v → ok dr H1 v
  st : Bool
  chg : st = true → ∀ {dr : Option Addr} {H : Hp} {v : V} {a : Addr} {o : HO}, (∀ xs, H a ≠ some (.tup xs)) → (∀ o' u, H a ≠ some (.frz o' u)) → ok dr H v → ok dr (upd H a o) v
structure Gd where
  ok : Option Addr → Hp → Addr → Prop
  free : Addr → Prop
  lf : Addr → Prop
  ext : ∀ {dr : Option Addr} {H H1 : Hp} {p : Addr}, Ext dr H H1 → Jd dr H → dr ≠ some p → ok dr H p → ok dr H1 p
  chg : ∀ {dr : Option Addr} {H : Hp} {p a : Addr} {o : HO}, free a → a ≠ p → (∀ xs, H a ≠ some (.tup xs)) → ok dr H p → ok dr (upd H a o) p
  lock : ∀ {dr : Option Addr} {H : Hp} {p d : Addr} {o : Obj} {φ : Heap → Prop}, H d = some (.ext φ) → lf d → d ≠ p → ok dr H p → ok dr (upd H d (.frz o (.ext φ))) p
  fresh : ∀ {dr : Option Addr} {H : Hp} {p a : Addr}, ok dr H p → H a = none → a ≠ p ∧ free a
/-- a value: data, a list of data, a list of lists of data -/
inductive Vd where
  | d (e : PyData) | l (ds : List PyData) | ll (ls : List (List PyData)) | g (g : Gv)
def IsL (dr : Option Addr) (H : Hp) (v : V) (ds : List PyData) : Prop := ∃ p xs, v = .ref p ∧ dr ≠ some p ∧ H p = some (.lst xs) ∧ DTs H xs ds
def IsLs (dr : Option Addr) (H : Hp) : List V → List (List PyData) → Prop
  | [], [] => True
  | v :: vs, l :: ls => IsL dr H v l ∧ IsLs dr H vs ls
  | _, _ => False
def Vd.ok (dr : Option Addr) (H : Hp) (v : V) : Vd → Prop
  | .d e => DT H v e
  | .l ds => IsL dr H v ds
  | .ll ls => ∃ p xs, v = .ref p ∧ dr ≠ some p ∧ H p = some (.lst xs) ∧ IsLs dr H xs ls
  | .g gv => gv.ok dr H v
inductive Sd where
  | x | d (e : PyData) | l (p : Addr) (ds : List PyData) | r (p : Addr) | v (z : Vd) | g (p : Addr) (g : Gd)
def Sd.ok (dr : Option Addr) (H : Hp) (o : Option V) : Sd → Prop
  | .x => True
  | .d e => ∃ v, o = some v ∧ DT H v e
  | .l p ds => o = some (.ref p) ∧ dr ≠ some p ∧ ∃ xs, H p = some (.lst xs) ∧ DTs H xs ds
  | .r p => o = some (.ref p)
  | .v z => ∃ u, o = some u ∧ z.ok dr H u
  | .g p gd => o = some (.ref p) ∧ dr ≠ some p ∧ gd.ok dr H p
def Sl (dr : Option Addr) (H : Hp) (σ : L2.St) (δ : List Sd) : Prop := ∀ (i : Nat) (s : Sd), δ[i]? = some s → ∃ o, σ[i]? = some o ∧ s.ok dr H o
section
variable {dr : Option Addr} {H H1 H2 : Hp} {v : V} {z : Vd} {s : Sd} {σ : L2.St} {δ : List Sd}
theorem IsL.ext (e : Ext dr H H1) (j : Jd dr H) {ds : List PyData} (h : IsL dr H v ds) : IsL dr H1 v ds := by
  obtain ⟨p, xs, rfl, n, h1, h2⟩ := h
  exact ⟨p, xs, rfl, n, e.rel _ _ n h1, h2.tx (e.tx j)⟩
theorem IsLs.ext (e : Ext dr H H1) (j : Jd dr H) : ∀ {vs : List V} {ls : List (List PyData)}, IsLs dr H vs ls → IsLs dr H1 vs ls
  | [], [], _ => trivial
  | _ :: _, _ :: _, h => ⟨h.1.ext e j, IsLs.ext e j h.2⟩
  | [], _ :: _, h => h.elim
  | _ :: _, [], h => h.elim
theorem Vd.ext (e : Ext dr H H1) (j : Jd dr H) (h : z.ok dr H v) : z.ok dr H1 v := by
  cases z with
  | d d => exact DT.tx (e.tx j) h
  | l ds => exact IsL.ext e j h
  | ll ls =>
    obtain ⟨p, xs, rfl, n, h1, h2⟩ := h
    exact ⟨p, xs, rfl, n, e.rel _ _ n h1, h2.ext e j⟩
  | g gv => exact gv.ext e j h
theorem Sd.ext (e : Ext dr H H1) (j : Jd dr H) {o : Option V} (h : s.ok dr H o) : s.ok dr H1 o := by
  cases s with
  | x => trivial
  | d d => obtain ⟨v, e1, h⟩ := h; exact ⟨v, e1, h.tx (e.tx j)⟩
  | l p ds => obtain ⟨e1, n, xs, h1, h2⟩ := h; exact ⟨e1, n, xs, e.rel _ _ n h1, h2.tx (e.tx j)⟩
  | r p => exact h
  | v z => obtain ⟨u, e1, h⟩ := h; exact ⟨u, e1, Vd.ext e j h⟩
  | g p gd => obtain ⟨e1, n, h⟩ := h; exact ⟨e1, n, gd.ext e j n h⟩
theorem Sl.ext (e : Ext dr H H1) (j : Jd dr H) (h : Sl dr H σ δ) : Sl dr H1 σ δ := fun i s q =>
  let ⟨o, e1, h1⟩ := h i s q
  ⟨o, e1, Sd.ext e j h1⟩
theorem set_get {α : Type} {l : List α} {i k : Nat} {a t : α} (h : (l.set i a)[k]? = some t) : (k = i ∧ t = a ∧ i < l.length) ∨ (k ≠ i ∧ l[k]? = some t) := by
  by_cases hk : k = i
  · subst hk
    by_cases hl : k < l.length
    · rw [List.getElem?_set_self hl] at h
      exact .inl ⟨rfl, (Option.some.inj h).symm, hl⟩
    · rw [List.getElem?_eq_none (by simp; omega)] at h
      cases h
  · rw [List.getElem?_set_ne (Ne.symm hk)] at h
    exact .inr ⟨hk, h⟩
theorem Sl.setO (h : Sl dr H σ δ) {i : Nat} {o : Option V} (hs : s.ok dr H o) : Sl dr H (σ.set i o) (δ.set i s) := fun k t q => by
  rcases set_get q with ⟨e1, e2, hl⟩ | ⟨hk, q⟩
  · subst e1 e2
    obtain ⟨o', e1, _⟩ := h k δ[k] (by simp [hl])
    have := (List.getElem?_eq_some_iff.mp e1).1
    exact ⟨o, by simp [this], hs⟩
  · rw [List.getElem?_set_ne (Ne.symm hk)]
    exact h k t q
theorem Sl.set (h : Sl dr H σ δ) {i : Nat} (hs : s.ok dr H (some v)) : Sl dr H (σ.set i (some v)) (δ.set i s) := h.setO hs
/-- a slot whose value nobody tells -/
def wipeD (δ : List Sd) : List Nat → List Sd
  | [] => δ
  | i :: is => (wipeD δ is).set i .x
theorem Sl.wipe : ∀ {vs : List Nat} {σ : L2.St} {δ : List Sd}, Sl dr H σ δ → Sl dr H (wipe σ vs) (wipeD δ vs) := by
  intro vs
  induction vs with
  | nil => exact fun h => h
  | cons i is ih =>
    intro σ δ h
    exact (ih h).setO trivial
end
end Ed
end
section
set_option maxHeartbeats 4000000
/-! Ev: what an expression's reading gives, whatever the heap. -/
namespace Ed
open PySem L2
def Oks (dr : Option Addr) (H : Hp) : List V → List Vd → Prop
  | [], [] => True
  | v :: vs, z :: zs => z.ok dr H v ∧ Oks dr H vs zs
  | _, _ => False
def Ev (dr : Option Addr) (te : TE) (δ : List Sd) (z : Vd) : Prop := ∀ (σ : L2.St) (H : Hp), Sl dr H σ δ → Jd dr H → ∀ Q : VK, (∀ v H2, Ext dr H H2 → z.ok dr H2 v → Q v H2) → te σ H Q
/-- a new list -/
def EvN (dr : Option Addr) (te : TE) (δ : List Sd) (ds : List PyData) : Prop := ∀ (σ : L2.St) (H : Hp), Sl dr H σ δ → Jd dr H → ∀ Q : VK, (∀ p xs H2, H p = none → Ext dr H H2 → H2 p = some (.lst xs) → DTs H2 xs ds → Q (.ref p) H2) → te σ H Q
def EvA (dr : Option Addr) (ta : TA) (δ : List Sd) (zs : List Vd) : Prop := ∀ (σ : L2.St) (H : Hp), Sl dr H σ δ → Jd dr H → ∀ Q : List V → Hp → Prop, (∀ vs H2, Ext dr H H2 → Oks dr H2 vs zs → Q vs H2) → ta σ H Q
def EvT (dr : Option Addr) (tt : TT) (δ : List Sd) (b : Bool) : Prop := ∀ (σ : L2.St) (H : Hp), Sl dr H σ δ → Jd dr H → ∀ Q : Bool → Hp → Prop, (∀ H2, Ext dr H H2 → Q b H2) → tt σ H Q
def EvO (dr : Option Addr) (to : TO) (δ : List Sd) (o : Option Int) : Prop := ∀ (σ : L2.St) (H : Hp), Sl dr H σ δ → Jd dr H → ∀ Q : Option Int → Hp → Prop, (∀ H2, Ext dr H H2 → Q o H2) → to σ H Q
def RR (dr : Option Addr) (r : R2) (x y z : Vd) : Prop := ∀ (v w : V) (H : Hp), x.ok dr H v → y.ok dr H w → Jd dr H → ∀ Q : VK, (∀ u H2, Ext dr H H2 → z.ok dr H2 u → Q u H2) → r v w H Q
def RN (dr : Option Addr) (r : R2) (x y : Vd) (ds : List PyData) : Prop := ∀ (v w : V) (H : Hp), x.ok dr H v → y.ok dr H w → Jd dr H → ∀ Q : VK, (∀ p xs H2, H p = none → Ext dr H H2 → H2 p = some (.lst xs) → DTs H2 xs ds → Q (.ref p) H2) → r v w H Q
def RC (dr : Option Addr) (r : List V → Hp → VK → Prop) (zs : List Vd) (z : Vd) : Prop := ∀ (vs : List V) (H : Hp), Oks dr H vs zs → Jd dr H → ∀ Q : VK, (∀ u H2, Ext dr H H2 → z.ok dr H2 u → Q u H2) → r vs H Q
def RCN (dr : Option Addr) (r : List V → Hp → VK → Prop) (zs : List Vd) (ds : List PyData) : Prop := ∀ (vs : List V) (H : Hp), Oks dr H vs zs → Jd dr H → ∀ Q : VK, (∀ p xs H2, H p = none → Ext dr H H2 → H2 p = some (.lst xs) → DTs H2 xs ds → Q (.ref p) H2) → r vs H Q

section
variable {K : PySem.W.Frag} {dr : Option Addr} {δ : List Sd} {ta tb tc te : TE} {t u : TT} {x y z : Vd} {r r' : R2} {d e : PyData} {ds es : List PyData}
theorem Oks.ext {H H1 : Hp} (a : Ext dr H H1) (j : Jd dr H) : ∀ {vs : List V} {zs : List Vd}, Oks dr H vs zs → Oks dr H1 vs zs
  | [], [], _ => trivial
  | _ :: _, _ :: _, h => ⟨Vd.ext a j h.1, Oks.ext a j h.2⟩
  | [], _ :: _, h => h.elim
  | _ :: _, [], h => h.elim
theorem Oks.len {H : Hp} : ∀ {vs : List V} {zs : List Vd}, Oks dr H vs zs → vs.length = zs.length
  | [], [], _ => rfl
  | _ :: _, _ :: _, h => by simp [Oks.len h.2]
  | [], _ :: _, h => h.elim
  | _ :: _, [], h => h.elim
theorem EvN.ev (h : EvN dr te δ ds) : Ev dr te δ (.l ds) := fun σ H s j Q q => h σ H s j Q fun p xs H2 hp e h2 hd => q _ _ e ⟨p, xs, rfl, j.ne hp, h2, hd⟩
theorem Ev.is {z' : Vd} (h : Ev dr te δ z) (e : z = z') : Ev dr te δ z' := e ▸ h
theorem EvN.is {es : List PyData} (h : EvN dr te δ ds) (e : ds = es) : EvN dr te δ es := e ▸ h
theorem EvT.is {b c : Bool} (h : EvT dr t δ b) (e : b = c) : EvT dr t δ c := e ▸ h
/-! ### names, constants -/
theorem ev_var {i : Nat} (h : δ[i]? = some (.d d)) : Ev dr (tVar i) δ (.d d) := fun σ H s j Q q => by
  obtain ⟨o, e1, v, e2, hv⟩ := s i _ h
  subst e2
  exact ⟨v, e1, q v H (Ext.refl j) hv⟩
theorem ev_varL {i : Nat} {p : Addr} (h : δ[i]? = some (.l p ds)) : Ev dr (tVar i) δ (.l ds) := fun σ H s j Q q => by
  obtain ⟨o, e1, e2, n, xs, h1, h2⟩ := s i _ h
  subst e2
  exact ⟨_, e1, q _ H (Ext.refl j) ⟨p, xs, rfl, n, h1, h2⟩⟩
theorem ev_varV {i : Nat} (h : δ[i]? = some (.v z)) : Ev dr (tVar i) δ z := fun σ H s j Q q => by
  obtain ⟨o, e1, v, e2, hv⟩ := s i _ h
  subst e2
  exact ⟨v, e1, q v H (Ext.refl j) hv⟩
theorem ev_int {i : Int} : Ev dr (tC (.int i)) δ (.d (.int i)) := fun σ H s j Q q => q _ H (Ext.refl j) (.int i)
theorem ev_bl {b : Bool} : Ev dr (tC (.bl b)) δ (.d (.bool b)) := fun σ H s j Q q => q _ H (Ext.refl j) (.bl b)
theorem ev_str {w : Str} : Ev dr (tC (.str w)) δ (.d (.str w)) := fun σ H s j Q q => q _ H (Ext.refl j) (.str w)
theorem ev_non : Ev dr (tC .non) δ (.d .none) := fun σ H s j Q q => q _ H (Ext.refl j) .non
/-! ### arguments, displays -/
theorem ea_nil : EvA dr tNil δ [] := fun σ H s j Q q => q [] H (Ext.refl j) trivial
theorem ea_cons {tr : TA} {zs : List Vd} (h : Ev dr ta δ z) (hr : EvA dr tr δ zs) : EvA dr (tCons ta tr) δ (z :: zs) := fun σ H s j Q q =>
  h σ H s j _ fun v H1 e1 h1 => hr σ H1 (s.ext e1 j) e1.jd _ fun vs H2 e2 h2 => q _ H2 (e1.trans e2) ⟨Vd.ext e2 e1.jd h1, h2⟩
/-- all arguments are data -/
theorem Oks.dts {H : Hp} : ∀ {vs : List V} {ds : List PyData}, Oks dr H vs (ds.map Vd.d) → DTs H vs ds
  | [], [], _ => .nil
  | _ :: _, _ :: _, h => .cons h.1 (Oks.dts h.2)
  | [], _ :: _, h => h.elim
  | _ :: _, [], h => h.elim
def small (n : Nat) : Prop := n ≤ 1000000
theorem small.line {n : Nat} (h : small n) : n ≤ sizeLine := Nat.le_trans h (by decide)
theorem small.lt {n : Nat} (h : n < 1000000) : n < sizeLine := Nat.lt_of_lt_of_le h (by decide)
theorem ev_tup {ta : TA} (h : EvA dr ta δ (ds.map Vd.d)) (hl : small ds.length) : Ev dr (tTup ta) δ (.d (.tuple ds)) := fun σ H s j Q q =>
  h σ H s j _ fun vs H1 e1 h1 => ⟨by rw [h1.dts.length]; exact hl.line, fun p hp => q _ _ (e1.trans (Ext.new e1.jd hp)) (.tup upd_same (h1.dts.tx (Tx.upd fun xs z => by rw [hp] at z; cases z)))⟩
theorem en_lst {ta : TA} (h : EvA dr ta δ (ds.map Vd.d)) (hl : small ds.length) : EvN dr (tLst ta) δ ds := fun σ H s j Q q =>
  h σ H s j _ fun vs H1 e1 h1 => ⟨by rw [h1.dts.length]; exact hl.line, fun p hp => q p vs _ (e1.back j hp) (e1.trans (Ext.new e1.jd hp)) upd_same (h1.dts.tx (Tx.upd fun xs z => by rw [hp] at z; cases z))⟩
/-! ### two-place operations -/
theorem ev_op (ha : Ev dr ta δ x) (hb : Ev dr tb δ y) (hr : RR dr r x y z) : Ev dr (tOp r ta tb) δ z := fun σ H s j Q q =>
  ha σ H s j _ fun v H1 e1 h1 => hb σ H1 (s.ext e1 j) e1.jd _ fun w H2 e2 h2 => hr v w H2 (Vd.ext e2 e1.jd h1) h2 e2.jd Q fun u H3 e3 h3 => q u H3 ((e1.trans e2).trans e3) h3
theorem en_op (ha : Ev dr ta δ x) (hb : Ev dr tb δ y) (hr : RN dr r x y ds) : EvN dr (tOp r ta tb) δ ds := fun σ H s j Q q =>
  ha σ H s j _ fun v H1 e1 h1 => hb σ H1 (s.ext e1 j) e1.jd _ fun w H2 e2 h2 => hr v w H2 (Vd.ext e2 e1.jd h1) h2 e2.jd Q fun p xs H3 hp e3 h3 h4 => q p xs H3 ((e1.trans e2).back j hp) ((e1.trans e2).trans e3) h3 h4
theorem int_of {H : Hp} {v : V} {i : Int} (h : (Vd.d (.int i)).ok dr H v) : v = .int i := by cases h; rfl
theorem bl_of {H : Hp} {v : V} {b : Bool} (h : (Vd.d (.bool b)).ok dr H v) : v = .bl b := by cases h; rfl
theorem str_of {H : Hp} {v : V} {w : Str} (h : (Vd.d (.str w)).ok dr H v) : v = .str w := by cases h; rfl
theorem non_of {H : Hp} {v : V} (h : (Vd.d .none).ok dr H v) : v = .non := by cases h; rfl
theorem tup_of {H : Hp} {v : V} (h : (Vd.d (.tuple ds)).ok dr H v) : ∃ a xs, v = .ref a ∧ H a = some (.tup xs) ∧ DTs H xs ds := by
  cases h with
  | tup h1 h2 => exact ⟨_, _, rfl, h1, h2⟩
theorem rr_I0 {g : Int → Int → V} {d : PyData} {i j : Int} (h : ∀ H, DT H (g i j) d) : RR dr (rI0 g) (.d (.int i)) (.d (.int j)) (.d d) := fun v w H hv hw jd Q q => by
  cases int_of hv; cases int_of hw
  exact ⟨i, j, rfl, rfl, q _ H (Ext.refl jd) (h H)⟩
theorem rr_I {C : Int → Int → Prop} {g : Int → Int → V} {d : PyData} {i j : Int} (hc : C i j) (h : ∀ H, DT H (g i j) d) : RR dr (rI C g) (.d (.int i)) (.d (.int j)) (.d d) := fun v w H hv hw jd Q q => by
  cases int_of hv; cases int_of hw
  exact ⟨i, j, rfl, rfl, hc, q _ H (Ext.refl jd) (h H)⟩
theorem rr_eqI {i j : Int} : RR dr rEq (.d (.int i)) (.d (.int j)) (.d (.bool (decide (i = j)))) := fun v w H hv hw jd Q q => by
  cases int_of hv; cases int_of hw
  have e : decide (V.int i = V.int j) = decide (i = j) := decide_eq_decide.mpr ⟨fun h => V.int.inj h, fun h => by rw [h]⟩
  exact ⟨rfl, q _ H (Ext.refl jd) (by rw [e]; exact .bl _)⟩
theorem rr_neI {i j : Int} : RR dr rNe (.d (.int i)) (.d (.int j)) (.d (.bool (!decide (i = j)))) := fun v w H hv hw jd Q q => by
  cases int_of hv; cases int_of hw
  have e : decide (V.int i = V.int j) = decide (i = j) := decide_eq_decide.mpr ⟨fun h => V.int.inj h, fun h => by rw [h]⟩
  exact ⟨rfl, q _ H (Ext.refl jd) (by rw [e]; exact .bl _)⟩
theorem rr_eqS {i j : Str} : RR dr rEq (.d (.str i)) (.d (.str j)) (.d (.bool (decide (i = j)))) := fun v w H hv hw jd Q q => by
  cases str_of hv; cases str_of hw
  have e : decide (V.str i = V.str j) = decide (i = j) := decide_eq_decide.mpr ⟨fun h => V.str.inj h, fun h => by rw [h]⟩
  exact ⟨rfl, q _ H (Ext.refl jd) (by rw [e]; exact .bl _)⟩
theorem rr_eqB {i j : Bool} : RR dr rEq (.d (.bool i)) (.d (.bool j)) (.d (.bool (decide (i = j)))) := fun v w H hv hw jd Q q => by
  cases bl_of hv; cases bl_of hw
  have e : decide (V.bl i = V.bl j) = decide (i = j) := decide_eq_decide.mpr ⟨fun h => V.bl.inj h, fun h => by rw [h]⟩
  exact ⟨rfl, q _ H (Ext.refl jd) (by rw [e]; exact .bl _)⟩
theorem rr_neB {i j : Bool} : RR dr rNe (.d (.bool i)) (.d (.bool j)) (.d (.bool (!decide (i = j)))) := fun v w H hv hw jd Q q => by
  cases bl_of hv; cases bl_of hw
  have e : decide (V.bl i = V.bl j) = decide (i = j) := decide_eq_decide.mpr ⟨fun h => V.bl.inj h, fun h => by rw [h]⟩
  exact ⟨rfl, q _ H (Ext.refl jd) (by rw [e]; exact .bl _)⟩
/-- ==, != of data -/
theorem rr_eqD (hd : SeqAt.shaped d = true) (he : SeqAt.shaped e = true) : RR dr (rEqD K) (.d d) (.d e) (.d (.bool (PyData.eqv d e))) := fun v w H hv hw jd Q q =>
  ⟨d, e, DT.rec2 hv, DT.rec2 hw, hd, he, q _ H (Ext.refl jd) (.bl _)⟩
theorem rr_neD (hd : SeqAt.shaped d = true) (he : SeqAt.shaped e = true) : RR dr (rNeD K) (.d d) (.d e) (.d (.bool (!PyData.eqv d e))) := fun v w H hv hw jd Q q =>
  ⟨d, e, DT.rec2 hv, DT.rec2 hw, hd, he, q _ H (Ext.refl jd) (.bl _)⟩
theorem isL_dp {H : Hp} {v : V} (h : IsL dr H v ds) : Dp K H v (.list ds) := by
  obtain ⟨p, xs, rfl, n, h1, h2⟩ := h
  exact .lst (SqL.of h1) h2.dpAll
theorem shaped_nil : SeqAt.shaped (.list []) = true := by decide +kernel
theorem eqv_nil (ds : List PyData) : PyData.eqv (.list ds) (.list []) = ds.isEmpty := by
  cases ds with
  | nil => simp [PyData.eqv, PyData.eqvAll]
  | cons a l => simp [PyData.eqv, PyData.eqvAll]
theorem rr_eqNil (hd : SeqAt.shaped (.list ds) = true) : RR dr (rEqD K) (.l ds) (.l []) (.d (.bool ds.isEmpty)) := fun v w H hv hw jd Q q =>
  ⟨_, _, isL_dp hv, isL_dp hw, hd, shaped_nil, q _ H (Ext.refl jd) (by rw [eqv_nil]; exact .bl _)⟩
theorem rr_neNil (hd : SeqAt.shaped (.list ds) = true) : RR dr (rNeD K) (.l ds) (.l []) (.d (.bool (!ds.isEmpty))) := fun v w H hv hw jd Q q =>
  ⟨_, _, isL_dp hv, isL_dp hw, hd, shaped_nil, q _ H (Ext.refl jd) (by rw [eqv_nil]; exact .bl _)⟩
/-- in, not in: an int in ints -/
theorem inV_ints (i : Int) : ∀ ns : List Int, inV (.int i) (ns.map V.int) = decide (i ∈ ns)
  | [] => rfl
  | n :: ns => by
    have ih := inV_ints i ns
    unfold inV at ih ⊢
    rw [List.map_cons, List.any_cons, ih]
    have e : eqV (V.int n) (V.int i) = (n == i) := rfl
    rw [e]
    by_cases h : i = n
    · subst h; simp
    · have h' : (n == i) = false := by simp; exact fun q => h q.symm
      rw [h']; simp [h]
theorem flat_ints (ns : List Int) : (ns.map V.int).all flatV = true := by simp [flatV]
theorem rr_inT {i : Int} {ns : List Int} : RR dr (rIn K false) (.d (.int i)) (.d (.tuple (ns.map PyData.int))) (.d (.bool (decide (i ∈ ns)))) := fun v w H hv hw jd Q q => by
  cases int_of hv
  obtain ⟨a, xs, rfl, h1, h2⟩ := tup_of hw
  cases h2.ints_eq
  refine ⟨a, _, rfl, Or.inr (SqT.of h1), rfl, flat_ints ns, q _ H (Ext.refl jd) ?_⟩
  rw [if_neg Bool.false_ne_true, inV_ints]
  exact .bl _
theorem rr_niT {i : Int} {ns : List Int} : RR dr (rIn K true) (.d (.int i)) (.d (.tuple (ns.map PyData.int))) (.d (.bool (!decide (i ∈ ns)))) := fun v w H hv hw jd Q q => by
  cases int_of hv
  obtain ⟨a, xs, rfl, h1, h2⟩ := tup_of hw
  cases h2.ints_eq
  refine ⟨a, _, rfl, Or.inr (SqT.of h1), rfl, flat_ints ns, q _ H (Ext.refl jd) ?_⟩
  rw [if_pos rfl, inV_ints]
  exact .bl _
theorem rr_inLi {i : Int} {ns : List Int} : RR dr (rIn K false) (.d (.int i)) (.l (ns.map PyData.int)) (.d (.bool (decide (i ∈ ns)))) := fun v w H hv hw jd Q q => by
  cases int_of hv
  obtain ⟨a, xs, rfl, n, h1, h2⟩ := hw
  cases h2.ints_eq
  refine ⟨a, _, rfl, Or.inl (SqL.of h1), rfl, flat_ints ns, q _ H (Ext.refl jd) ?_⟩
  rw [if_neg Bool.false_ne_true, inV_ints]
  exact .bl _
theorem rr_niLi {i : Int} {ns : List Int} : RR dr (rIn K true) (.d (.int i)) (.l (ns.map PyData.int)) (.d (.bool (!decide (i ∈ ns)))) := fun v w H hv hw jd Q q => by
  cases int_of hv
  obtain ⟨a, xs, rfl, n, h1, h2⟩ := hw
  cases h2.ints_eq
  refine ⟨a, _, rfl, Or.inl (SqL.of h1), rfl, flat_ints ns, q _ H (Ext.refl jd) ?_⟩
  rw [if_pos rfl, inV_ints]
  exact .bl _
/-- .. of data in a list -/
theorem rr_inD (hd : SeqAt.shaped d = true) (hs : SeqAt.shaped (.list ds) = true) : RR dr (rInD K) (.d d) (.l ds) (.d (.bool (ds.any fun z => PyData.eqv z d))) := fun v w H hv hw jd Q q =>
  ⟨d, ds, DT.rec2 hv, isL_dp hw, hd, hs, q _ H (Ext.refl jd) (.bl _)⟩
theorem rr_niD (hd : SeqAt.shaped d = true) (hs : SeqAt.shaped (.list ds) = true) : RR dr (rNotInD K) (.d d) (.l ds) (.d (.bool (!ds.any fun z => PyData.eqv z d))) := fun v w H hv hw jd Q q =>
  ⟨d, ds, DT.rec2 hv, isL_dp hw, hd, hs, q _ H (Ext.refl jd) (.bl _)⟩
/-- an item -/
theorem rr_ixT {i : Int} (h : atI ds i = some d) : RR dr (rIxT K) (.d (.tuple ds)) (.d (.int i)) (.d d) := fun v w H hv hw jd Q q => by
  cases int_of hw
  obtain ⟨a, xs, rfl, h1, h2⟩ := tup_of hv
  obtain ⟨u, e, hu⟩ := h2.atI h
  exact ⟨a, xs, i, u, rfl, rfl, SqT.of h1, e, q _ H (Ext.refl jd) hu⟩
theorem rr_ixL {i : Int} (h : atI ds i = some d) : RR dr (rIxL K) (.l ds) (.d (.int i)) (.d d) := fun v w H hv hw jd Q q => by
  cases int_of hw
  obtain ⟨a, xs, rfl, n, h1, h2⟩ := hv
  obtain ⟨u, e, hu⟩ := h2.atI h
  exact ⟨a, xs, i, u, rfl, rfl, SqL.of h1, e, q _ H (Ext.refl jd) hu⟩
theorem isLs_at {H : Hp} : ∀ {vs : List V} {ls : List (List PyData)} {i : Nat} {l : List PyData}, IsLs dr H vs ls → ls[i]? = some l → ∃ v, vs[i]? = some v ∧ IsL dr H v l
  | [], [], _, _, _, e => by simp at e
  | [], _ :: _, _, _, h, _ => h.elim
  | _ :: _, [], _, _, h, _ => h.elim
  | v :: vs, l :: ls, 0, l', h, e => by simp at e; subst e; exact ⟨v, rfl, h.1⟩
  | v :: vs, l :: ls, i + 1, l', h, e => by
    obtain ⟨u, e1, h1⟩ := isLs_at (i := i) (l := l') h.2 (by simpa using e)
    exact ⟨u, by simpa using e1, h1⟩
theorem isLs_len {H : Hp} : ∀ {vs : List V} {ls : List (List PyData)}, IsLs dr H vs ls → vs.length = ls.length
  | [], [], _ => rfl
  | _ :: _, _ :: _, h => by simp [isLs_len h.2]
  | [], _ :: _, h => h.elim
  | _ :: _, [], h => h.elim
theorem isLs_app {H : Hp} : ∀ {vs ws : List V} {ls ms : List (List PyData)}, IsLs dr H vs ls → IsLs dr H ws ms → IsLs dr H (vs ++ ws) (ls ++ ms)
  | [], _, [], _, _, g => g
  | _ :: _, _, _ :: _, _, h, g => ⟨h.1, isLs_app h.2 g⟩
  | [], _, _ :: _, _, h, _ => h.elim
  | _ :: _, _, [], _, h, _ => h.elim
theorem rr_ixLL {i : Int} {ls : List (List PyData)} (h : atI ls i = some ds) : RR dr (rIxL K) (.ll ls) (.d (.int i)) (.l ds) := fun v w H hv hw jd Q q => by
  cases int_of hw
  obtain ⟨a, xs, rfl, n, h1, h2⟩ := hv
  obtain ⟨j, hj1, hj2, _⟩ := atI_get h
  obtain ⟨u, hu1, hu2⟩ := isLs_at h2 hj2
  refine ⟨a, xs, i, u, rfl, rfl, SqL.of h1, ?_, q _ H (Ext.refl jd) hu2⟩
  unfold L2.atI at h ⊢
  rw [isLs_len h2]
  cases e : ixN ls.length i with
  | none => rw [e] at h; simp at h
  | some k =>
    have e2 := (ixN_seq e).1
    rw [hj1] at e2
    cases e2
    exact hu1
/-- tuple + tuple -/
theorem rr_catT (hl : small (ds.length + es.length)) : RR dr (rCatA K) (.d (.tuple ds)) (.d (.tuple es)) (.d (.tuple (ds ++ es))) := fun v w H hv hw jd Q q => by
  obtain ⟨a, xs, rfl, h1, h2⟩ := tup_of hv
  obtain ⟨b, ys, rfl, g1, g2⟩ := tup_of hw
  refine ⟨a, b, xs, ys, rfl, rfl, SqT.of h1, SqT.of g1, by rw [h2.length, g2.length]; exact hl.line, fun e => ?_, fun _ e => ?_, fun _ _ p hp => ?_⟩
  · subst e; cases h2
    exact q _ H (Ext.refl jd) (.tup g1 g2)
  · subst e; cases g2
    exact q _ H (Ext.refl jd) (.tup h1 (by rw [List.append_nil]; exact h2))
  · have t : Tx H (upd H p (.tup (xs ++ ys))) := Tx.upd fun xs z => by rw [hp] at z; cases z
    exact q _ _ (Ext.new jd hp) (.tup upd_same ((h2.append g2).tx t))
/-- list + list -/
theorem rn_cat (hl : small (ds.length + es.length)) : RN dr rCat (.l ds) (.l es) (ds ++ es) := fun v w H hv hw jd Q q => by
  obtain ⟨a, xs, rfl, n, h1, h2⟩ := hv
  obtain ⟨b, ys, rfl, m, g1, g2⟩ := hw
  refine ⟨a, b, xs, ys, rfl, rfl, h1, g1, by rw [h2.length, g2.length]; exact hl.line, fun p hp => ?_⟩
  have t : Tx H (upd H p (.lst (xs ++ ys))) := Tx.upd fun xs z => by rw [hp] at z; cases z
  exact q p _ _ hp (Ext.new jd hp) upd_same ((h2.append g2).tx t)
theorem rr_catLL {ls ms : List (List PyData)} (hl : small (ls.length + ms.length)) : RR dr rCat (.ll ls) (.ll ms) (.ll (ls ++ ms)) := fun v w H hv hw jd Q q => by
  obtain ⟨a, xs, rfl, n, h1, h2⟩ := hv
  obtain ⟨b, ys, rfl, m, g1, g2⟩ := hw
  refine ⟨a, b, xs, ys, rfl, rfl, h1, g1, by rw [isLs_len h2, isLs_len g2]; exact hl.line, fun p hp => ?_⟩
  have e : Ext dr H (upd H p (.lst (xs ++ ys))) := Ext.new jd hp
  exact q _ _ e ⟨p, _, rfl, jd.ne hp, upd_same, (isLs_app h2 g2).ext e jd⟩
theorem ev_lstL {ta : TA} {ls : List (List PyData)} (h : EvA dr ta δ (ls.map Vd.l)) (hl : small ls.length) : Ev dr (tLst ta) δ (.ll ls) := fun σ H s j Q q =>
  h σ H s j _ fun vs H1 e1 h1 => by
    have conv : ∀ {vs : List V} {ls : List (List PyData)}, Oks dr H1 vs (ls.map Vd.l) → IsLs dr H1 vs ls := by
      intro vs
      induction vs with
      | nil => intro ls h; cases ls with
        | nil => trivial
        | cons _ _ => exact h.elim
      | cons v vs ih => intro ls h; cases ls with
        | nil => exact h.elim
        | cons l ls => exact ⟨h.1, ih h.2⟩
    have h2 := conv h1
    refine ⟨by rw [isLs_len h2]; exact hl.line, fun p hp => ?_⟩
    have e : Ext dr H1 (upd H1 p (.lst vs)) := Ext.new e1.jd hp
    exact q _ _ (e1.trans e) ⟨p, _, rfl, e1.jd.ne hp, upd_same, h2.ext e e1.jd⟩
/-- list * int -/
theorem rn_rep {k : Int} (h1 : -(2 ^ 63) ≤ k) (h2 : k < 2 ^ 63) (hl : small (ds.length * k.toNat)) : RN dr rRep (.l ds) (.d (.int k)) (List.replicate k.toNat ds).flatten := fun v w H hv hw jd Q q => by
  cases int_of hw
  obtain ⟨a, xs, rfl, n, g1, g2⟩ := hv
  refine ⟨a, k, xs, rfl, rfl, g1, h1, h2, by rw [g2.length]; exact hl.line, fun p hp => ?_⟩
  have t : Tx H (upd H p (.lst (List.replicate k.toNat xs).flatten)) := Tx.upd fun xs z => by rw [hp] at z; cases z
  exact q p _ _ hp (Ext.new jd hp) upd_same ((g2.rep _).tx t)
/-- is None, is not None -/
def isNon : PyData → Bool
  | .none => true
  | _ => false
theorem DT.non_iff {H : Hp} {v : V} (h : DT H v d) : decide (v = .non) = isNon d := by
  cases h <;> simp [isNon]
def rIsN : R2 := fun x y H Q => y = .non ∧ Q (.bl (decide (x = .non))) H
def rNotN : R2 := fun x y H Q => y = .non ∧ Q (.bl (!decide (x = .non))) H
theorem op_isN' {X : Cx} : OpR X (compareOp .Is) rIsN := op_isN
theorem op_notN' {X : Cx} : OpR X (compareOp .IsNot) rNotN := op_notN
theorem rr_isN : RR dr rIsN (.d d) (.d .none) (.d (.bool (isNon d))) := fun v w H hv hw jd Q q => by
  cases non_of hw
  exact ⟨rfl, q _ H (Ext.refl jd) (by rw [DT.non_iff hv]; exact .bl _)⟩
theorem rr_notN : RR dr rNotN (.d d) (.d .none) (.d (.bool (!isNon d))) := fun v w H hv hw jd Q q => by
  cases non_of hw
  exact ⟨rfl, q _ H (Ext.refl jd) (by rw [DT.non_iff hv]; exact .bl _)⟩
/-! ### chains, and, or, not; tests -/
theorem ev_chain {a b : Bool} (ha : Ev dr ta δ x) (hb : Ev dr tb δ y) (hc : Ev dr tc δ z) (h1 : RR dr r x y (.d (.bool a))) (h2 : RR dr r' y z (.d (.bool b))) : Ev dr (tChain r r' ta tb tc) δ (.d (.bool (a && b))) := fun σ H s j Q q =>
  ha σ H s j _ fun v H1 e1 g1 => hb σ H1 (s.ext e1 j) e1.jd _ fun w H2 e2 g2 => h1 v w H2 (Vd.ext e2 e1.jd g1) g2 e2.jd _ fun u H3 e3 g3 => by
    cases bl_of g3
    refine ⟨a, rfl, ?_⟩
    have e12 := e1.trans e2
    cases a with
    | false =>
      rw [if_neg Bool.false_ne_true]
      exact q _ H3 (e12.trans e3) (.bl _)
    | true =>
      rw [if_pos rfl]
      exact hc σ H3 (s.ext (e12.trans e3) j) e3.jd _ fun w' H4 e4 g4 => h2 w w' H4 (Vd.ext e4 e3.jd (Vd.ext e3 e2.jd g2)) g4 e4.jd Q fun u H5 e5 g5 => q u H5 (((e12.trans e3).trans e4).trans e5) (by rw [Bool.true_and]; exact g5)
theorem ev_andV {a b : Bool} (h1 : Ev dr ta δ (.d (.bool a))) (h2 : a = true → Ev dr tb δ (.d (.bool b))) : Ev dr (tAndV ta tb) δ (.d (.bool (a && b))) := fun σ H s j Q q => h1 σ H s j _ fun v H1 e1 g1 => by
  cases bl_of g1
  refine ⟨a, rfl, ?_⟩
  cases a with
  | true =>
    rw [if_pos rfl]
    exact h2 rfl σ H1 (s.ext e1 j) e1.jd Q fun u H2 e2 g2 => q u H2 (e1.trans e2) (by rw [Bool.true_and]; exact g2)
  | false =>
    rw [if_neg Bool.false_ne_true]
    exact q _ H1 e1 (.bl _)
theorem ev_orV {a b : Bool} (h1 : Ev dr ta δ (.d (.bool a))) (h2 : a = false → Ev dr tb δ (.d (.bool b))) : Ev dr (tOrV ta tb) δ (.d (.bool (a || b))) := fun σ H s j Q q => h1 σ H s j _ fun v H1 e1 g1 => by
  cases bl_of g1
  refine ⟨a, rfl, ?_⟩
  cases a with
  | true =>
    rw [if_pos rfl]
    exact q _ H1 e1 (.bl _)
  | false =>
    rw [if_neg Bool.false_ne_true]
    exact h2 rfl σ H1 (s.ext e1 j) e1.jd Q fun u H2 e2 g2 => q u H2 (e1.trans e2) (by rw [Bool.false_or]; exact g2)
theorem ev_notV {a : Bool} (h1 : Ev dr ta δ (.d (.bool a))) : Ev dr (tNotV ta) δ (.d (.bool (!a))) := fun σ H s j Q q => h1 σ H s j _ fun v H1 e1 g1 => by
  cases bl_of g1
  exact ⟨a, rfl, q _ H1 e1 (.bl _)⟩
theorem et_B {b : Bool} (h : Ev dr te δ (.d (.bool b))) : EvT dr (tB te) δ b := fun σ H s j Q q => h σ H s j _ fun v H1 e1 g1 => by
  cases bl_of g1
  exact ⟨b, rfl, q H1 e1⟩
theorem et_test {b : Bool} (h : Ev dr te δ (.d (.bool b))) : EvT dr (tTest te) δ b := fun σ H s j Q q => h σ H s j _ fun v H1 e1 g1 => by
  cases bl_of g1
  exact ⟨b, rfl, q H1 e1⟩
theorem et_and {a b : Bool} (h1 : EvT dr t δ a) (h2 : a = true → EvT dr u δ b) : EvT dr (tAnd t u) δ (a && b) := fun σ H s j Q q => h1 σ H s j _ fun H1 e1 => by
  cases a with
  | true =>
    rw [if_pos rfl]
    exact h2 rfl σ H1 (s.ext e1 j) e1.jd Q fun H2 e2 => q H2 (e1.trans e2)
  | false =>
    rw [if_neg Bool.false_ne_true]
    exact q H1 e1
theorem et_or {a b : Bool} (h1 : EvT dr t δ a) (h2 : a = false → EvT dr u δ b) : EvT dr (tOr t u) δ (a || b) := fun σ H s j Q q => h1 σ H s j _ fun H1 e1 => by
  cases a with
  | true =>
    rw [if_pos rfl]
    exact q H1 e1
  | false =>
    rw [if_neg Bool.false_ne_true]
    exact h2 rfl σ H1 (s.ext e1 j) e1.jd Q fun H2 e2 => q H2 (e1.trans e2)
theorem et_not {a : Bool} (h1 : EvT dr t δ a) : EvT dr (tNot t) δ (!a) := fun σ H s j Q q => h1 σ H s j _ fun H1 e1 => q H1 e1
theorem et_yes : EvT dr tYes δ true := fun σ H s j Q q => q H (Ext.refl j)
/-! ### slices -/
theorem eo_none : EvO dr tNoPart δ none := fun σ H s j Q q => q H (Ext.refl j)
theorem eo_some {i : Int} (h : Ev dr te δ (.d (.int i))) : EvO dr (tPart te) δ (some i) := fun σ H s j Q q => h σ H s j _ fun v H1 e1 g1 => by
  cases int_of g1
  exact ⟨i, rfl, q H1 e1⟩
def cutD {α : Type} (ds : List α) (lo hi : Option Int) : List α := (ds.drop (HT.sIx ds.length 0 lo)).take (HT.sIx ds.length ds.length hi - HT.sIx ds.length 0 lo)
theorem cutD_whole {α : Type} {ds : List α} {lo hi : Option Int} (h : HT.sIx ds.length 0 lo = 0 ∧ HT.sIx ds.length ds.length hi = ds.length) : cutD ds lo hi = ds := by
  unfold cutD
  rw [h.1, h.2, List.drop_zero, Nat.sub_zero, List.take_length]
theorem ev_slT {tl th : TO} {lo hi : Option Int} (h : Ev dr te δ (.d (.tuple ds))) (hl : EvO dr tl δ lo) (hh : EvO dr th δ hi) : Ev dr (tSl (rSlA K) te tl th) δ (.d (.tuple (cutD ds lo hi))) := fun σ H s j Q q =>
  h σ H s j _ fun v H1 e1 g1 => hl σ H1 (s.ext e1 j) e1.jd _ fun H2 e2 => hh σ H2 (s.ext (e1.trans e2) j) e2.jd _ fun H3 e3 => by
    have e13 := (e1.trans e2).trans e3
    obtain ⟨a, xs, rfl, h1, h2⟩ := tup_of (Vd.ext e3 e2.jd (Vd.ext e2 e1.jd g1))
    refine ⟨a, xs, rfl, SqT.of h1, fun hw => ?_, fun hw p hp => ?_⟩
    · rw [h2.length] at hw
      refine q _ H3 e13 ?_
      rw [cutD_whole hw]
      exact .tup h1 h2
    · have t : Tx H3 (upd H3 p (.tup (cutV xs lo hi))) := Tx.upd fun xs z => by rw [hp] at z; cases z
      exact q _ _ (e13.trans (Ext.new e3.jd hp)) (.tup upd_same ((h2.cut lo hi).tx t))
theorem en_slL {tl th : TO} {lo hi : Option Int} (h : Ev dr te δ (.l ds)) (hl : EvO dr tl δ lo) (hh : EvO dr th δ hi) : EvN dr (tSl (rSlL K) te tl th) δ (cutD ds lo hi) := fun σ H s j Q q =>
  h σ H s j _ fun v H1 e1 g1 => hl σ H1 (s.ext e1 j) e1.jd _ fun H2 e2 => hh σ H2 (s.ext (e1.trans e2) j) e2.jd _ fun H3 e3 => by
    have e13 := (e1.trans e2).trans e3
    obtain ⟨a, xs, rfl, n, h1, h2⟩ := Vd.ext e3 e2.jd (Vd.ext e2 e1.jd g1)
    refine ⟨a, xs, rfl, SqL.of h1, fun p hp => ?_⟩
    have t : Tx H3 (upd H3 p (.lst (cutV xs lo hi))) := Tx.upd fun xs z => by rw [hp] at z; cases z
    exact q p _ _ (e13.back j hp) (e13.trans (Ext.new e3.jd hp)) upd_same ((h2.cut lo hi).tx t)
theorem en_rev (h : Ev dr te δ (.l ds)) : EvN dr (tRevL K te) δ ds.reverse := fun σ H s j Q q =>
  h σ H s j _ fun v H1 e1 g1 => by
    obtain ⟨a, xs, rfl, n, h1, h2⟩ := g1
    refine ⟨a, xs, rfl, SqL.of h1, fun p hp => ?_⟩
    have t : Tx H1 (upd H1 p (.lst xs.reverse)) := Tx.upd fun xs z => by rw [hp] at z; cases z
    exact q p _ _ (e1.back j hp) (e1.trans (Ext.new e1.jd hp)) upd_same (h2.reverse.tx t)
/-! ### built-in calls -/
theorem ev_cb {ta : TA} {zs : List Vd} {rc : List V → Hp → VK → Prop} (h : EvA dr ta δ zs) (hr : RC dr rc zs z) : Ev dr (tCB rc ta) δ z := fun σ H s j Q q =>
  h σ H s j _ fun vs H1 e1 g1 => hr vs H1 g1 e1.jd Q fun u H2 e2 g2 => q u H2 (e1.trans e2) g2
theorem en_cb {ta : TA} {zs : List Vd} {rc : List V → Hp → VK → Prop} (h : EvA dr ta δ zs) (hr : RCN dr rc zs ds) : EvN dr (tCB rc ta) δ ds := fun σ H s j Q q =>
  h σ H s j _ fun vs H1 e1 g1 => hr vs H1 g1 e1.jd Q fun p xs H2 hp e2 g2 g3 => q p xs H2 (e1.back j hp) (e1.trans e2) g2 g3
theorem oks1 {H : Hp} {vs : List V} {z : Vd} (h : Oks dr H vs [z]) : ∃ v, vs = [v] ∧ z.ok dr H v := match vs, h with
  | [v], h => ⟨v, rfl, h.1⟩
  | [], h => h.elim
  | _ :: _ :: _, h => h.2.elim
theorem oks2 {H : Hp} {vs : List V} {y z : Vd} (h : Oks dr H vs [y, z]) : ∃ v w, vs = [v, w] ∧ y.ok dr H v ∧ z.ok dr H w := match vs, h with
  | [v, w], h => ⟨v, w, rfl, h.1, h.2.1⟩
  | [], h => h.elim
  | [_], h => h.2.elim
  | _ :: _ :: _ :: _, h => h.2.2.elim
def rLen (K : PySem.W.Frag) : List V → Hp → VK → Prop := fun xs H Q => ∃ p ys, xs = [.ref p] ∧ (SqL K H p ys ∨ SqT K H p ys) ∧ Q (.int ys.length) H
theorem cr_len {X : Cx} : CallR X (.builtin "len") (rLen X.K) := call_len_seq
theorem rc_lenT : RC dr (rLen K) [.d (.tuple ds)] (.d (.int ds.length)) := fun vs H h jd Q q => by
  obtain ⟨v, rfl, g⟩ := oks1 h
  have h := g
  obtain ⟨a, xs, rfl, h1, h2⟩ := tup_of h
  exact ⟨a, xs, rfl, Or.inr (SqT.of h1), q _ H (Ext.refl jd) (by rw [h2.length]; exact .int _)⟩
theorem rc_lenL : RC dr (rLen K) [.l ds] (.d (.int ds.length)) := fun vs H h jd Q q => by
  obtain ⟨v, rfl, g⟩ := oks1 h
  have h := g
  obtain ⟨a, xs, rfl, n, h1, h2⟩ := h
  exact ⟨a, xs, rfl, Or.inl (SqL.of h1), q _ H (Ext.refl jd) (by rw [h2.length]; exact .int _)⟩
def rInt1 : List V → Hp → VK → Prop := fun xs H Q => (∃ i, xs = [.int i] ∧ Q (.int i) H) ∨ ∃ k, xs = [.bl k] ∧ Q (.int (if k then 1 else 0)) H
theorem cr_int {X : Cx} : CallR X (.type "int") rInt1 := call_int1
theorem rc_intB {b : Bool} : RC dr rInt1 [.d (.bool b)] (.d (.int (if b then 1 else 0))) := fun vs H h jd Q q => by
  obtain ⟨v, rfl, g⟩ := oks1 h
  have h := g
  cases bl_of h
  exact .inr ⟨b, rfl, q _ H (Ext.refl jd) (.int _)⟩
def rMax2 : List V → Hp → VK → Prop := fun xs H Q => ∃ i j, xs = [.int i, .int j] ∧ Q (.int (if j > i then j else i)) H
theorem cr_max2 {X : Cx} (hc : X.calm = true) : CallR X (.builtin "max") rMax2 := call_max2 hc
theorem rc_max2 {i j : Int} : RC dr rMax2 [.d (.int i), .d (.int j)] (.d (.int (max i j))) := fun vs H h jd Q q => by
  obtain ⟨v, w, rfl, g1, g2⟩ := oks2 h
  cases int_of g1; cases int_of g2
  have e : (if j > i then j else i) = max i j := by split <;> omega
  exact ⟨i, j, rfl, q _ H (Ext.refl jd) (by rw [e]; exact .int _)⟩
def rTupOf (K : PySem.W.Frag) : List V → Hp → VK → Prop := fun xs H Q => ∃ p ys, xs = [.ref p] ∧ ((SqL K H p ys ∧ ∀ l, H l = none → Q (.ref l) (upd H l (.tup ys))) ∨ (SqT K H p ys ∧ Q (.ref p) H))
theorem cr_tuple {X : Cx} : CallR X (.type "tuple") (rTupOf X.K) := call_tuple_of
theorem rc_tupL : RC dr (rTupOf K) [.l ds] (.d (.tuple ds)) := fun vs H h jd Q q => by
  obtain ⟨v, rfl, g⟩ := oks1 h
  have h := g
  obtain ⟨a, xs, rfl, n, h1, h2⟩ := h
  refine ⟨a, xs, rfl, Or.inl ⟨SqL.of h1, fun l hl => ?_⟩⟩
  have t : Tx H (upd H l (.tup xs)) := Tx.upd fun xs z => by rw [hl] at z; cases z
  exact q _ _ (Ext.new jd hl) (.tup upd_same (h2.tx t))
def rLstOf (K : PySem.W.Frag) : List V → Hp → VK → Prop := fun xs H Q => ∃ p ys, xs = [.ref p] ∧ (SqL K H p ys ∨ SqT K H p ys) ∧ ∀ l, H l = none → Q (.ref l) (upd H l (.lst ys))
theorem cr_list {X : Cx} : CallR X (.type "list") (rLstOf X.K) := call_list_of
theorem rc_lstL : RCN dr (rLstOf K) [.l ds] ds := fun vs H h jd Q q => by
  obtain ⟨v, rfl, g⟩ := oks1 h
  have h := g
  obtain ⟨a, xs, rfl, n, h1, h2⟩ := h
  refine ⟨a, xs, rfl, Or.inl (SqL.of h1), fun l hl => ?_⟩
  have t : Tx H (upd H l (.lst xs)) := Tx.upd fun xs z => by rw [hl] at z; cases z
  exact q l _ _ hl (Ext.new jd hl) upd_same (h2.tx t)
theorem rc_lstT : RCN dr (rLstOf K) [.d (.tuple ds)] ds := fun vs H h jd Q q => by
  obtain ⟨v, rfl, g⟩ := oks1 h
  have h := g
  obtain ⟨a, xs, rfl, h1, h2⟩ := tup_of h
  refine ⟨a, xs, rfl, Or.inr (SqT.of h1), fun l hl => ?_⟩
  have t : Tx H (upd H l (.lst xs)) := Tx.upd fun xs z => by rw [hl] at z; cases z
  exact q l _ _ hl (Ext.new jd hl) upd_same (h2.tx t)
theorem rc_all {bs : List Bool} : RC dr (rAll K) [.l (bs.map PyData.bool)] (.d (.bool (bs.all id))) := fun vs H h jd Q q => by
  obtain ⟨v, rfl, g⟩ := oks1 h
  have h := g
  obtain ⟨a, xs, rfl, n, h1, h2⟩ := h
  cases h2.bls_eq
  exact ⟨a, bs, rfl, SqL.of h1, q _ H (Ext.refl jd) (.bl _)⟩
theorem rc_any {bs : List Bool} : RC dr (rAny K) [.l (bs.map PyData.bool)] (.d (.bool (bs.any id))) := fun vs H h jd Q q => by
  obtain ⟨v, rfl, g⟩ := oks1 h
  have h := g
  obtain ⟨a, xs, rfl, n, h1, h2⟩ := h
  cases h2.bls_eq
  exact ⟨a, bs, rfl, SqL.of h1, q _ H (Ext.refl jd) (.bl _)⟩
theorem rcn_sorted {ns : List Int} (hl : ns.length < 64) : ∀ {δ : List Sd} {ta : TE}, Ev dr ta δ (.l (ns.map PyData.int)) → ∀ (σ : L2.St) (H : Hp), Sl dr H σ δ → Jd dr H → ∀ Q : VK,
    (∀ p (ms : List Int) H2, H p = none → Ext dr H H2 → ms.Perm ns → ms.Pairwise (· ≤ ·) → H2 p = some (.lst (ms.map V.int)) → Q (.ref p) H2) → tCB (rSorted K) (tCons ta tNil) σ H Q := fun h σ H s j Q q =>
  h σ H s j _ fun v H1 e1 g1 => by
    obtain ⟨a, xs, rfl, n, h1, h2⟩ := g1
    cases h2.ints_eq
    refine ⟨a, ns, rfl, SqL.of h1, hl, ?_⟩
    intro ns' p pm ps hp
    exact q p ns' _ (e1.back j hp) (e1.trans (Ext.new e1.jd hp)) pm ps upd_same
/-! ### isinstance -/
def clsD : PyData → String
  | .none => "NoneType" | .bool _ => "bool" | .int _ => "int" | .str _ => "str" | .list _ => "list" | .tuple _ => "tuple" | .dict _ => "dict"
theorem DT.ty {H : Hp} {v : V} (h : DT H v d) : TyX K H v (.type (clsD d)) := by
  cases h with
  | non => exact .base .non
  | bl b => exact .base (.bl b)
  | int i => exact .base (.int i)
  | str x => exact .base (.str x)
  | tup h1 _ => exact .base (.tup h1)
theorem ev_isi {n : String} {b : Bool} (h : Ev dr ta δ (.d d)) (hk : kitB (clsD d) n = some b) : Ev dr (tCB (rIsi K) (tCons ta (tCons (tC (.ty n)) tNil))) δ (.d (.bool b)) := fun σ H s j Q q =>
  h σ H s j _ fun v H1 e1 g1 => ⟨v, .ty n, .type (clsD d), .type n, b, rfl, .ty n, DT.ty g1, kit_ty hk, q _ H1 e1 (.bl _)⟩
theorem ev_isi2 {n m : String} {a b : Bool} (h : Ev dr ta δ (.d d)) (hk : kitB (clsD d) n = some a) (hm : kitB (clsD d) m = some b) :
    Ev dr (tCB (rIsiT K) (tCons ta (tCons (tTup (tCons (tC (.ty n)) (tCons (tC (.ty m)) tNil))) tNil))) δ (.d (.bool (a || b))) := fun σ H s j Q q =>
  h σ H s j _ fun v H1 e1 g1 => ⟨by show 2 ≤ sizeLine; decide, fun p hp => by
    have e2 : Ext dr H1 (upd H1 p (.tup [.ty n, .ty m])) := Ext.new e1.jd hp
    refine ⟨v, p, [.ty n, .ty m], .type (clsD d), [.type n, .type m], (a || b), rfl, upd_same, .cons (.ty n) (.cons (.ty m) .nil), DT.ty (DT.tx (e2.tx e1.jd) g1), ?_, q _ _ (e1.trans e2) (.bl _)⟩
    refine kitAny_cons (kit_ty hk) (fun ha => kitAny_cons (kit_ty hm) (fun hb => ?_) fun hb => ?_) fun ha => ?_
    · subst ha hb; exact kitAny_nil
    · subst ha hb; rfl
    · subst ha; rfl⟩
/-! ### list.index -/
theorem ev_index {d : PyData} {j : Nat} {w : PyData} (h : Ev dr ta δ (.l ds)) (hx : Ev dr tb δ (.d d)) (hs : SeqAt.shaped (.list ds) = true) (hd : SeqAt.shaped d = true) (hj : ds[j]? = some w) (he : PyData.eqv w d = true) (hn : ∀ (m : Nat) (z' : PyData), m < j → ds[m]? = some z' → PyData.eqv z' d = false) :
    Ev dr (tBM K "list" (rIndexD K) ta (tCons tb tNil)) δ (.d (.int (j : Nat))) := fun σ H s jd Q q =>
  h σ H s jd _ fun v H1 e1 g1 => by
    obtain ⟨a, xs, rfl, n, h1, h2⟩ := g1
    refine ⟨Or.inl ⟨rfl, _, SqL.of h1⟩, ?_⟩
    refine hx σ H1 (s.ext e1 jd) e1.jd _ fun w' H2 e2 g2 => ?_
    have t := e2.tx e1.jd
    refine ⟨a, w', d, ds, j, w, rfl, rfl, .lst (SqL.of (e2.rel _ _ n h1)) (h2.tx t).dpAll, DT.rec2 g2, hs, hd, hj, he, hn, q _ H2 (e1.trans e2) (.int _)⟩
/-! ### a def of the module, by its promise -/
def spP (pre : List Vd → Vd → Prop) : Sp := fun vs H Q _ => ∃ (dr : Option Addr) (zs : List Vd) (z : Vd), Oks dr H vs zs ∧ Jd dr H ∧ pre zs z ∧ ∀ v H', Ext dr H H' → z.ok dr H' v → Q v H'
theorem ev_call {ta : TA} {zs : List Vd} {pre : List Vd → Vd → Prop} (h : EvA dr ta δ zs) (hp : pre zs z) : Ev dr (tCall (spP pre) [] C8.E0 ta) δ z := fun σ H s j Q q =>
  h σ H s j _ fun vs H1 e1 g1 => by
    show spP pre (vs ++ []) H1 Q C8.E0
    rw [List.append_nil]
    exact ⟨dr, zs, z, g1, e1.jd, hp, fun v H' e2 g2 => q v H' (e1.trans e2) g2⟩
end
end Ed
end
section
set_option maxHeartbeats 4000000
/-! Wk: statements' readings over slots; loops, comprehensions; a def's promise by its body. -/
namespace Ed
open PySem L2

/-! ### comprehensions -/
theorem wipe_get (σ : L2.St) : ∀ (vs : List Nat) (k : Nat), (wipe σ vs)[k]? = if k ∈ vs then (σ[k]?).map (fun _ => none) else σ[k]?
  | [], k => by simp [wipe]
  | v :: vs, k => by
    unfold wipe
    rw [List.getElem?_set, wipe_length]
    by_cases hk : v = k
    · subst hk
      simp only [if_pos, List.mem_cons, true_or]
      by_cases hl : v < σ.length
      · simp [hl]
      · simp [hl]
    · rw [if_neg hk, wipe_get σ vs k]
      have e : (k ∈ v :: vs) ↔ k ∈ vs := by simp [Ne.symm hk]
      simp only [e]
theorem wipe_set {σ : L2.St} {vs : List Nat} {j : Nat} (h : j ∈ vs) (o : Option V) : wipe ((wipe σ vs).set j o) vs = wipe σ vs := by
  apply List.ext_getElem?
  intro k
  rw [wipe_get, wipe_get]
  by_cases hk : k ∈ vs
  · rw [if_pos hk, if_pos hk, List.getElem?_set, wipe_length, wipe_get]
    by_cases hjk : j = k
    · subst hjk
      by_cases hl : j < σ.length
      · simp [hl]
      · simp [hl]
    · rw [if_neg hjk, if_pos hk]
      cases σ[k]? <;> rfl
  · rw [if_neg hk, if_neg hk, List.getElem?_set_ne (fun e => hk (by rw [← e]; exact h)), wipe_get, if_neg hk]

section
variable {K : PySem.W.Frag} {dr : Option Addr} {δ : List Sd} {ta tb tc te tl : TE} {tt u : TT} {z : Vd} {d : PyData} {ds es : List PyData}
/-- a turn of a comprehension -/
theorem lc_step {H1 H' : Hp} {D : Addr} {acc : List V} {ds : List PyData} {gd : PyData} {b : Bool} {σ2 : L2.St} {δ2 : List Sd} {Nx : Hp → Prop} (hD : H1 D = none) (j1 : Jd dr H1) (e : Ext dr H1 H') (hacc : H' D = some (.lst acc)) (hds : DTs H' acc ds)
    (hlen : ds.length < 1000000) (hS : Sl dr H' σ2 δ2) (ht : EvT dr tt δ2 b) (he : b = true → Ev dr te δ2 (.d gd))
    (hN : ∀ H'' acc', Ext dr H1 H'' → H'' D = some (.lst acc') → DTs H'' acc' (if b = true then ds ++ [gd] else ds) → Nx H'') :
    tt σ2 H' fun b H3 => if b = true then te σ2 H3 fun y H4 => ∃ acc, H4 D = some (.lst acc) ∧ acc.length < sizeLine ∧ Nx (upd H4 D (.lst (acc ++ [y]))) else Nx H3 := by
  have nD : dr ≠ some D := j1.ne hD
  refine ht σ2 H' hS e.jd _ fun H3 e3 => ?_
  have hD3 : H3 D = some (.lst acc) := e3.rel _ _ nD hacc
  cases b with
  | false =>
    rw [if_neg Bool.false_ne_true]
    refine hN H3 acc (e.trans e3) hD3 ?_
    rw [if_neg Bool.false_ne_true]
    exact hds.tx (e3.tx e.jd)
  | true =>
    rw [if_pos rfl]
    refine he rfl σ2 H3 (hS.ext e3 e.jd) e3.jd _ fun v H4 e4 h4 => ?_
    have hD4 : H4 D = some (.lst acc) := e4.rel _ _ nD hD3
    refine ⟨acc, hD4, by rw [hds.length]; exact small.lt hlen, ?_⟩
    have t : Tx H4 (upd H4 D (.lst (acc ++ [v]))) := Tx.upd fun xs z => by rw [hD4] at z; cases z
    refine hN _ (acc ++ [v]) ⟨((e.rel.trans e3.rel).trans e4.rel).mut hD, e4.jd.upd nD⟩ upd_same ?_
    rw [if_pos rfl]
    exact (((hds.tx (e3.tx e.jd)).tx (e4.tx e3.jd)).snoc h4).tx t
theorem take_succ' {α : Type} {xs : List α} {i : Nat} {a : α} (h : xs[i]? = some a) : xs.take (i + 1) = xs.take i ++ [a] := by
  rw [List.take_succ, h]; rfl
section
variable {α : Type}
theorem fm_succ {xs : List α} {i : Nat} {a : α} {f : α → Bool} {g : α → PyData} (h : xs[i]? = some a) : (((xs.take (i + 1)).filter f).map g) = if f a = true then ((xs.take i).filter f).map g ++ [g a] else ((xs.take i).filter f).map g := by
  rw [take_succ' h, List.filter_append, List.map_append]
  by_cases e : f a = true
  · simp [e]
  · simp [e]
theorem fm_len {xs : List α} {f : α → Bool} {g : α → PyData} {i : Nat} : (((xs.take i).filter f).map g).length ≤ xs.length := by
  rw [List.length_map]
  refine Nat.le_trans (List.length_filter_le _ _) ?_
  rw [List.length_take]; omega
/-- [te for x in a tuple if tt] -/
theorem en_lcT {j : Nat} {vs : List Nat} (xs : List α) (enc : α → PyData) (f : α → Bool) (g : α → PyData) (hl : Ev dr tl δ (.d (.tuple (xs.map enc)))) (hz : xs.length < 1000000) (hj : j ∈ vs)
    (ht : ∀ a, a ∈ xs → EvT dr tt ((wipeD δ vs).set j (.d (enc a))) (f a)) (he : ∀ a, a ∈ xs → f a = true → Ev dr te ((wipeD δ vs).set j (.d (enc a))) (.d (g a))) :
    EvN dr (tLc (iTup K tl) (gName j) tt te vs) δ ((xs.filter f).map g) := fun σ H s jd Q q =>
  hl σ H s jd _ fun v H1 e1 h1 => by
    obtain ⟨a, ws, rfl, g1, g2⟩ := tup_of h1
    refine ⟨a, rfl, ⟨ws, SqT.of g1⟩, fun D hD => ?_⟩
    have t0 : Tx H1 (upd H1 D (.lst [])) := Tx.upd fun xs z => by rw [hD] at z; cases z
    refine lc_tup (xs := ws) (fun i H' => Ext dr H1 H' ∧ ∃ acc, H' D = some (.lst acc) ∧ DTs H' acc (((xs.take i).filter f).map g)) ⟨Ext.new e1.jd hD, [], upd_same, by simp; exact .nil⟩ (fun i H' _ p => SqT.of (p.1.tx e1.jd _ _ g1)) (fun i x H' hi p => ?_) (fun H' p => ?_)
    · obtain ⟨e, acc, hacc, hds⟩ := p
      obtain ⟨d', hd', hx⟩ := g2.getV hi
      rw [List.getElem?_map] at hd'
      obtain ⟨a', ha', rfl⟩ := Option.map_eq_some_iff.mp hd'
      refine ⟨wipe_set hj _, ?_⟩
      have hS : Sl dr H' ((wipe σ vs).set j (some x)) ((wipeD δ vs).set j (.d (enc a'))) := Sl.set ((s.ext (e1.trans e) jd).wipe) ⟨x, rfl, hx.tx (e.tx e1.jd)⟩
      refine lc_step hD e1.jd e hacc hds (Nat.lt_of_le_of_lt fm_len hz) hS (ht a' (List.mem_of_getElem? ha')) (he a' (List.mem_of_getElem? ha')) fun H'' acc' e'' h1 h2 => ⟨e'', acc', h1, ?_⟩
      rw [fm_succ ha']
      exact h2
    · obtain ⟨e, acc, hacc, hds⟩ := p
      have hl : ws.length = xs.length := by rw [g2.length, List.length_map]
      rw [hl, List.take_length] at hds
      exact q D acc H' (e1.back jd hD) (e1.trans e) hacc hds
/-- .. over a list -/
theorem en_lcL {j : Nat} {vs : List Nat} (xs : List α) (enc : α → PyData) (f : α → Bool) (g : α → PyData) (hl : Ev dr tl δ (.l (xs.map enc))) (hz : xs.length < 1000000) (hj : j ∈ vs)
    (ht : ∀ a, a ∈ xs → EvT dr tt ((wipeD δ vs).set j (.d (enc a))) (f a)) (he : ∀ a, a ∈ xs → f a = true → Ev dr te ((wipeD δ vs).set j (.d (enc a))) (.d (g a))) :
    EvN dr (tLc (iList K tl) (gName j) tt te vs) δ ((xs.filter f).map g) := fun σ H s jd Q q =>
  hl σ H s jd _ fun v H1 e1 h1 => by
    obtain ⟨a, ws, rfl, n, g1, g2⟩ := h1
    refine ⟨a, rfl, ⟨ws, SqL.of g1⟩, fun D hD => ?_⟩
    refine lc_list (xs := ws) (fun i H' => Ext dr H1 H' ∧ ∃ acc, H' D = some (.lst acc) ∧ DTs H' acc (((xs.take i).filter f).map g)) ⟨Ext.new e1.jd hD, [], upd_same, by simp; exact .nil⟩ (fun i H' _ p => SqL.of (p.1.rel _ _ n g1)) (fun i x H' hi p => ?_) (fun H' p => ?_)
    · obtain ⟨e, acc, hacc, hds⟩ := p
      obtain ⟨d', hd', hx⟩ := g2.getV hi
      rw [List.getElem?_map] at hd'
      obtain ⟨a', ha', rfl⟩ := Option.map_eq_some_iff.mp hd'
      refine ⟨wipe_set hj _, ?_⟩
      have hS : Sl dr H' ((wipe σ vs).set j (some x)) ((wipeD δ vs).set j (.d (enc a'))) := Sl.set ((s.ext (e1.trans e) jd).wipe) ⟨x, rfl, hx.tx (e.tx e1.jd)⟩
      refine lc_step hD e1.jd e hacc hds (Nat.lt_of_le_of_lt fm_len hz) hS (ht a' (List.mem_of_getElem? ha')) (he a' (List.mem_of_getElem? ha')) fun H'' acc' e'' h1 h2 => ⟨e'', acc', h1, ?_⟩
      rw [fm_succ ha']
      exact h2
    · obtain ⟨e, acc, hacc, hds⟩ := p
      have hl : ws.length = xs.length := by rw [g2.length, List.length_map]
      rw [hl, List.take_length] at hds
      exact q D acc H' (e1.back jd hD) (e1.trans e) hacc hds
end
/-- .. over lo, lo + 1, .. -/
def upto (lo : Int) (n : Nat) : List Int := (List.range n).map fun (i : Nat) => lo + (i : Int)
theorem upto_get {lo : Int} {n i : Nat} (h : i < n) : (upto lo n)[i]? = some (lo + (i : Int)) := by
  unfold upto; rw [List.getElem?_map, List.getElem?_range h]; rfl
theorem upto_len (lo : Int) (n : Nat) : (upto lo n).length = n := by simp [upto]
theorem mem_upto {lo : Int} {n : Nat} {i : Int} : i ∈ upto lo n ↔ lo ≤ i ∧ i < lo + (n : Int) := by
  unfold upto
  rw [List.mem_map]
  constructor
  · rintro ⟨a, h, rfl⟩
    rw [List.mem_range] at h
    omega
  · intro h
    exact ⟨(i - lo).toNat, by rw [List.mem_range]; omega, by omega⟩
theorem en_lcI {J : It} {wi : TI} {j : Nat} {vs : List Nat} {lo : Int} {n : Nat} (f : Int → Bool) (g : Int → PyData) (hz : n < 1000000) (hj : j ∈ vs)
    (hw : ∀ (σ : L2.St) (H : Hp), Sl dr H σ δ → Jd dr H → ∀ R : It → Hp → Prop, (∀ H1, Ext dr H H1 → R (Itr lo n) H1) → wi σ H R)
    (ht : ∀ i, lo ≤ i → i < lo + n → EvT dr tt ((wipeD δ vs).set j (.d (.int i))) (f i)) (he : ∀ i, lo ≤ i → i < lo + n → f i = true → Ev dr te ((wipeD δ vs).set j (.d (.int i))) (.d (g i))) :
    EvN dr (tLc wi (gName j) tt te vs) δ (((upto lo n).filter f).map g) := fun σ H s jd Q q =>
  hw σ H s jd _ fun H1 e1 D hD => by
    refine lc_range (lo := lo) (n := n) (fun i H' => Ext dr H1 H' ∧ ∃ acc, H' D = some (.lst acc) ∧ DTs H' acc ((((upto lo n).take i).filter f).map g)) ⟨Ext.new e1.jd hD, [], upd_same, by simp; exact .nil⟩ (fun i H' hi p => ?_) (fun H' p => ?_)
    · obtain ⟨e, acc, hacc, hds⟩ := p
      refine ⟨wipe_set hj _, ?_⟩
      have hS : Sl dr H' ((wipe σ vs).set j (some (.int (lo + (i : Int))))) ((wipeD δ vs).set j (.d (.int (lo + (i : Int))))) := Sl.set ((s.ext (e1.trans e) jd).wipe) ⟨_, rfl, .int _⟩
      refine lc_step hD e1.jd e hacc hds (Nat.lt_of_le_of_lt fm_len (by rw [upto_len]; exact hz)) hS (ht _ (by omega) (by omega)) (he _ (by omega) (by omega)) fun H'' acc' e'' h1 h2 => ⟨e'', acc', h1, ?_⟩
      rw [fm_succ (upto_get hi)]
      exact h2
    · obtain ⟨e, acc, hacc, hds⟩ := p
      have hl : (upto lo n).take n = upto lo n := List.take_of_length_le (by rw [upto_len]; omega)
      rw [hl] at hds
      exact q D acc H' (e1.back jd hD) (e1.trans e) hacc hds
theorem iv_r1 {ta : TA} {n : Int} (h : EvA dr ta δ [.d (.int n)]) (h1 : n ≤ 1000000) (h0 : -1000000 ≤ n) : ∀ (σ : L2.St) (H : Hp), Sl dr H σ δ → Jd dr H → ∀ R : It → Hp → Prop, (∀ H1, Ext dr H H1 → R (Itr 0 n.toNat) H1) → iRng1 ta σ H R := fun σ H s jd R q =>
  h σ H s jd _ fun vs H1 e1 g1 => by
    obtain ⟨v, rfl, g⟩ := oks1 g1
    cases int_of g
    exact ⟨n, rfl, by omega, by omega, q H1 e1⟩
theorem iv_r2 {ta : TA} {lo n : Int} (h : EvA dr ta δ [.d (.int lo), .d (.int n)]) (h1 : n ≤ 1000000) (h0 : -1000000 ≤ n) (l1 : lo ≤ 1000000) (l0 : -1000000 ≤ lo) : ∀ (σ : L2.St) (H : Hp), Sl dr H σ δ → Jd dr H → ∀ R : It → Hp → Prop, (∀ H1, Ext dr H H1 → R (Itr lo (n - lo).toNat) H1) → iRng2 ta σ H R := fun σ H s jd R q =>
  h σ H s jd _ fun vs H1 e1 g1 => by
    obtain ⟨v, w, rfl, g, g'⟩ := oks2 g1
    cases int_of g; cases int_of g'
    exact ⟨lo, n, rfl, ⟨by omega, by omega, by omega, by omega⟩, q H1 e1⟩
theorem en_lcR1 {ta : TA} {j : Nat} {vs : List Nat} {n : Int} (f : Int → Bool) (g : Int → PyData) (h : EvA dr ta δ [.d (.int n)]) (h1 : n < 1000000) (h0 : -1000000 ≤ n) (hj : j ∈ vs)
    (ht : ∀ i, 0 ≤ i → i < n → EvT dr tt ((wipeD δ vs).set j (.d (.int i))) (f i)) (he : ∀ i, 0 ≤ i → i < n → f i = true → Ev dr te ((wipeD δ vs).set j (.d (.int i))) (.d (g i))) :
    EvN dr (tLc (iRng1 ta) (gName j) tt te vs) δ (((upto 0 n.toNat).filter f).map g) :=
  en_lcI (J := Itr 0 n.toNat) f g (by omega) hj (iv_r1 h (by omega) h0) (fun i a b => ht i a (by omega)) (fun i a b => he i a (by omega))
theorem en_lcR2 {ta : TA} {j : Nat} {vs : List Nat} {lo n : Int} (f : Int → Bool) (g : Int → PyData) (h : EvA dr ta δ [.d (.int lo), .d (.int n)]) (h1 : n ≤ 400000) (h0 : -400000 ≤ n) (l1 : lo ≤ 400000) (l0 : -400000 ≤ lo) (hj : j ∈ vs)
    (ht : ∀ i, lo ≤ i → i < n → EvT dr tt ((wipeD δ vs).set j (.d (.int i))) (f i)) (he : ∀ i, lo ≤ i → i < n → f i = true → Ev dr te ((wipeD δ vs).set j (.d (.int i))) (.d (g i))) :
    EvN dr (tLc (iRng2 ta) (gName j) tt te vs) δ (((upto lo (n - lo).toNat).filter f).map g) :=
  en_lcI (J := Itr lo (n - lo).toNat) f g (by omega) hj (iv_r2 h (by omega) (by omega) (by omega) (by omega)) (fun i a b => ht i a (by omega)) (fun i a b => he i a (by omega))

/-! ### statements -/
structure BOk (dr : Option Addr) (B : Hp → Prop) : Prop where
  ext : ∀ {H H' : Hp}, B H → Jd dr H → Ext dr H H' → B H'
  mu : ∀ {H : Hp} {p : Addr}, B H → Jd dr H → H p = none → ∀ H' o, (∀ xs, H' p ≠ some (.tup xs)) → B H' → B (upd H' p o)
def Mu (B : Hp → Prop) (p : Addr) : Prop := ∀ H' o, (∀ xs, H' p ≠ some (.tup xs)) → B H' → B (upd H' p o)
theorem bok_rel {He : Hp} : BOk dr (Rel dr He) where
  ext := fun b j e => b.trans e.rel
  mu := fun {H p} b j hp H' o _ b' => by
    refine b'.mut ?_
    cases q : He p with
    | none => rfl
    | some o => rw [b p o (j.ne hp) q] at hp; cases hp
theorem BOk.tx {B : Hp → Prop} (h : BOk dr B) {Hs : Hp} : BOk dr (fun H => B H ∧ Tx Hs H) where
  ext := fun b j e => ⟨h.ext b.1 j e, b.2.trans (e.tx j)⟩
  mu := fun b j hp H' o n b' => ⟨h.mu b.1 j hp H' o n b'.1, b'.2.trans (Tx.upd n)⟩
theorem BOk.rel {B : Hp → Prop} (h : BOk dr B) {Hs : Hp} : BOk dr (fun H => B H ∧ Rel dr Hs H) where
  ext := fun b j e => ⟨h.ext b.1 j e, b.2.trans e.rel⟩
  mu := fun b j hp H' o n b' => ⟨h.mu b.1 j hp H' o n b'.1, bok_rel.mu b.2 j hp H' o n b'.2⟩
theorem Mu.tx {B : Hp → Prop} {p : Addr} (h : Mu B p) {Hs : Hp} : Mu (fun H => B H ∧ Tx Hs H) p := fun H' o n b => ⟨h H' o n b.1, b.2.trans (Tx.upd n)⟩

def W (dr : Option Addr) (B : Hp → Prop) (E : Ends) (t : TS) (δ : List Sd) : Prop := ∀ (σ : L2.St) (H : Hp), Sl dr H σ δ → Jd dr H → B H → t E σ H
def Vd.sd : Vd → Sd
  | .d e => .d e
  | z => .v z
theorem sd_ok {H : Hp} {v : V} (h : z.ok dr H v) : z.sd.ok dr H (some v) := by
  cases z with
  | d e => exact ⟨v, rfl, h⟩
  | l ds => exact ⟨v, rfl, h⟩
  | ll ls => exact ⟨v, rfl, h⟩
  | g g => exact ⟨v, rfl, h⟩
/-- the lists told at their places are others than p -/
def Fr (p : Addr) : List Sd → Prop
  | [] => True
  | .l q _ :: r => q ≠ p ∧ Fr p r
  | .g q g :: r => (q ≠ p ∧ g.free p) ∧ Fr p r
  | _ :: r => Fr p r
theorem fr_of {H : Hp} {p : Addr} (hp : H p = none) : ∀ {δ : List Sd} {σ : L2.St}, Sl dr H σ δ → Fr p δ := by
  intro δ
  induction δ with
  | nil => intros; trivial
  | cons s r ih =>
    intro σ h
    have tail : Sl dr H (σ.drop 1) r := fun i t q => by
      obtain ⟨o, e1, h1⟩ := h (i + 1) t (by simpa using q)
      exact ⟨o, by rw [List.getElem?_drop]; rw [Nat.add_comm]; exact e1, h1⟩
    cases s with
    | l q es =>
      refine ⟨?_, ih tail⟩
      obtain ⟨o, _, _, _, xs, h1, _⟩ := h 0 _ rfl
      rintro rfl
      rw [hp] at h1; cases h1
    | x => exact ih tail
    | d _ => exact ih tail
    | r _ => exact ih tail
    | v _ => exact ih tail
    | g q g =>
      refine ⟨?_, ih tail⟩
      obtain ⟨o, _, _, _, h1⟩ := h 0 _ rfl
      exact ⟨Ne.symm (g.fresh h1 hp).1, (g.fresh h1 hp).2⟩
/-- what a change of the list at p leaves -/
def okm (p : Addr) : Sd → Prop
  | .l q _ => q ≠ p
  | .v (.l _) => False
  | .v (.ll _) => False
  | .v (.g gv) => gv.st = true
  | .g q g => q ≠ p ∧ g.free p
  | _ => True
def mutAll (p : Addr) : List Sd → Prop
  | [] => True
  | s :: r => okm p s ∧ mutAll p r
theorem mutAll_get {p : Addr} : ∀ {δ : List Sd} {i : Nat} {s : Sd}, mutAll p δ → δ[i]? = some s → okm p s
  | [], _, _, _, e => by simp at e
  | _ :: _, 0, _, h, e => by simp at e; subst e; exact h.1
  | _ :: _, i + 1, s, h, e => mutAll_get (i := i) h.2 (by simpa using e)
theorem Sl.mutd {H : Hp} {σ : L2.St} {p : Addr} {i : Nat} {xs ys : List V} {ds es : List PyData} (h : Sl dr H σ δ) (hi : δ[i]? = some (.l p ds)) (hH : H p = some (.lst xs)) (hk : mutAll p (δ.set i .x)) (hy : DTs H ys es) : Sl dr (upd H p (.lst ys)) σ (δ.set i (.l p es)) := fun k s q => by
  have t : Tx H (upd H p (.lst ys)) := Tx.upd fun xs z => by rw [hH] at z; cases z
  rcases set_get q with ⟨e1, e2, hl⟩ | ⟨hki, q⟩
  · subst e1 e2
    obtain ⟨o, e1, e2, n, _⟩ := h k _ hi
    exact ⟨o, e1, e2, n, ys, upd_same, hy.tx t⟩
  · obtain ⟨o, e1, h1⟩ := h k s q
    have ok : okm p s := mutAll_get hk (i := k) (by rw [List.getElem?_set_ne (Ne.symm hki)]; exact q)
    refine ⟨o, e1, ?_⟩
    cases s with
    | x => trivial
    | d e => obtain ⟨v, e2, h2⟩ := h1; exact ⟨v, e2, h2.tx t⟩
    | l q' es' => obtain ⟨e2, n, xs', h2, h3⟩ := h1; exact ⟨e2, n, xs', by rw [upd_ne ok]; exact h2, h3.tx t⟩
    | r q' => exact h1
    | v z =>
      cases z with
      | d e => obtain ⟨v, e2, h2⟩ := h1; exact ⟨v, e2, DT.tx t h2⟩
      | l _ => exact ok.elim
      | ll _ => exact ok.elim
      | g gv => obtain ⟨v, e2, h2⟩ := h1; exact ⟨v, e2, gv.chg ok (fun xs z => by rw [hH] at z; cases z) (fun o u z => by rw [hH] at z; cases z) h2⟩
    | g q' g => obtain ⟨e2, n, h2⟩ := h1; exact ⟨e2, n, g.chg ok.2 (Ne.symm ok.1) (fun xs z => by rw [hH] at z; cases z) h2⟩
variable {B : Hp → Prop} {E : Ends} {tz tu tw : TS}
theorem w_asg {i : Nat} (hB : BOk dr B) (h : Ev dr te δ z) (k : W dr B E tz (δ.set i z.sd)) : W dr B E (tSeq (tAsg te (gName i)) tz) δ := fun σ H s j b =>
  h σ H s j _ fun v H1 e1 h1 => k _ H1 ((s.ext e1 j).set (sd_ok h1)) e1.jd (hB.ext b j e1)
theorem w_asgN {i : Nat} (hB : BOk dr B) (h : EvN dr te δ ds) (k : ∀ p, dr ≠ some p → Mu B p → Fr p δ → W dr B E tz (δ.set i (.l p ds))) : W dr B E (tSeq (tAsg te (gName i)) tz) δ := fun σ H s j b =>
  h σ H s j _ fun p xs H1 hp e1 h1 h2 => k p (j.ne hp) (fun H' o n b' => hB.mu b j hp H' o n b') (fr_of hp s) _ H1 ((s.ext e1 j).set ⟨rfl, j.ne hp, xs, h1, h2⟩) e1.jd (hB.ext b j e1)
/-- a list at some place -/
theorem w_open {i : Nat} (h : δ[i]? = some (.v (.l ds))) (k : ∀ p, dr ≠ some p → W dr B E tz (δ.set i (.l p ds))) : W dr B E tz δ := fun σ H s j b => by
  obtain ⟨o, e1, v, e2, p, xs, rfl, n, h1, h2⟩ := s i _ h
  subst e2
  refine k p n σ H (fun l t q => ?_) j b
  rcases set_get q with ⟨e3, e4, hl⟩ | ⟨hki, q⟩
  · subst e3 e4
    exact ⟨_, e1, rfl, n, xs, h1, h2⟩
  · exact s l t q
theorem w_if {b : Bool} (hB : BOk dr B) (h : EvT dr tt δ b) (h1 : b = true → W dr B { E with nx := tz E } tu δ) (h2 : b = false → W dr B { E with nx := tz E } tw δ) : W dr B E (tSeq (tIfS tt tu tw) tz) δ := fun σ H s j hb =>
  h σ H s j _ fun H1 e1 => by
    cases b with
    | true =>
      rw [if_pos rfl]
      exact h1 rfl σ H1 (s.ext e1 j) e1.jd (hB.ext hb j e1)
    | false =>
      rw [if_neg Bool.false_ne_true]
      exact h2 rfl σ H1 (s.ext e1 j) e1.jd (hB.ext hb j e1)
theorem w_next {b c : L2.St → Hp → Prop} (h : W dr B E tz δ) : W dr B { E with nx := tz E, bk := b, ct := c } tNext δ := fun σ H s j hb => h σ H s j hb
theorem w_nx (h : W dr B E tz δ) : W dr B { E with nx := tz E } tNext δ := h
theorem w_ret {u : TS} (hB : BOk dr B) (h : Ev dr te δ z) (hR : ∀ v H', B H' → Jd dr H' → z.ok dr H' v → E.rt v H') : W dr B E (tSeq (tRet te) u) δ := fun σ H s j b =>
  h σ H s j _ fun v H1 e1 h1 => hR v H1 (hB.ext b j e1) e1.jd h1
theorem w_drop {hB : BOk dr B} (h : Ev dr te δ z) (k : W dr B E tz δ) : W dr B E (tSeq (tDrop te) tz) δ := fun σ H s j b =>
  h σ H s j _ fun v H1 e1 h1 => k σ H1 (s.ext e1 j) e1.jd (hB.ext b j e1)
theorem w_app {i : Nat} {p : Addr} (hB : BOk dr B) (hi : δ[i]? = some (.l p ds)) (hm : Mu B p) (h : Ev dr te δ (.d d)) (hl : ds.length < 1000000) (hk : mutAll p (δ.set i .x)) (k : W dr B E tz (δ.set i (.l p (ds ++ [d])))) :
    W dr B E (tSeq (tDrop (tBM K "list" rAppend (tVar i) (tCons te tNil))) tz) δ := fun σ H s j b => by
  obtain ⟨o, e1, e2, n, xs, g1, g2⟩ := s i _ hi
  subst e2
  refine ⟨_, e1, Or.inl ⟨rfl, _, SqL.of g1⟩, ?_⟩
  refine h σ H s j _ fun v H1 e3 h1 => ?_
  have g1' := e3.rel _ _ n g1
  have g2' := g2.tx (e3.tx j)
  refine ⟨p, xs, v, rfl, rfl, g1', by rw [g2.length]; exact small.lt hl, ?_⟩
  exact k σ _ ((s.ext e3 j).mutd hi g1' hk (g2'.snoc h1)) (e3.jd.upd n) (hm H1 _ (fun xs z => by rw [g1'] at z; cases z) (hB.ext b j e3))
theorem w_setL {i : Nat} {p : Addr} {n : Int} {m : Nat} (hB : BOk dr B) (hi : δ[i]? = some (.l p ds)) (hm : Mu B p) (h : Ev dr te δ (.d d)) (hx : Ev dr tb δ (.d (.int n))) (hn : ixN ds.length n = some m) (hk : mutAll p (δ.set i .x)) (k : W dr B E tz (δ.set i (.l p (ds.set m d)))) :
    W dr B E (tSeq (tAsg te (gSub (tVar i) tb rSetL)) tz) δ := fun σ H s j b =>
  h σ H s j _ fun v H1 e1 h1 => by
    have s1 := s.ext e1 j
    obtain ⟨o, f1, f2, nd, xs, g1, g2⟩ := s1 i _ hi
    subst f2
    refine ⟨_, f1, ?_⟩
    refine hx σ H1 s1 e1.jd _ fun w H2 e2 h2 => ?_
    cases int_of h2
    have g1' := e2.rel _ _ nd g1
    have g2' := g2.tx (e2.tx e1.jd)
    refine ⟨p, xs, n, m, rfl, rfl, g1', by rw [g2.length]; exact hn, ?_⟩
    exact k σ _ ((s1.ext e2 e1.jd).mutd hi g1' hk (g2'.set (h1.tx (e2.tx e1.jd)) m)) (e2.jd.upd nd) (hm H2 _ (fun xs z => by rw [g1'] at z; cases z) (hB.ext b j (e1.trans e2)))
/-- a, b = x, y -/
theorem w_par {ta : TA} {i k : Nat} {y z : Vd} (hB : BOk dr B) (h : EvA dr ta δ [y, z]) (kk : W dr B E tz ((δ.set i y.sd).set k z.sd)) : W dr B E (tSeq (tPar i k ta) tz) δ := fun σ H s j b =>
  h σ H s j _ fun vs H1 e1 g1 => by
    obtain ⟨v, w, rfl, h1, h2⟩ := oks2 g1
    exact ⟨v, w, rfl, kk _ H1 (((s.ext e1 j).set (sd_ok h1)).set (sd_ok h2)) e1.jd (hB.ext b j e1)⟩
theorem w_par3 {ta : TA} {i k l : Nat} {x y z : Vd} (hB : BOk dr B) (h : EvA dr ta δ [x, y, z]) (kk : W dr B E tz (((δ.set i x.sd).set k y.sd).set l z.sd)) : W dr B E (tSeq (tPar3 i k l ta) tz) δ := fun σ H s j b =>
  h σ H s j _ fun vs H1 e1 g1 => by
    match vs, g1 with
    | [u, v, w], ⟨h1, h2, h3, _⟩ => exact ⟨u, v, w, rfl, kk _ H1 ((((s.ext e1 j).set (sd_ok h1)).set (sd_ok h2)).set (sd_ok h3)) e1.jd (hB.ext b j e1)⟩
/-- targets -/
def unp : List Nat → TGs
  | [] => gNil
  | i :: is => gCons (gName i) (unp is)
def setAll (δ : List Sd) : List Nat → List PyData → List Sd
  | i :: is, d :: ds => setAll (δ.set i (.d d)) is ds
  | _, _ => δ
theorem unp_ok {P : L2.St → Hp → Prop} {H : Hp} : ∀ {is : List Nat} {xs : List V} {ds : List PyData} {σ : L2.St} {δ : List Sd}, is.length = ds.length → DTs H xs ds → Sl dr H σ δ → (∀ σ', Sl dr H σ' (setAll δ is ds) → P σ' H) → unp is xs σ H P
  | [], _, [], σ, δ, _, .nil, s, k => ⟨rfl, k σ s⟩
  | i :: is, _, d :: ds, σ, δ, hl, .cons h hs, s, k => ⟨_, _, rfl, unp_ok (by simpa using hl) hs (s.set (s := .d d) ⟨_, rfl, h⟩) k⟩
theorem w_unp {is : List Nat} {n : Nat} (hB : BOk dr B) (h : Ev dr te δ (.d (.tuple ds))) (hn : ds.length = n) (hl : is.length = ds.length) (k : W dr B E tz (setAll δ is ds)) : W dr B E (tSeq (tAsg te (gTup K n (unp is))) tz) δ := fun σ H s j b =>
  h σ H s j _ fun v H1 e1 h1 => by
    obtain ⟨a, xs, rfl, g1, g2⟩ := tup_of h1
    exact ⟨a, xs, rfl, SqT.of g1, by rw [g2.length]; exact hn, unp_ok hl g2 (s.ext e1 j) fun σ' s' => k σ' H1 s' e1.jd (hB.ext b j e1)⟩
theorem w_aug {i : Nat} {f : Int → Int → Int} {m n : Int} (hB : BOk dr B) (hi : δ[i]? = some (.d (.int m))) (h : Ev dr te δ (.d (.int n))) (k : W dr B E tz (δ.set i (.d (.int (f m n))))) : W dr B E (tSeq (tAug i te (ipI f)) tz) δ := fun σ H s j b => by
  obtain ⟨o, e1, v, e2, hv⟩ := s i _ hi
  subst e2
  cases int_of (dr := dr) hv
  refine ⟨_, e1, h σ H s j _ fun w H1 e3 h1 => ?_⟩
  cases int_of h1
  exact ⟨m, n, rfl, rfl, k _ H1 ((s.ext e3 j).set ⟨_, rfl, .int _⟩) e3.jd (hB.ext b j e3)⟩
/-! ### loops -/
def NI (dr : Option Addr) (B : Hp → Prop) (I : List Sd → Prop) : L2.St → Hp → Prop := fun σ H => ∃ δ, I δ ∧ Sl dr H σ δ ∧ Jd dr H ∧ B H
theorem w_end {I : List Sd → Prop} {c k : L2.St → Hp → Prop} {rt : VK} (h : I δ) : W dr B { nx := NI dr B I, rt := rt, bk := k, ct := c } tNext δ := fun σ H s j b => ⟨δ, h, s, j, b⟩
theorem w_cont {I : List Sd → Prop} {c k : L2.St → Hp → Prop} {rt : VK} {u : TS} (h : I δ) : W dr B { nx := c, rt := rt, bk := k, ct := NI dr B I } (tSeq tCont u) δ := fun σ H s j b => ⟨δ, h, s, j, b⟩
theorem w_brk {u : TS} (h : ∀ σ H, Sl dr H σ δ → Jd dr H → B H → E.bk σ H) : W dr B E (tSeq tBreak u) δ := h
section
variable {α : Type}
/-- over a tuple; what was told of all else but tuples may change -/
theorem w_forT {j : Nat} (xs : List α) (enc : α → PyData) (I : Nat → List Sd → Prop) (hB : BOk dr B) (hl : Ev dr tl δ (.d (.tuple (xs.map enc)))) (h0 : I 0 δ)
    (hs : ∀ B', BOk dr B' → (∀ H, B' H → B H) → (∀ p, Mu B p → Mu B' p) → ∀ i a δ', xs[i]? = some a → I i δ' → W dr B' { E with nx := NI dr B' (I (i + 1)), ct := NI dr B' (I (i + 1)), bk := tz E } tu (δ'.set j (.d (enc a))))
    (hd : ∀ δ', I xs.length δ' → W dr B E tz δ') : W dr B E (tSeq (tFor (iTup K tl) (gName j) tu) tz) δ := fun σ H s jd b =>
  hl σ H s jd _ fun v H1 e1 h1 => by
    obtain ⟨a, ws, rfl, g1, g2⟩ := tup_of h1
    have hlen : ws.length = xs.length := by rw [g2.length, List.length_map]
    refine ⟨a, rfl, ⟨ws, SqT.of g1⟩, ?_⟩
    refine for_tup (xs := ws) (D := { E with nx := tz E }) (fun i σ' H' => NI dr (fun H => B H ∧ Tx H1 H) (I i) σ' H') ⟨δ, h0, s.ext e1 jd, e1.jd, hB.ext b jd e1, Tx.refl _⟩ (fun i σ' H' _ p => ?_) (fun i x σ' H' hi p => ?_) (fun σ' H' p => ?_)
    · obtain ⟨δ', _, _, _, _, t⟩ := p
      exact SqT.of (t _ _ g1)
    · obtain ⟨δ', hI, s', j', b', t⟩ := p
      obtain ⟨d', hd', hx⟩ := g2.getV hi
      rw [List.getElem?_map] at hd'
      obtain ⟨a', ha', rfl⟩ := Option.map_eq_some_iff.mp hd'
      exact hs _ hB.tx (fun H q => q.1) (fun p m => m.tx) i a' δ' ha' hI _ H' (s'.set ⟨x, rfl, hx.tx t⟩) j' ⟨b', t⟩
    · obtain ⟨δ', hI, s', j', b', t⟩ := p
      rw [hlen] at hI
      exact hd δ' hI σ' H' s' j' b'
/-- over a list; nothing that was there changes -/
theorem w_forL {j : Nat} (xs : List α) (enc : α → PyData) (I : Nat → List Sd → Prop) (hB : BOk dr B) (hl : Ev dr tl δ (.l (xs.map enc))) (h0 : I 0 δ)
    (hs : ∀ B', BOk dr B' → (∀ H, B' H → B H) → ∀ i a δ', xs[i]? = some a → I i δ' → W dr B' { E with nx := NI dr B' (I (i + 1)), ct := NI dr B' (I (i + 1)), bk := tz E } tu (δ'.set j (.d (enc a))))
    (hd : ∀ δ', I xs.length δ' → W dr B E tz δ') : W dr B E (tSeq (tFor (iList K tl) (gName j) tu) tz) δ := fun σ H s jd b =>
  hl σ H s jd _ fun v H1 e1 h1 => by
    obtain ⟨a, ws, rfl, n, g1, g2⟩ := h1
    have hlen : ws.length = xs.length := by rw [g2.length, List.length_map]
    refine ⟨a, rfl, ⟨ws, SqL.of g1⟩, ?_⟩
    refine for_list (xs := ws) (D := { E with nx := tz E }) (fun i σ' H' => NI dr (fun H => B H ∧ Rel dr H1 H) (I i) σ' H') ⟨δ, h0, s.ext e1 jd, e1.jd, hB.ext b jd e1, Rel.refl _⟩ (fun i σ' H' _ p => ?_) (fun i x σ' H' hi p => ?_) (fun σ' H' p => ?_)
    · obtain ⟨δ', _, _, _, _, t⟩ := p
      exact SqL.of (t _ _ n g1)
    · obtain ⟨δ', hI, s', j', b', t⟩ := p
      obtain ⟨d', hd', hx⟩ := g2.getV hi
      rw [List.getElem?_map] at hd'
      obtain ⟨a', ha', rfl⟩ := Option.map_eq_some_iff.mp hd'
      exact hs _ hB.rel (fun H q => q.1) i a' δ' ha' hI _ H' (s'.set ⟨x, rfl, hx.tx (t.tx e1.jd)⟩) j' ⟨b', t⟩
    · obtain ⟨δ', hI, s', j', b', t⟩ := p
      rw [hlen] at hI
      exact hd δ' hI σ' H' s' j' b'
/-- over a list that stands in a slot all the while -/
theorem w_forS {j k : Nat} {q : Addr} (xs : List α) (enc : α → PyData) (I : Nat → List Sd → Prop) (hB : BOk dr B) (hI : ∀ i δ', I i δ' → δ'[k]? = some (.l q (xs.map enc))) (h0 : I 0 δ)
    (hs : ∀ i a δ', xs[i]? = some a → I i δ' → W dr B { E with nx := NI dr B (I (i + 1)), ct := NI dr B (I (i + 1)), bk := tz E } tu (δ'.set j (.d (enc a))))
    (hd : ∀ δ', I xs.length δ' → W dr B E tz δ') : W dr B E (tSeq (tFor (iList K (tVar k)) (gName j) tu) tz) δ := fun σ H s jd b => by
  obtain ⟨o, e1, e2, n, ws, g1, g2⟩ := s k _ (hI 0 δ h0)
  subst e2
  refine ⟨_, e1, q, rfl, ⟨ws, SqL.of g1⟩, ?_⟩
  refine ⟨fun i m σ' H' => m = xs.length - i ∧ i ≤ xs.length ∧ NI dr B (I i) σ' H', ⟨xs.length, by simp, Nat.zero_le _, δ, h0, s, jd, b⟩, ?_⟩
  rintro i m σ' H' ⟨rfl, hi, δ', hi', s', j', b'⟩
  obtain ⟨o', f1, f2, _, ws', g1', g2'⟩ := s' k _ (hI i δ' hi')
  have hlen : ws'.length = xs.length := by rw [g2'.length, List.length_map]
  by_cases hlt : i < xs.length
  · refine .inr ⟨⟨ws', ws'[i], SqL.of g1', by simp [hlen, hlt]⟩, NI dr B (I (i + 1)), fun σ2 H2 p => ⟨xs.length - (i + 1), by omega, rfl, hlt, p⟩, fun x H2 y => ?_⟩
    obtain ⟨ey, y⟩ := y
    subst ey
    have hx := y ws' (SqL.of g1')
    obtain ⟨d', hd', hxd⟩ := g2'.getV hx
    rw [List.getElem?_map] at hd'
    obtain ⟨a', ha', rfl⟩ := Option.map_eq_some_iff.mp hd'
    exact hs i a' δ' ha' hi' _ _ (s'.set ⟨x, rfl, hxd⟩) j' b'
  · have e : i = xs.length := by omega
    subst e
    exact .inl ⟨⟨ws', SqL.of g1', by omega⟩, hd δ' hi' σ' H' s' j' b'⟩
end
theorem w_forI {wi : TI} {j : Nat} {lo : Int} {n : Nat} (I : Nat → List Sd → Prop) (hB : BOk dr B)
    (hw : ∀ (σ : L2.St) (H : Hp), Sl dr H σ δ → Jd dr H → ∀ R : It → Hp → Prop, (∀ H1, Ext dr H H1 → R (Itr lo n) H1) → wi σ H R) (h0 : I 0 δ)
    (hs : ∀ (i : Nat) δ', i < n → I i δ' → W dr B { E with nx := NI dr B (I (i + 1)), ct := NI dr B (I (i + 1)), bk := tz E } tu (δ'.set j (.d (.int (lo + (i : Int))))))
    (hd : ∀ δ', I n δ' → W dr B E tz δ') : W dr B E (tSeq (tFor wi (gName j) tu) tz) δ := fun σ H s jd b =>
  hw σ H s jd _ fun H1 e1 => by
    refine for_range (lo := lo) (n := n) (D := { E with nx := tz E }) (fun i σ' H' => NI dr B (I i) σ' H') ⟨δ, h0, s.ext e1 jd, e1.jd, hB.ext b jd e1⟩ (fun i σ' H' hi p => ?_) (fun σ' H' p => ?_)
    · obtain ⟨δ', hI, s', j', b'⟩ := p
      exact hs i δ' hi hI _ H' (s'.set ⟨_, rfl, .int _⟩) j' b'
    · obtain ⟨δ', hI, s', j', b'⟩ := p
      exact hd δ' hI σ' H' s' j' b'
theorem w_forR1 {ta : TA} {j : Nat} {n : Int} (I : Nat → List Sd → Prop) (hB : BOk dr B) (h : EvA dr ta δ [.d (.int n)]) (h1 : n ≤ 1000000) (hn0 : -1000000 ≤ n) (h0 : I 0 δ)
    (hs : ∀ (i : Nat) δ', (i : Int) < n → I i δ' → W dr B { E with nx := NI dr B (I (i + 1)), ct := NI dr B (I (i + 1)), bk := tz E } tu (δ'.set j (.d (.int (i : Int)))))
    (hd : ∀ δ', I n.toNat δ' → W dr B E tz δ') : W dr B E (tSeq (tFor (iRng1 ta) (gName j) tu) tz) δ :=
  w_forI I hB (iv_r1 h h1 hn0) h0 (fun i δ' hi p => by
    have e : (0 : Int) + (i : Int) = (i : Int) := Int.zero_add _
    rw [e]
    exact hs i δ' (by omega) p) hd

/-! ### a def by its body -/
def startD (n : Nat) (zs : List Vd) : List Sd := zs.map Vd.sd ++ List.replicate (n - zs.length) .x
theorem start_ok {H : Hp} {N : List Str} {vs : List V} {zs : List Vd} (h : Oks dr H vs zs) : Sl dr H (L2.start N vs) (startD N.length zs) := by
  have base : ∀ {vs : List V} {zs : List Vd}, Oks dr H vs zs → ∀ (i : Nat) (s : Sd), (zs.map Vd.sd)[i]? = some s → ∃ o, (vs.map some)[i]? = some o ∧ s.ok dr H o := by
    intro vs
    induction vs with
    | nil => intro zs h i s q; cases zs with
      | nil => simp at q
      | cons _ _ => exact h.elim
    | cons v vs ih => intro zs h i s q; cases zs with
      | nil => exact h.elim
      | cons z zs =>
        cases i with
        | zero => simp at q; subst q; exact ⟨some v, by simp, sd_ok h.1⟩
        | succ i =>
          obtain ⟨o, e, g⟩ := ih h.2 i s (by simpa using q)
          exact ⟨o, by simpa using e, g⟩
  intro i s q
  unfold startD at q
  unfold L2.start
  have hl := h.len
  by_cases hi : i < zs.length
  · rw [List.getElem?_append_left (by simpa using hi)] at q
    rw [List.getElem?_append_left (by simp [hl, hi])]
    exact base h i s q
  · rw [List.getElem?_append_right (by simp; omega)] at q
    rw [List.getElem?_append_right (by simp [hl]; omega)]
    simp only [List.length_map] at q ⊢
    rw [hl]
    rw [List.getElem?_replicate] at q ⊢
    split at q
    · rename_i hlt
      cases q
      exact ⟨none, by rw [if_pos hlt], trivial⟩
    · cases q
/-- a def of the module, as the top leaves it -/
structure Dfn (K : PySem.W.Frag) (mg : Str → Option Value) (x : Str) (st : Stmt) (ps : List Str) : Prop where
  ex : ∃ (f : Addr) (fd : FuncData), C8.Def K mg x st f fd ∧ Binds K fd ps []
section
variable {P : Program} {w : World} {mg : Str → Option Value} {base : Heap}
theorem cal_of {x : Str} {st : Stmt} {N ps : List Str} {k : Nat} {pre : List Vd → Vd → Prop} (F : Dfn K mg x st ps) (S : C8.scC N ps (C8.fnScope st) = true) (t : TS) (hl : ∀ zs z, pre zs z → zs.length = ps.length)
    (hd : ∀ (f : Addr) (cdv : Value) (A : Around) (outer : List Env) (s : Shared) (H : Hp) (E : XK), Room k (A.deeper (PyProof.Rows.envOfC x (C8.fnScope st) s.heap.objs.size f cdv)) → PSs (cxOf C8.CX0 P w K mg base N x (C8.fnScope st) f cdv A outer s H E).nox (C8.fnBody st) t)
    (hr : ∀ (dr : Option Addr) (B : Hp → Prop) (E : Ends) (zs : List Vd) (z : Vd), pre zs z → BOk dr B → (∀ v H', B H' → Jd dr H' → z.ok dr H' v → E.rt v H') → (z = .d .none → ∀ σ H', B H' → Jd dr H' → E.nx σ H') → W dr B E t (startD N.length zs)) : C8.Cal P w K mg base (k + 1) x (spP pre) [] := by
  obtain ⟨f, fd, D, b⟩ := F.ex
  refine C8.cal0 D b .nil (C8.fnScope_by S) (fun vs H Q E h => ?_) (fun cdv A outer s H vs Q E hroom h => ?_)
  · obtain ⟨dr, zs, z, g, _, hp, _⟩ := h
    rw [g.len]
    exact hl zs z hp
  · obtain ⟨dr, zs, z, g, j, hp, q⟩ := h
    refine ⟨t, hd f cdv A outer s H E hroom, ?_⟩
    exact hr dr (Rel dr H) _ zs z hp bok_rel (fun v H' b' j' hv => q v H' ⟨b', j'⟩ hv) (fun e σ H' b' j' => q _ H' ⟨b', j'⟩ (by rw [e]; exact .non)) _ H (start_ok g) j (Rel.refl H)
end
end
end Ed
end
section
set_option maxHeartbeats 4000000
/-! Tp: the text by places; what the top leaves, as facts. -/
namespace Hd
open PySem
def top (i : Nat) : Stmt := PySem.Challenge.pw_withindays_k80_whole_made_up_papers.main.body.getD i (.Pass ⟨0, 0, 0, 0⟩)
end Hd
namespace Ed
open PySem L2
abbrev oAdd : R2 := rI0 fun i j => .int (i + j)
abbrev oSub : R2 := rI0 fun i j => .int (i - j)
abbrev oMul : R2 := rI CMul fun i j => .int (i * j)
abbrev oDiv : R2 := rI CDiv fun i j => .int (i / j)
abbrev oMod : R2 := rI (fun _ j => 0 < j) fun i j => .int (i % j)
abbrev oPow : R2 := rI CPow fun i j => .int (i ^ j.toNat)
abbrev oShl : R2 := rI CPow fun i j => .int (i * 2 ^ j.toNat)
abbrev oLt : R2 := rI0 fun i j => .bl (decide (i < j))
abbrev oLe : R2 := rI0 fun i j => .bl (decide (i ≤ j))
abbrev oGt : R2 := rI0 fun i j => .bl (decide (j < i))
abbrev oGe : R2 := rI0 fun i j => .bl (decide (j ≤ i))
abbrev oNeg : V → Hp → VK → Prop := rU fun i => .int (-i)
theorem bt_isinstance : bootBuiltins "isinstance" = some (.builtin "isinstance") := by decide +kernel
theorem bt_int : bootBuiltins "int" = some (.type "int") := by decide +kernel
theorem bt_bool : bootBuiltins "bool" = some (.type "bool") := by decide +kernel
theorem bt_list : bootBuiltins "list" = some (.type "list") := by decide +kernel
theorem bt_tuple : bootBuiltins "tuple" = some (.type "tuple") := by decide +kernel
theorem bt_str : bootBuiltins "str" = some (.type "str") := by decide +kernel
theorem bt_len : bootBuiltins "len" = some (.builtin "len") := by decide +kernel
theorem bt_range : bootBuiltins "range" = some (.type "range") := by decide +kernel
theorem bt_enumerate : bootBuiltins "enumerate" = some (.type "enumerate") := by decide +kernel
theorem bt_all : bootBuiltins "all" = some (.builtin "all") := by decide +kernel
theorem bt_any : bootBuiltins "any" = some (.builtin "any") := by decide +kernel
theorem bt_max : bootBuiltins "max" = some (.builtin "max") := by decide +kernel
theorem bt_sorted : bootBuiltins "sorted" = some (.builtin "sorted") := by decide +kernel
theorem bt_set : bootBuiltins "set" = some (.type "set") := by decide +kernel
theorem bt_sum : bootBuiltins "sum" = some (.builtin "sum") := by decide +kernel
theorem bt_dict : bootBuiltins "dict" = some (.type "dict") := by decide +kernel
theorem Room.u65 {k : Nat} {A : Around} (r : Room k A) : A.units + 65 < cLine := by have := r.un; omega
theorem Room.u64 {k : Nat} {A : Around} (r : Room k A) : A.units + 190 < cLine := by have := r.un; omega
structure Top (K : PySem.W.Frag) (mg : Str → Option Value) : Prop where
  f_is_whole : Dfn K mg "is_whole" (Hd.top 5) ["thing", "least", "most"]
  f_is_row : Dfn K mg "is_row" (Hd.top 6) ["thing"]
  f_is_rising : Dfn K mg "is_rising" (Hd.top 7) ["thing", "least", "most"]
  f_told_rows : Dfn K mg "told_rows" (Hd.top 8) ["thing"]
  f_is_day : Dfn K mg "is_day" (Hd.top 12) ["many", "thing"]
  f_are_days : Dfn K mg "are_days" (Hd.top 13) ["many", "thing"]
  f_is_ring : Dfn K mg "is_ring" (Hd.top 14) ["many", "thing"]
  f_is_numbers : Dfn K mg "is_numbers" (Hd.top 18) ["thing"]
  f_is_off : Dfn K mg "is_off" (Hd.top 23) ["thing"]
  f_is_pair : Dfn K mg "is_pair" (Hd.top 24) ["thing", "many"]
  f_are_pairs : Dfn K mg "are_pairs" (Hd.top 25) ["thing", "many"]
  f_is_task : Dfn K mg "is_task" (Hd.top 26) ["thing"]
  f_asked_task : Dfn K mg "asked_task" (Hd.top 27) ["thing"]
  f_need_of : Dfn K mg "need_of" (Hd.top 30) ["task", "days"]
  f_room_of : Dfn K mg "room_of" (Hd.top 31) ["task", "days", "phase"]
  f_in_ties : Dfn K mg "in_ties" (Hd.top 33) ["task"]
  f_are_waits : Dfn K mg "are_waits" (Hd.top 34) ["numbers", "waits"]
  f_is_some_of : Dfn K mg "is_some_of" (Hd.top 35) ["things", "row", "most"]
  f_is_stand_of : Dfn K mg "is_stand_of" (Hd.top 36) ["task", "thing"]
  f_asked_stand : Dfn K mg "asked_stand" (Hd.top 37) ["task", "thing"]
  f_lies_under : Dfn K mg "lies_under" (Hd.top 38) ["one", "other"]
  f_is_lead : Dfn K mg "is_lead" (Hd.top 42) ["many", "thing"]
  f_is_on : Dfn K mg "is_on" (Hd.top 43) ["task", "thing"]
  f_is_count : Dfn K mg "is_count" (Hd.top 44) ["task", "thing"]
  f_is_walk : Dfn K mg "is_walk" (Hd.top 45) ["task", "thing"]
  f_is_answer_of : Dfn K mg "is_answer_of" (Hd.top 46) ["task", "thing"]
  f_asked_answer : Dfn K mg "asked_answer" (Hd.top 47) ["task", "thing"]
  f_all_days : Dfn K mg "all_days" (Hd.top 49) ["many", "hands"]
  f_is_tied : Dfn K mg "is_tied" (Hd.top 50) ["task", "day", "last"]
  f_can_be_done : Dfn K mg "can_be_done" (Hd.top 51) ["task", "stand", "day"]
  f_later_days : Dfn K mg "later_days" (Hd.top 52) ["task", "stand"]
  f_wait_behind : Dfn K mg "wait_behind" (Hd.top 53) ["task", "stand", "day", "i"]
  f_later_stand : Dfn K mg "later_stand" (Hd.top 54) ["task", "stand", "day"]
  f_led : Dfn K mg "led" (Hd.top 56) ["task", "stand", "days"]
  f_on_holds : Dfn K mg "on_holds" (Hd.top 57) ["task", "stand", "lead", "ring"]
  f_count_holds : Dfn K mg "count_holds" (Hd.top 58) ["task", "days", "phase"]
  f_runs_out : Dfn K mg "runs_out" (Hd.top 60) ["task", "stand", "heights"]
  f_walk_holds : Dfn K mg "walk_holds" (Hd.top 61) ["task", "stand", "stands"]
  f_answer_holds : Dfn K mg "answer_holds" (Hd.top 62) ["task", "stand", "answer"]
  f_holds : Dfn K mg "holds" (Hd.top 63) ["task", "stand", "answer"]
  f__law_cell : Dfn K mg "_law_cell" (Hd.top 65) ["_law_script", "_law_k"]
  f__law_draws : Dfn K mg "_law_draws" (Hd.top 66) ["_law_script", "_law_at", "_law_many"]
  f__law_next : Dfn K mg "_law_next" (Hd.top 67) ["_law_draws_here"]
  f__law_long : Dfn K mg "_law_long" (Hd.top 69) ["_law_draws_here", "_law_many"]
  f__law_tied : Dfn K mg "_law_tied" (Hd.top 70) ["_law_draws_here", "_law_many"]
  f__law_off : Dfn K mg "_law_off" (Hd.top 71) ["_law_draws_here", "_law_left"]
  f__law_task : Dfn K mg "_law_task" (Hd.top 72) ["_law_draws_here", "_law_most"]
  f__law_made_up : Dfn K mg "_law_made_up" (Hd.top 73) ["_law_draws_here", "_law_task_here"]
  f__law_days : Dfn K mg "_law_days" (Hd.top 74) ["_law_task_here", "_law_stand"]
  f__law_next_stand : Dfn K mg "_law_next_stand" (Hd.top 75) ["_law_task_here", "_law_stand", "_law_day"]
  f__law_ways : Dfn K mg "_law_ways" (Hd.top 76) ["_law_task_here", "_law_stand"]
  f__law_step : Dfn K mg "_law_step" (Hd.top 77) ["_law_task_here", "_law_stand", "_law_day"]
  f__law_walked : Dfn K mg "_law_walked" (Hd.top 78) ["_law_task_here", "_law_stand", "_law_days_here"]
  f__law_under : Dfn K mg "_law_under" (Hd.top 79) ["_law_one", "_law_other"]
  f__law_on_holds : Dfn K mg "_law_on_holds" (Hd.top 80) ["_law_task_here", "_law_stand", "_law_lead", "_law_ring"]
  f__law_count_holds : Dfn K mg "_law_count_holds" (Hd.top 81) ["_law_task_here", "_law_days_here", "_law_phase"]
  f__law_walk_holds : Dfn K mg "_law_walk_holds" (Hd.top 82) ["_law_task_here", "_law_stand", "_law_stands"]
  f__law_holds : Dfn K mg "_law_holds" (Hd.top 83) ["_law_task_here", "_law_stand", "_law_told"]
  f__law_dead : Dfn K mg "_law_dead" (Hd.top 84) ["_law_ways_here"]
  f__law_drawn_days : Dfn K mg "_law_drawn_days" (Hd.top 85) ["_law_draws_here", "_law_task_here", "_law_stand"]
  f__law_lasso : Dfn K mg "_law_lasso" (Hd.top 86) ["_law_draws_here", "_law_task_here", "_law_stand"]
  f__law_bent_on : Dfn K mg "_law_bent_on" (Hd.top 87) ["_law_draws_here", "_law_told"]
  f__law_bent_walk : Dfn K mg "_law_bent_walk" (Hd.top 88) ["_law_draws_here", "_law_dead_here"]
  f__law_answers : Dfn K mg "_law_answers" (Hd.top 89) ["_law_draws_here", "_law_task_here", "_law_stand", "_law_dead_here"]
  f_law : Dfn K mg "law" (Hd.top 90) ["_law_script"]
  n_isinstance : mg "isinstance" = none
  n_int : mg "int" = none
  n_bool : mg "bool" = none
  n_list : mg "list" = none
  n_tuple : mg "tuple" = none
  n_str : mg "str" = none
  n_len : mg "len" = none
  n_range : mg "range" = none
  n_enumerate : mg "enumerate" = none
  n_all : mg "all" = none
  n_any : mg "any" = none
  n_max : mg "max" = none
  n_sorted : mg "sorted" = none
  n_set : mg "set" = none
  n_sum : mg "sum" = none
  n_dict : mg "dict" = none
  c_MOST_ON_A_DAY : ∃ u, mg "MOST_ON_A_DAY" = some u ∧ RelV (.int 2) u
  c_LONGEST : ∃ u, mg "LONGEST" = some u ∧ RelV (.int 4000) u
  c_MOST_THINGS : ∃ u, mg "MOST_THINGS" = some u ∧ RelV (.int 8) u
  c_GREATEST : ∃ u, mg "GREATEST" = some u ∧ RelV (.int 40) u
  c_MOST_OFF : ∃ u, mg "MOST_OFF" = some u ∧ RelV (.int 7) u
  c_MOST_HANDS : ∃ u, mg "MOST_HANDS" = some u ∧ RelV (.int 2) u
  c_PARTS : ∃ u, mg "PARTS" = some u ∧ RelV (.int 5) u
  c_MOST_DAYS : ∃ u, mg "MOST_DAYS" = some u ∧ RelV (.int 1000000) u
  c_MOST_LEAD : ∃ u, mg "MOST_LEAD" = some u ∧ RelV (.int 4000) u
  c_MOST_STANDS : ∃ u, mg "MOST_STANDS" = some u ∧ RelV (.int 4000) u
end Ed
end
section
set_option maxHeartbeats 4000000
/-! Sp: tasks, stands, answers as plain data; how they stand as Python's. -/
namespace Ed
open PySem L2

def dI (ns : List Int) : PyData := .tuple (ns.map PyData.int)
def dII (ds : List (List Int)) : PyData := .tuple (ds.map dI)
/-! ### shapes -/
def Sh (n : Nat) (d : PyData) : Prop := d.canLay0 = true ∧ d.depth ≤ n
theorem lay_all : ∀ {ds : List PyData} {n : Nat}, (∀ d ∈ ds, Sh n d) → PyData.canLayAll0 ds = true ∧ PyData.depthAll ds ≤ n
  | [], n, _ => ⟨by simp [PyData.canLayAll0], by simp [PyData.depthAll]⟩
  | d :: ds, n, h => by
    obtain ⟨h1, h2⟩ := lay_all (ds := ds) (n := n) fun e he => h e (List.mem_cons_of_mem _ he)
    obtain ⟨g1, g2⟩ := h d List.mem_cons_self
    refine ⟨by simp [PyData.canLayAll0, g1, h1], ?_⟩
    simp only [PyData.depthAll]
    omega
theorem Sh.int (n : Nat) (i : Int) : Sh n (.int i) := ⟨by simp [PyData.canLay0], by simp [PyData.depth]⟩
theorem Sh.none (n : Nat) : Sh n .none := ⟨by simp [PyData.canLay0], by simp [PyData.depth]⟩
theorem Sh.tup {n : Nat} {ds : List PyData} (h : ∀ d ∈ ds, Sh n d) : Sh (n + 1) (.tuple ds) := by
  obtain ⟨h1, h2⟩ := lay_all h
  exact ⟨by simp [PyData.canLay0, h1], by simp only [PyData.depth]; omega⟩
theorem Sh.lst {n : Nat} {ds : List PyData} (h : ∀ d ∈ ds, Sh n d) : Sh (n + 1) (.list ds) := by
  obtain ⟨h1, h2⟩ := lay_all h
  exact ⟨by simp [PyData.canLay0, h1], by simp only [PyData.depth]; omega⟩
theorem Sh.mono {n m : Nat} {d : PyData} (h : Sh n d) (hm : n ≤ m) : Sh m d := ⟨h.1, Nat.le_trans h.2 hm⟩
theorem Sh.ok {n : Nat} {d : PyData} (h : Sh n d) (hn : n ≤ 64) : SeqAt.shaped d = true := by
  show (d.canLay0 && decide (d.depth ≤ 64)) = true
  rw [h.1, Bool.true_and]
  exact decide_eq_true (Nat.le_trans h.2 hn)
theorem Sh.map {α : Type} {n : Nat} {xs : List α} {f : α → PyData} (h : ∀ x, Sh n (f x)) : ∀ d ∈ xs.map f, Sh n d := fun d hd => by
  obtain ⟨x, _, rfl⟩ := List.mem_map.mp hd
  exact h x
theorem sh_dI (ns : List Int) : Sh 1 (dI ns) := Sh.tup (Sh.map fun i => .int 0 i)
theorem sh_dII (ds : List (List Int)) : Sh 2 (dII ds) := Sh.tup (Sh.map fun i => sh_dI i)
theorem shaped_li (ns : List Int) : SeqAt.shaped (.list (ns.map PyData.int)) = true := (Sh.lst (n := 0) (Sh.map fun i => .int 0 i)).ok (by omega)
theorem shaped_ld (ds : List (List Int)) : SeqAt.shaped (.list (ds.map dI)) = true := (Sh.lst (n := 1) (Sh.map fun i => sh_dI i)).ok (by omega)
/-! ### what is equal -/
theorem eqvAll_map {α : Type} [DecidableEq α] {f : α → PyData} (h : ∀ a b, PyData.eqv (f a) (f b) = decide (a = b)) : ∀ xs ys : List α, PyData.eqvAll (xs.map f) (ys.map f) = decide (xs = ys)
  | [], [] => by simp [PyData.eqvAll]
  | [], _ :: _ => by simp [PyData.eqvAll]
  | _ :: _, [] => by simp [PyData.eqvAll]
  | x :: xs, y :: ys => by
    simp only [List.map_cons, PyData.eqvAll, h, eqvAll_map h xs ys]
    by_cases e : x = y <;> by_cases e' : xs = ys <;> simp [e, e']
theorem eqv_int (a b : Int) : PyData.eqv (.int a) (.int b) = decide (a = b) := by
  simp only [PyData.eqv]
  by_cases e : a = b <;> simp [e]
theorem eqv_dI (a b : List Int) : PyData.eqv (dI a) (dI b) = decide (a = b) := by
  unfold dI
  simp only [PyData.eqv]
  exact eqvAll_map eqv_int a b
theorem dI_inj {a b : List Int} (h : dI a = dI b) : a = b := by
  have := eqv_dI a b
  rw [h, eqv_dI b b] at this
  simpa using this.symm

/-! ### tasks, stands -/
structure Task where
  num : List Int
  hands : Int
  off : List Int
  long : List Int
  tied : List (Int × Int)
structure Stand where
  ph : Int
  wt : List Int
  bz : List Int
  ls : List Int
  deriving DecidableEq
def pr (p : Int × Int) : PyData := dI [p.1, p.2]
def Task.enc (t : Task) : PyData := .tuple [dI t.num, .int t.hands, dI t.off, dI t.long, .tuple (t.tied.map pr)]
def Stand.enc (s : Stand) : PyData := .tuple [.int s.ph, dI s.wt, dI s.bz, dI s.ls]
def oenc : Option Stand → PyData
  | .none => .none
  | some s => s.enc
theorem sh_stand (s : Stand) : Sh 2 s.enc := by
  refine Sh.tup fun d hd => ?_
  simp only [List.mem_cons, List.not_mem_nil, or_false] at hd
  rcases hd with rfl | rfl | rfl | rfl
  · exact .int 1 _
  · exact sh_dI _
  · exact sh_dI _
  · exact sh_dI _
theorem sh_oenc : ∀ s : Option Stand, Sh 2 (oenc s)
  | .none => Sh.none 2
  | some s => sh_stand s
theorem shaped_ls (ss : List Stand) : SeqAt.shaped (.list (ss.map Stand.enc)) = true := (Sh.lst (n := 2) (Sh.map fun i => sh_stand i)).ok (by omega)
theorem eqv_stand (a b : Stand) : PyData.eqv a.enc b.enc = decide (a = b) := by
  unfold Stand.enc
  simp only [PyData.eqv, PyData.eqvAll, eqv_dI]
  obtain ⟨p, w, z, l⟩ := a
  obtain ⟨p', w', z', l'⟩ := b
  by_cases e1 : p = p' <;> by_cases e2 : w = w' <;> by_cases e3 : z = z' <;> by_cases e4 : l = l' <;> simp [e1, e2, e3, e4]
theorem stand_inj {a b : Stand} (h : a.enc = b.enc) : a = b := by
  have := eqv_stand a b
  rw [h, eqv_stand b b] at this
  simpa using this.symm
theorem isNon_oenc (s : Option Stand) : isNon (oenc s) = s.isNone := by cases s <;> rfl
/-! ### answers -/
inductive Ans where
  | on (lead ring : List (List Int)) | count (days phase : Int) | walk (st : List Stand)
def Ans.enc : Ans → PyData
  | .on lead ring => .tuple [.str "on", dII lead, dII ring]
  | .count days phase => .tuple [.str "count", .int days, .int phase]
  | .walk st => .tuple [.str "walk", .tuple (st.map Stand.enc)]
end Ed
end
section
set_option maxHeartbeats 4000000
/-! Mx: small helps. -/
namespace Ed
open PySem L2
theorem kit_int_int : kitB "int" "int" = some true := by decide +kernel
theorem kit_int_bool : kitB "int" "bool" = some false := by decide +kernel
theorem kit_bool_bool : kitB "bool" "bool" = some true := by decide +kernel
theorem kit_NoneType_list : kitB "NoneType" "list" = some false := by decide +kernel
theorem kit_NoneType_tuple : kitB "NoneType" "tuple" = some false := by decide +kernel
theorem kit_bool_list : kitB "bool" "list" = some false := by decide +kernel
theorem kit_bool_tuple : kitB "bool" "tuple" = some false := by decide +kernel
theorem kit_int_list : kitB "int" "list" = some false := by decide +kernel
theorem kit_int_tuple : kitB "int" "tuple" = some false := by decide +kernel
theorem kit_str_list : kitB "str" "list" = some false := by decide +kernel
theorem kit_str_tuple : kitB "str" "tuple" = some false := by decide +kernel
theorem kit_list_list : kitB "list" "list" = some true := by decide +kernel
theorem kit_list_tuple : kitB "list" "tuple" = some false := by decide +kernel
theorem kit_tuple_list : kitB "tuple" "list" = some false := by decide +kernel
theorem kit_tuple_tuple : kitB "tuple" "tuple" = some true := by decide +kernel
theorem kit_str_str : kitB "str" "str" = some true := by decide +kernel
section
variable {K : PySem.W.Frag} {dr : Option Addr} {δ : List Sd} {ta tb tc te : TE} {tr : TA} {d : PyData} {ds : List PyData}
theorem ead_nil : EvA dr tNil δ (([] : List PyData).map Vd.d) := ea_nil
theorem ead_cons (h : Ev dr ta δ (.d d)) (hr : EvA dr tr δ (ds.map Vd.d)) : EvA dr (tCons ta tr) δ ((d :: ds).map Vd.d) := ea_cons h hr
theorem at0 {α : Type} {a : α} {l : List α} : atI (a :: l) 0 = some a := atI_nat (j := 0) rfl
theorem at1 {α : Type} {a b : α} {l : List α} : atI (a :: b :: l) 1 = some b := atI_nat (j := 1) rfl
theorem at2 {α : Type} {a b c : α} {l : List α} : atI (a :: b :: c :: l) 2 = some c := atI_nat (j := 2) rfl
theorem at3 {α : Type} {a b c d : α} {l : List α} : atI (a :: b :: c :: d :: l) 3 = some d := atI_nat (j := 3) rfl
theorem at4 {α : Type} {a b c d e : α} {l : List α} : atI (a :: b :: c :: d :: e :: l) 4 = some e := atI_nat (j := 4) rfl
theorem ev_neg {i : Int} (h : Ev dr ta δ (.d (.int i))) : Ev dr (tUn oNeg ta) δ (.d (.int (-i))) := fun σ H s j Q q => h σ H s j _ fun v H1 e1 h1 => by
  cases int_of h1
  exact ⟨i, rfl, q _ H1 e1 (.int _)⟩
/-- an item of a row of one kind -/
theorem at_map {α : Type} {f : α → PyData} {xs : List α} {i : Int} {a : α} (h0 : 0 ≤ i) (h : xs[i.toNat]? = some a) : atI (xs.map f) i = some (f a) := by
  have e : i = (i.toNat : Int) := by omega
  rw [e]
  refine atI_nat ?_
  rw [List.getElem?_map]
  have e2 : ((i.toNat : Int)).toNat = i.toNat := by omega
  rw [h]; rfl
theorem at_last {α : Type} {f : α → PyData} {xs : List α} {a : α} (h : xs.getLast? = some a) : atI (xs.map f) (-1) = some (f a) := by
  have hne : xs ≠ [] := by rintro rfl; simp at h
  have e : xs = xs.dropLast ++ [a] := by
    rw [List.getLast?_eq_some_iff] at h
    obtain ⟨ys, rfl⟩ := h
    simp
  rw [e, List.map_append]
  exact atI_last _ _
theorem isEmpty_filter {α : Type} (p : α → Bool) (xs : List α) (f : α → PyData) : ((xs.filter p).map f).isEmpty = xs.all fun a => !p a := by
  induction xs with
  | nil => rfl
  | cons x xs ih =>
    by_cases h : p x = true
    · simp [h]
    · have h' : p x = false := by simpa using h
      simp only [List.filter_cons, h', Bool.false_eq_true, if_false, ih, List.all_cons, Bool.not_false, Bool.true_and]
end
end Ed
end
section
set_option maxHeartbeats 4000000
/-! R1: rules that the layer has not: >= of pairs. -/
namespace Ed
open PySem L2
/-! ### pairs: >= -/
def geP (p q : Int × Int) : Bool := if p.1 = q.1 then (if p.2 = q.2 then true else decide (q.2 ≤ p.2)) else decide (q.1 ≤ p.1)
def rGeT (K : PySem.W.Frag) : R2 := fun x y H Q => ∃ (a b : Addr) (p q : Int × Int), x = .ref a ∧ y = .ref b ∧ SqT K H a [V.int p.1, V.int p.2] ∧ SqT K H b [V.int q.1, V.int q.2] ∧ Q (.bl (geP p q)) H
theorem op_geT {X : Cx} (hu : X.A.units < cLine) : OpR X (compareOp .GtE) (rGeT X.K) := by
  intro pins s σ H x y v u Q I rx ry h
  obtain ⟨a, b, p, q, rfl, rfl, ha, hb, k⟩ := h
  cases rx
  cases ry
  obtain ⟨its, r1, p1, _⟩ := I.tuple ha
  obtain ⟨its2, r2, p2, _⟩ := I.tuple hb
  have i1 : PyProof.Rows.IntsAre its [p.1, p.2] := Vals.ints r1
  have i2 : PyProof.Rows.IntsAre its2 [q.1, q.2] := Vals.ints r2
  have e1 : its.toArray.size = 2 := by rw [List.size_toArray]; exact i1.length
  have e2 : its2.toArray.size = 2 := by rw [List.size_toArray]; exact i2.length
  have at1 : ∀ j (h1 : j < its.toArray.size), ∃ t, its.toArray[j] = .int ([p.1, p.2].getD j 0) t := fun j h1 => PyProof.Rows.IntsAre.int_at i1 _ _ (by simp at h1; simp [h1])
  have at2 : ∀ j (h1 : j < its2.toArray.size), ∃ t, its2.toArray[j] = .int ([q.1, q.2].getD j 0) t := fun j h1 => PyProof.Rows.IntsAre.int_at i2 _ _ (by simp at h1; simp [h1])
  have R := Ob.RcOp.tuples_ge (A := X.A) (s := s) (e := fun j => decide ([p.1, p.2].getD j 0 = [q.1, q.2].getD j 0)) (r := fun j => decide ([q.1, q.2].getD j 0 ≤ [p.1, p.2].getD j 0)) p1 p2 hu (fun j h1 h2 => by
    obtain ⟨t, et⟩ := at1 j h1
    obtain ⟨t', et'⟩ := at2 j h2
    rw [et, et']
    have z : ([p.1, p.2].getD j 0 == [q.1, q.2].getD j 0) = decide ([p.1, p.2].getD j 0 = [q.1, q.2].getD j 0) := by
      by_cases q : [p.1, p.2].getD j 0 = [q.1, q.2].getD j 0
      · rw [decide_eq_true q]; exact beq_iff_eq.mpr q
      · rw [decide_eq_false q]; exact beq_eq_false_iff_ne.mpr q
    rw [← z]
    exact SeqAt.EqAt.int_int _ _ _ _) (fun j h1 h2 _ => by
    obtain ⟨t, et⟩ := at1 j h1
    obtain ⟨t', et'⟩ := at2 j h2
    rw [et, et']
    exact Ob.RcOp.ge_int _ _ _ _)
  rw [e1, e2] at R
  have e : Ob.lexAt (fun j => decide ([p.1, p.2].getD j 0 = [q.1, q.2].getD j 0)) (fun j => decide ([q.1, q.2].getD j 0 ≤ [p.1, p.2].getD j 0)) (decide (2 ≥ 2)) 0 (min 2 2) = geP p q := by
    show Ob.lexAt _ _ true 0 2 = _
    rw [Ob.lexAt_succ, Ob.lexAt_succ, Ob.lexAt_zero]
    simp only [List.getD_cons_zero, List.getD_cons_succ, Nat.zero_add, decide_eq_true_eq, geP]
  rw [e] at R
  exact R X.prog X.w X.xe (EP X pins σ Q) ⟨.bl _, H, I, rfl, k⟩
section
variable {K : PySem.W.Frag} {dr : Option Addr}
theorem rr_geP {p q : Int × Int} : RR dr (rGeT K) (.d (pr p)) (.d (pr q)) (.d (.bool (geP p q))) := fun v w H hv hw jd Q k => by
  obtain ⟨a, xs, rfl, h1, h2⟩ := tup_of hv
  obtain ⟨b, ys, rfl, g1, g2⟩ := tup_of hw
  cases h2.ints_eq
  cases g2.ints_eq
  exact ⟨a, b, p, q, rfl, rfl, SqT.of h1, SqT.of g1, k _ H (Ext.refl jd) (.bl _)⟩
end
end Ed
end
section
set_option maxHeartbeats 4000000
/-! R2: enumerate of a tuple. -/
namespace PySem
open Sem (wp)
set_option maxHeartbeats 1000000 in
theorem meets_enumerate_newB1 {v : Value} {o : Obj} {H : Heap → Prop} (B : Begins v o H) :
    Meets (Builtin.«enumerate.__new__» ⟨[.type "enumerate", v], []⟩) (fun _ R s => H s.heap ∧
      R (.ok (.ret (.ref (s.heap.push o).objs.size))) { s with heap := (s.heap.push o).push { cls := .type "enumerate", data := .fields #[.none, .bool false, .ref s.heap.objs.size, rawInt 0, .none, .none] } }) :=
  .of_wp fun prog w A R s h => by
    obtain ⟨hp, g, d, tk, os⟩ := s; obtain ⟨h1, h⟩ := h
    have hsub := sub_enumerate
    have q1 : ∀ {A' : Around} {E : Value → Shared → Prop} {Q : Value → Shared → Prop}, Q (.ref hp.objs.size) ⟨hp.push o, g, d, tk, os⟩ → wpAny (model prog w) A' (pyIter v) Q E ⟨hp, g, d, tk, os⟩ :=
      fun q => B.iter prog w _ _ ⟨hp, g, d, tk, os⟩ _ h1 q
    wp_walk using q1
    refine wpAny_stack_any fun st => wpAny_pure ?_
    split
    · rename_i c _ _ _ _ _
      cases (c == Value.type "enumerate")
      · wp_walk using q1
        exact ⟨_, rfl, h⟩
      · wp_walk using q1
        exact ⟨_, rfl, h⟩
    · wp_walk using q1
      exact ⟨_, rfl, h⟩
section
variable {prog : Program} {w : World} {A : Around} {E : Value → Shared → Prop} {s : Shared}
theorem call_enumerate_tuple {l : Addr} {items : Array Value} {Q : Value → Shared → Prop} (hL : s.heap.IsTuple l items)
    (h : ∀ h', IsEnum h' (s.heap.objs.size + 1) s.heap.objs.size 0 .none → h'.IsTupleIter s.heap.objs.size l 0 → h'.objs.size = s.heap.objs.size + 2 →
      (∀ b o, s.heap.get? b = some o → h'.get? b = some o) → Q (.ref (s.heap.objs.size + 1)) { s with heap := h' }) :
    wpAny (model prog w) A (call (.type "enumerate") [.ref l]) Q E s := by
  refine callType_new F.called_enumerate (by decide) (F.typeCall_enumerate_1 _) (F.newCall_enumerate_1 _) (fun obj => F.args_object_init_2 obj _) F.entry_enumerate_new
    (meets_enumerate_newB1 (begins_tuple l items)) ⟨hL, ?_⟩
  have hz : (s.heap.push { cls := .type "tuple_iterator", data := .fields #[.ref l, .int 0 0] }).objs.size = s.heap.objs.size + 1 := Heap.size_push ..
  show _ ∧ _
  rw [hz]
  have he : IsEnum ((s.heap.push { cls := .type "tuple_iterator", data := .fields #[.ref l, .int 0 0] }).push
      { cls := .type "enumerate", data := .fields #[.none, .bool false, .ref s.heap.objs.size, rawInt 0, .none, .none] }) (s.heap.objs.size + 1) s.heap.objs.size 0 .none := by
    have := Heap.get?_push_size (s.heap.push { cls := .type "tuple_iterator", data := .fields #[.ref l, .int 0 0] })
      (o := { cls := .type "enumerate", data := .fields #[.none, .bool false, .ref s.heap.objs.size, rawInt 0, .none, .none] }) rfl
    rw [hz] at this; exact this
  refine ⟨⟨_, he, rfl⟩, h _ he ⟨_, Heap.get?_push_of_some _ (Heap.get?_push_size _ rfl), rfl, rfl⟩ (by rw [Heap.size_push, hz]) fun b o x => Heap.get?_push_of_some _ (Heap.get?_push_of_some _ x)⟩
theorem wpAny_pyNext_enum_endT {e it l : Addr} {i : Nat} {items : Array Value} {old : Value} {Q : Option Value → Shared → Prop} (he : IsEnum s.heap e it i old) (hit : s.heap.IsTupleIter it l i) (hl : s.heap.IsTuple l items) (hx : items[i]? = none) (hh : A.handled = none)
    (hQ : ∀ h', Heap.ExtBut it s.heap h' → Q none { s with heap := h' }) : wpAny (model prog w) A (pyNext (.ref e)) Q E s := by
  have hT : s.TypeIs (.ref e) "enumerate" := ⟨_, he, rfl⟩
  unfold pyNext
  refine wpAny_bind (wpAny_attempt (wpAny_callSpecial?_slot (name := Str.ofString "__next__") hT F.slot_enumerate_next
    (wpAny_call_entry F.slot_enumerate_next hT F.entry_enumerate_next ?_ (F.args_enumerate_next_1 _))))
  show wpAny _ _ (field (.ref e) 2 >>= _) _ _ _
  refine wpAny_bind (wpAny_field he rfl (x := .ref it) rfl ?_)
  refine wpAny_bind (wpAny_nextOf_tuple_end hh hit hl hx fun h' x he' hx' => ?_)
  obtain ⟨o, ho, hc⟩ := hx'
  refine wpAny_bind (wpAny_isInstance (T := "StopIteration") (b := true) ⟨o, ho, hc⟩ isSubtype_stop ?_)
  exact wpAny_pure (hQ _ he')
end
end PySem
namespace Ed
open PySem L2
/-- the tuple at a, each item in a new pair -/
def IteT (K : PySem.W.Frag) (a : Addr) : It :=
  ⟨fun i H => ∃ (xs : List V) (x : V), SqT K H a xs ∧ xs[i]? = some x, fun i H v H' => ∃ T x, v = .ref T ∧ H T = none ∧ H' = upd H T (.tup [.int (i : Nat), x]) ∧ ∀ xs, SqT K H a xs → xs[i]? = some x, fun i H => ∃ xs : List V, SqT K H a xs ∧ xs.length ≤ i⟩
theorem turn_enumT {P : Program} {w : World} {K : PySem.W.Frag} {elts : List Expr} {kk : Nat} {tpos : Pos} (a e it : Addr) :
    Turn P w K (.Tuple elts kk tpos) (IteT K a) [e, it] e (fun i h => (∃ old, IsEnum h e it ((i : Nat) : Int) old) ∧ h.IsTupleIter it a i ∧ e ≠ it ∧ a ≠ e ∧ a ≠ it) where
  mem := by simp
  obj := fun i h st b hb => by
    obtain ⟨⟨old, he⟩, ⟨o, ho, hc, hd⟩, _⟩ := st
    have e' : b = e ∨ b = it := by simpa using hb
    rcases e' with z | z
    · rw [z]; exact ⟨_, he, fun v q => nomatch q⟩
    · rw [z]; exact ⟨o, ho, fun v q => by rw [hd] at q; cases q⟩
  keep := fun i h h' st k => let ⟨⟨old, he⟩, hi, hne⟩ := st; ⟨⟨old, k e (by simp) _ he⟩, hi.at fun o q => k it (by simp) o q, hne⟩
  item := by
    intro X hP hw hK hc i pins s σ H E I hf st hg
    subst hP hw hK
    obtain ⟨⟨old, he⟩, hit, hne, hae, hai⟩ := st
    obtain ⟨xs, x, hq, hx⟩ := hg
    obtain ⟨its, rv, p, hz⟩ := I.tuple hq
    obtain ⟨u, hu, ru⟩ := rv.get hx
    have hel : e < s.heap.objs.size := Heap.lt_size he
    have hil : it < s.heap.objs.size := by obtain ⟨_, q, _⟩ := hit; exact Heap.lt_size q
    have hlt : i < its.toArray.size := by
      have := (List.getElem?_eq_some_iff.mp hu).1
      simpa using this
    refine wpAny_pyNext_enum_itemD (Draws.tuple (A := X.A.in1) (I.ok.hd hc) it a hai its.toArray) he ⟨hit, (show s.heap.IsTuple a its.toArray from p)⟩ hlt hne (by simp [hne, Ne.symm hae]) fun y h' tk hy ho hit' hT hsz hk => ?_
    have ey : y = u := by
      have h1 : its[i]? = some y := by simpa using hy
      rw [hu] at h1
      exact (Option.some.inj h1).symm
    subst ey
    refine ⟨_, rfl, wpAny_letOwnedTupleGo_enum (s := { s with heap := h', toks := tk + 1 }) ho fun h'' he' sb => ?_⟩
    have hT2 : h''.get? s.heap.objs.size = some { cls := .type "tuple", data := .seq #[.int i tk, y] } := (sb.2 _ (Nat.ne_of_gt hel)).trans hT
    have new : ObjOk X.prog X.w (upd H s.heap.objs.size (.tup [.int (i : Nat), x])) h'' s.heap.objs.size (.tup [.int (i : Nat), x]) :=
      ⟨by show 2 ≤ sizeLine; decide, [.int i tk, y], .cons ⟨_, rfl⟩ (.cons ru .nil), ⟨_, hT2, rfl, _, rfl⟩⟩
    have I1 : Inv X pins σ (upd H s.heap.objs.size (.tup [.int (i : Nat), x])) { s with heap := h'', toks := tk + 1 } :=
      I.turnedNew (ch := [e, it]) (fun b ob hb q => (sb.2 b (fun z => hb (by simp [z]))).trans (hk b ob (fun z => hb (by simp [z])) (fun z => hb (by simp [z])) q)) hf (Nat.le_refl _) new
    refine ⟨.ref s.heap.objs.size, _, I1, rfl, ⟨_, x, rfl, I.hok.fresh (Nat.le_refl _), rfl, fun ys hy => by rw [I.tuple_inj hy hq]; exact hx⟩, ⟨⟨y, ?_⟩, hit'.1.at fun o q => (sb.2 it (Ne.symm hne)).trans q, hne, hae, hai⟩, fun b hb => ?_⟩
    · have e1 : ((i + 1 : Nat) : Int) = (i : Int) + 1 := by omega
      rw [e1]; exact he'
    · have hb' : b < s.heap.objs.size := by
        have e' : b = e ∨ b = it := by simpa using hb
        rcases e' with z | z
        · rw [z]; exact hel
        · rw [z]; exact hil
      rw [upd_ne (Nat.ne_of_lt hb')]
      exact (hf b hb).1
  done := by
    intro X hP hw hK hc i pins s σ H E I hf st hg
    subst hP hw hK
    obtain ⟨⟨old, he⟩, hit, hne, hae, hai⟩ := st
    obtain ⟨xs, hq, hx⟩ := hg
    obtain ⟨its, rv, p, hz⟩ := I.tuple hq
    obtain ⟨f0, f1, f2, f3, f4, f5⟩ := hf it (by simp)
    have hl := rv.length
    refine wpAny_pyNext_enum_endT he hit (show s.heap.IsTuple a its.toArray from p) (by simp; omega) (I.ok.hd hc) fun h' eb => ⟨rfl, I.turned (t' := s.toks) (fun b o hb q => eb b o hb q) f0 f1 f3 f4 f5⟩
  self := fun A i s Q E st h => let ⟨⟨_, he⟩, _⟩ := st; wpAny_pyIter_enum he h
def iEnumT (K : PySem.W.Frag) (ta : TA) : TI := fun σ H R => ta σ H fun vs H1 => ∃ a xs, vs = [.ref a] ∧ SqT K H1 a xs ∧ R (IteT K a) H1
theorem pi_enumT {X : Cx} {e : Expr} {ta : TA} {p pos tpos : Pos} {elts : List Expr} {kk : Nat} (hg : Gl X "enumerate") (hm : X.mg "enumerate" = none) (ha : PA X [e] ta) (hs : starEach [e] X.env = [(false, eval e X.env)] := by rfl) :
    PI X (.Tuple elts kk tpos) (.Call (.Name "enumerate" p) [e] [] pos) (iEnumT X.K ta) := by
  refine ⟨fun pins s σ H R I h => ?_⟩
  refine PyProof.Rows.Call_ (ld_blt I hg hm PyProof.Rows.boot_enumerate (PyProof.Rows.callWith_type1 (thn (ha.run pos pins s σ H _ I h) fun us s1 ⟨vs, H1, I1, r1, q1⟩ => ?_) hs rfl))
  obtain ⟨a, xs, ex, hq, q⟩ := q1
  subst ex
  cases r1 with
  | cons r rr =>
    cases rr
    cases r
    obtain ⟨its, rv, p', hz⟩ := I1.tuple hq
    have hal : a < s1.heap.objs.size := p'.lt
    refine call_enumerate_tuple (show s1.heap.IsTuple a its.toArray from p') fun h' he hit hsz hk => wpAny_pyIter_enum he ?_
    have I2 : Inv X pins σ H1 { s1 with heap := h' } := I1.kept (t' := s1.toks) hk
    refine ⟨s1.heap.objs.size + 1, [s1.heap.objs.size + 1, s1.heap.objs.size], _, _, H1, rfl, I2, turn_enumT a (s1.heap.objs.size + 1) s1.heap.objs.size, ⟨⟨.none, he⟩, hit, Nat.succ_ne_self _, Nat.ne_of_lt (Nat.lt_succ_of_lt hal), Nat.ne_of_lt hal⟩, fun b hb => ?_, q⟩
    have e' : b = s1.heap.objs.size + 1 ∨ b = s1.heap.objs.size := by simpa using hb
    have hle : s1.heap.objs.size ≤ b := by
      rcases e' with z | z
      · rw [z]; exact Nat.le_add_right _ _
      · rw [z]; exact Nat.le_refl _
    exact I1.fpOk hle (I1.hok.fresh hle)
end Ed
end
section
set_option maxHeartbeats 4000000
/-! R3: loops whose target is a row of names. -/
namespace Ed
open PySem L2
section
variable {K : PySem.W.Frag} {dr : Option Addr} {δ : List Sd} {tl : TE} {B : Hp → Prop} {E : Ends} {tz tu : TS} {α : Type}
theorem w_forTu {is : List Nat} {n : Nat} (xs : List α) (flds : α → List PyData) (I : Nat → List Sd → Prop) (hB : BOk dr B) (hl : Ev dr tl δ (.d (.tuple (xs.map fun a => .tuple (flds a))))) (hn : ∀ a, (flds a).length = n) (his : is.length = n) (h0 : I 0 δ)
    (hs : ∀ B', BOk dr B' → (∀ H, B' H → B H) → (∀ p, Mu B p → Mu B' p) → ∀ i a δ', xs[i]? = some a → I i δ' → W dr B' { E with nx := NI dr B' (I (i + 1)), ct := NI dr B' (I (i + 1)), bk := tz E } tu (setAll δ' is (flds a)))
    (hd : ∀ δ', I xs.length δ' → W dr B E tz δ') : W dr B E (tSeq (tFor (iTup K tl) (gTup K n (unp is)) tu) tz) δ := fun σ H s jd b =>
  hl σ H s jd _ fun v H1 e1 h1 => by
    obtain ⟨a, ws, rfl, g1, g2⟩ := tup_of h1
    have hlen : ws.length = xs.length := by rw [g2.length, List.length_map]
    refine ⟨a, rfl, ⟨ws, SqT.of g1⟩, ?_⟩
    refine for_tup (xs := ws) (D := { E with nx := tz E }) (fun i σ' H' => NI dr (fun H => B H ∧ Tx H1 H) (I i) σ' H') ⟨δ, h0, s.ext e1 jd, e1.jd, hB.ext b jd e1, Tx.refl _⟩ (fun i σ' H' _ p => ?_) (fun i x σ' H' hi p => ?_) (fun σ' H' p => ?_)
    · obtain ⟨δ', _, _, _, _, t⟩ := p
      exact SqT.of (t _ _ g1)
    · obtain ⟨δ', hI, s', j', b', t⟩ := p
      obtain ⟨d', hd', hx⟩ := g2.getV hi
      rw [List.getElem?_map] at hd'
      obtain ⟨a', ha', rfl⟩ := Option.map_eq_some_iff.mp hd'
      obtain ⟨c, ys, rfl, k1, k2⟩ := tup_of (dr := dr) (hx.tx t)
      refine ⟨c, ys, rfl, SqT.of k1, by rw [k2.length]; exact hn a', unp_ok (by rw [his, hn]) k2 s' fun σ2 s2 => ?_⟩
      exact hs _ hB.tx (fun H q => q.1) (fun p m => m.tx) i a' δ' ha' hI _ H' s2 j' ⟨b', t⟩
    · obtain ⟨δ', hI, s', j', b', t⟩ := p
      rw [hlen] at hI
      exact hd δ' hI σ' H' s' j' b'
/-- for i, x in enumerate(a tuple) -/
theorem w_forE {ta : TA} {is : List Nat} (xs : List α) (enc : α → PyData) (I : Nat → List Sd → Prop) (hB : BOk dr B) (hl : EvA dr ta δ [.d (.tuple (xs.map enc))]) (his : is.length = 2) (h0 : I 0 δ)
    (hs : ∀ B', BOk dr B' → (∀ H, B' H → B H) → (∀ p, Mu B p → Mu B' p) → ∀ (i : Nat) a δ', xs[i]? = some a → I i δ' → W dr B' { E with nx := NI dr B' (I (i + 1)), ct := NI dr B' (I (i + 1)), bk := tz E } tu (setAll δ' is [.int (i : Int), enc a]))
    (hd : ∀ δ', I xs.length δ' → W dr B E tz δ') : W dr B E (tSeq (tFor (iEnumT K ta) (gTup K 2 (unp is)) tu) tz) δ := fun σ H s jd b =>
  hl σ H s jd _ fun vs H1 e1 h1 => by
    obtain ⟨v, rfl, h2⟩ := oks1 h1
    obtain ⟨a, ws, rfl, g1, g2⟩ := tup_of h2
    have hlen : ws.length = xs.length := by rw [g2.length, List.length_map]
    refine ⟨a, ws, rfl, SqT.of g1, ?_⟩
    refine ⟨fun i m σ' H' => m = xs.length - i ∧ i ≤ xs.length ∧ NI dr (fun H => B H ∧ Tx H1 H) (I i) σ' H', ⟨xs.length, by simp, Nat.zero_le _, δ, h0, s.ext e1 jd, e1.jd, hB.ext b jd e1, Tx.refl _⟩, ?_⟩
    rintro i m σ' H' ⟨rfl, hi, δ', hI, s', j', b', t⟩
    by_cases hlt : i < xs.length
    · refine .inr ⟨⟨ws, ws[i], SqT.of (t _ _ g1), by simp [hlen, hlt]⟩, NI dr (fun H => B H ∧ Tx H1 H) (I (i + 1)), fun σ2 H2 p => ⟨xs.length - (i + 1), by omega, rfl, hlt, p⟩, fun x H2 y => ?_⟩
      obtain ⟨T, u, rfl, hT, rfl, hx⟩ := y
      have hx' := hx ws (SqT.of (t _ _ g1))
      obtain ⟨d', hd', hxd⟩ := g2.getV hx'
      rw [List.getElem?_map] at hd'
      obtain ⟨a', ha', rfl⟩ := Option.map_eq_some_iff.mp hd'
      have e2 : Ext dr H' (upd H' T (.tup [.int (i : Nat), u])) := Ext.new j' hT
      have tt := e2.tx j'
      refine ⟨T, _, rfl, SqT.of upd_same, rfl, unp_ok (ds := [.int (i : Int), enc a']) (by rw [his]; rfl) (.cons (.int _) (.cons ((hxd.tx t).tx tt) .nil)) (s'.ext e2 j') fun σ2 s2 => ?_⟩
      exact hs _ hB.tx (fun H q => q.1) (fun p m => m.tx) i a' δ' ha' hI _ _ s2 e2.jd ⟨hB.ext b' j' e2, t.trans tt⟩
    · have e : i = xs.length := by omega
      subst e
      exact .inl ⟨⟨ws, SqT.of (t _ _ g1), by omega⟩, hd δ' hI σ' H' s' j' b'⟩
end
end Ed
end
section
set_option maxHeartbeats 4000000
/-! R4: dicts whose keys are nested tuples. -/
namespace Ed
open PySem L2
/-! ### data as keys -/
mutual
def nk : PyData → NestedKey
  | .none => .none
  | .bool b => .num (if b = true then 1 else 0)
  | .int i => .num i
  | .str x => .text x
  | .tuple ds => .tup (nks ds)
  | .list _ => .none
  | .dict _ => .none
def nks : List PyData → List NestedKey
  | [] => []
  | d :: ds => nk d :: nks ds
end
section
variable {P : Program} {w : World} {H : Hp} {h : Heap}
theorem nk_is (ok : HOk P w H h) : ∀ {v : V} {d : PyData}, DT H v d → ∀ u, RelV v u → NestedIs h (nk d) u := by
  intro v d x
  refine DT.rec (motive_1 := fun v d _ => ∀ u, RelV v u → NestedIs h (nk d) u) (motive_2 := fun vs ds _ => ∀ us, Vals vs us → NestedAll h (nks ds) us) ?_ ?_ ?_ ?_ ?_ ?_ ?_ x
  · intro u r; cases r; exact .none
  · intro b u r; cases r; exact .bool rfl
  · intro i u r; obtain ⟨t, rfl⟩ := r; exact .int _ _
  · intro y u r; obtain ⟨t, rfl⟩ := r; exact .text _ _
  · intro a xs ds e _ ih u r
    cases r
    obtain ⟨_, its, rv, o, h1, h2, n, h3⟩ := (show ObjOk P w H h a (.tup xs) from ok a _ e)
    exact .tup h1 h2 h3 (by simpa using ih its rv)
  · intro us r; cases r; exact .nil
  · intro v vs d ds _ _ i1 i2 us r
    cases r with
    | cons r rr => exact .cons (i1 _ r) (i2 _ rr)
end
/-! ### the raw table -/
abbrev Raw := List (NestedKey × Addr × Value)
def RawD (P : Program) (w : World) (p : Addr) (xs : Raw) : Heap → Prop := fun h => ∃ o es ep, h.get? p = some o ∧ o.ExactDict ∧ o.data = .dict es ep ∧ es.toList = xs.map (entryOfKey (nestedKind P w)) ∧ (xs.map (·.1)).Nodup
/-- y is the key k -/
def NkV (H : Hp) (y : V) (k : NestedKey) : Prop := ∃ b e, y = .ref b ∧ DT H (.ref b) e ∧ nk e = k ∧ k.depth ≤ 8
def KeysOk (H : Hp) (xs : Raw) : Prop := ∀ x ∈ xs, NkV H (.ref x.2.1) x.1
structure DH (P : Program) (w : World) (H : Hp) (p : Addr) (xs : Raw) : Prop where
  len : xs.length ≤ sizeLine
  sys : (p == sysModules) = false
  rd : Rd H p (.ext (RawD P w p xs))
  keys : KeysOk H xs
section
variable {X : Cx} {pins : List (Addr × Obj)} {σ : St} {H : Hp} {s : Shared} {p : Addr} {xs : Raw}
theorem NkV.is {y : V} {k : NestedKey} {u : Value} (n : NkV H y k) (I : Inv X pins σ H s) (r : RelV y u) : ∃ b, u = .ref b ∧ y = .ref b ∧ (nestedKind X.prog X.w).is s.heap k b := by
  obtain ⟨b, e, rfl, h1, h2, h3⟩ := n
  cases r
  refine ⟨b, rfl, rfl, ?_, h3⟩
  have := nk_is I.hok h1 (.ref b) rfl
  rwa [h2] at this
theorem DH.dict (d : DH X.prog X.w H p xs) (I : Inv X pins σ H s) : s.heap.DictOfH (nestedKind X.prog X.w) p xs := by
  obtain ⟨⟨o, es, ep, h1, h2, h3, h4, h5⟩, _, _⟩ := (show ObjOk X.prog X.w H s.heap p (.ext (RawD X.prog X.w p xs)) from d.rd.ok I.hok)
  refine ⟨o, es, ep, h1, h2, h3, h4, fun x hx => ?_, h5⟩
  obtain ⟨b, e1, _, e2⟩ := (d.keys x hx).is I (u := .ref x.2.1) rfl
  cases e1
  exact e2
theorem rawD_ok {P : Program} {w : World} {H : Hp} {h : Heap} (d : h.DictOfH (nestedKind P w) p xs) : ObjOk P w H h p (.ext (RawD P w p xs)) := by
  obtain ⟨o, es, ep, h1, h2, h3, h4, _, h5⟩ := d
  exact ⟨⟨o, es, ep, h1, h2, h3, h4, h5⟩, ⟨o, h1⟩, fun ha hb q k => by
    obtain ⟨o, es, ep, h1, r⟩ := q
    exact ⟨o, es, ep, k o h1, r⟩⟩
end
/-! ### readings -/
/-- y in d -/
def rInK (P : Program) (w : World) (neg : Bool) : R2 := fun x y H Q => ∃ d k xs, y = .ref d ∧ NkV H x k ∧ DH P w H d xs ∧ Q (.bl (if neg = true then !(atKey xs k).isSome else (atKey xs k).isSome)) H
def rIxK (P : Program) (w : World) : R2 := fun x y H Q => ∃ d k xs a v, x = .ref d ∧ NkV H y k ∧ DH P w H d xs ∧ atKey xs k = some a ∧ RelV v a.2 ∧ Q v H
/-- d[y] = v: what stands there is the new table, v's own value being u -/
def rSetK (P : Program) (w : World) : TSet := fun o i v H Q => ∃ d k b xs, o = .ref d ∧ i = .ref b ∧ NkV H i k ∧ DH P w H d xs ∧ H d = some (.ext (RawD P w d xs)) ∧ xs.length < sizeLine ∧ ∀ u, RelV v u → Q (upd H d (.ext (RawD P w d (storedH xs k b u))))
def rGetK (P : Program) (w : World) : V → List V → Hp → VK → Prop := fun x vs H Q => ∃ d k xs y z, x = .ref d ∧ vs = [y, z] ∧ NkV H y k ∧ DH P w H d xs ∧ ((∃ a v, atKey xs k = some a ∧ RelV v a.2 ∧ Q v H) ∨ (atKey xs k = none ∧ Q z H))
def rPopK (P : Program) (w : World) : V → List V → Hp → VK → Prop := fun x vs H Q => ∃ d k xs y a v, x = .ref d ∧ vs = [y] ∧ NkV H y k ∧ DH P w H d xs ∧ H d = some (.ext (RawD P w d xs)) ∧ atKey xs k = some a ∧ RelV v a.2 ∧ Q v (upd H d (.ext (RawD P w d (withoutH xs k))))
def tNewK (P : Program) (w : World) : TE := fun _ H Q => ∀ p, H p = none → (p == sysModules) = false → Q (.ref p) (upd H p (.ext (RawD P w p [])))
/-- {a: b} -/
def tOneK (P : Program) (w : World) (tk tv : TE) : TE := fun σ H Q => ∀ p, H p = none → (p == sysModules) = false → tk σ (upd H p (.ext (RawD P w p []))) fun y H1 => tv σ H1 fun v H2 => H2 p = some (.ext (RawD P w p [])) ∧ ∃ k b, y = .ref b ∧ NkV H2 y k ∧ ∀ u, RelV v u → Q (.ref p) (upd H2 p (.ext (RawD P w p [(k, b, u)])))
/-- dict(a list of pairs) -/
def rDctK (P : Program) (w : World) (K : PySem.W.Frag) : List V → Hp → VK → Prop := fun vs H Q => ∃ (a : Addr) (ps : List Addr) (ks : List (NestedKey × Addr × V)), vs = [.ref a] ∧ SqL K H a (ps.map V.ref) ∧ Paired (fun p k => SqT K H p [.ref k.2.1, k.2.2] ∧ NkV H (.ref k.2.1) k.1) ps ks ∧ (ks.map (·.1)).Nodup ∧
  ∀ p (xs : Raw), H p = none → (p == sysModules) = false → Paired (fun k (x : NestedKey × Addr × Value) => x.1 = k.1 ∧ x.2.1 = k.2.1 ∧ RelV k.2.2 x.2.2) ks xs → Q (.ref p) (upd H p (.ext (RawD P w p xs)))
def tBMK (P : Program) (w : World) (r : V → List V → Hp → VK → Prop) (to : TE) (t : TA) : TE := fun σ H Q => to σ H fun x H1 => (∃ d xs, x = .ref d ∧ DH P w H1 d xs) ∧ t σ H1 fun vs H2 => r x vs H2 Q
section
variable {X : Cx} {a b e : Expr} {ta tb : TE} {pos : Pos}
theorem op_inK (hu : X.A.units + 190 < cLine) : OpR X (compareOp .In) (rInK X.prog X.w false) := by
  intro pins s σ H x y v u Q I rx ry h
  obtain ⟨d, k, xs, rfl, n, D, q⟩ := h
  obtain ⟨b, rfl, rfl, kk⟩ := n.is I rx
  cases ry
  exact wpAny_in_heap (show X.A.units + 1 + 8 < cLine by omega) kk D.sys (D.dict I) ⟨.bl _, H, I.tok _, rfl, q⟩
theorem op_notInK (hu : X.A.units + 190 < cLine) : OpR X (compareOp .NotIn) (rInK X.prog X.w true) := by
  intro pins s σ H x y v u Q I rx ry h
  obtain ⟨d, k, xs, rfl, n, D, q⟩ := h
  obtain ⟨b, rfl, rfl, kk⟩ := n.is I rx
  cases ry
  show wpAny _ _ (do return Value.bool (!(← contains (.ref d) (.ref b)))) _ _ s
  exact wpAny_bind (wpAny_contains_heap (show X.A.units + 1 + 8 < cLine by omega) kk D.sys (D.dict I) (wpAny_pure ⟨.bl _, H, I.tok _, rfl, q⟩))
theorem ix_K (hu : X.A.units + 190 < cLine) : IxR X (rIxK X.prog X.w) := by
  intro value slice pins s σ H x y v u Q I rx ry h hs
  obtain ⟨d, k, xs, a, z, rfl, n, D, ha, rz, q⟩ := h
  obtain ⟨b, rfl, rfl, kk⟩ := n.is I ry
  cases rx
  exact PyProof.Rows.subscriptTail_builtinR (x := a.2) (D.dict I).typeIs PySem.F.slot_dict_getitem.lookup
    (wpAny_getItem_heap (Q := fun r s' => r = a.2 ∧ EP X pins σ Q r s') (show X.A.units + 1 + 8 < cLine by omega) kk (D.dict I) ha ⟨rfl, z, H, I.tok _, rz, q⟩) hs
theorem raw_write {pins : List (Addr × Obj)} {σ : St} {H : Hp} {s : Shared} {d : Addr} {xs ys : Raw} {h' : Heap} {t' : Nat} (I : Inv X pins σ H s) (e : H d = some (.ext (RawD X.prog X.w d xs))) (dd : h'.DictOfH (nestedKind X.prog X.w) d ys) (hs : Heap.SameBut d s.heap h') :
    Inv X pins σ (upd H d (.ext (RawD X.prog X.w d ys))) { s with heap := h', toks := t' } :=
  d_write I (by rw [e]; exact True.intro) hs (let ⟨o, _, _, h1, _⟩ := dd; ⟨o, h1⟩) (rawD_ok dd)
theorem set_K (hu : X.A.units + 190 < cLine) : PSet X (rSetK X.prog X.w) := by
  intro pins s σ H o i v ov iv u Q I ro ri rv h
  obtain ⟨d, k, b, xs, rfl, rfl, n, D, e, hl, q⟩ := h
  obtain ⟨b', rfl, e', kk⟩ := n.is I ri
  cases e'
  cases ro
  exact wpAny_setItem_heap (hsz := D.len) (show X.A.units + 1 + 8 < cLine by omega) kk (D.dict I) fun h' dd hs => ⟨_, raw_write I e dd hs, q u rv⟩
theorem mt_getK (hu : X.A.units + 190 < cLine) : MtR X "dict.get" (rGetK X.prog X.w) := by
  intro pins s σ H x vs v us Q I rx rv h
  obtain ⟨d, k, xs, y, z, rfl, rfl, n, D, q⟩ := h
  obtain ⟨uy, uz, rfl, ry, rz⟩ := rv.two
  obtain ⟨b, rfl, rfl, kk⟩ := n.is I ry
  cases rx
  refine call_meetsIn PySem.F.slot_dict_get (D.dict I).typeIs PySem.F.entry_dict_get (PySem.F.args_dict_get_3 _ _ _) (meetsH_dict_get_default (nestedKind X.prog X.w) d b D.sys uz) ⟨show X.A.units + 1 + 8 < cLine by omega, k, xs, kk, D.dict I, ?_⟩
  rcases q with ⟨a, v, ha, r, q⟩ | ⟨ha, q⟩
  · rw [ha]; exact ⟨v, H, I.tok _, r, q⟩
  · rw [ha]; exact ⟨z, H, I.tok _, rz, q⟩
theorem mt_popK (hu : X.A.units + 190 < cLine) : MtR X "dict.pop" (rPopK X.prog X.w) := by
  intro pins s σ H x vs v us Q I rx rv h
  obtain ⟨d, k, xs, y, a, z, rfl, rfl, n, D, e, ha, rz, q⟩ := h
  obtain ⟨uy, rfl, ry⟩ := rv.one
  obtain ⟨b, rfl, rfl, kk⟩ := n.is I ry
  cases rx
  exact call_pop_heap (hsz := D.len) (.inl rfl) (PySem.F.args_dict_pop_2 _ _) (show X.A.units + 1 + 8 < cLine by omega) kk D.sys (D.dict I) ha fun h' dd hs => ⟨z, _, raw_write I e dd hs, rz, q⟩
theorem pe_bmK {o e : Expr} {es : List Expr} {to : TE} {t : TA} {name : Str} {apos cpos : Pos} {id : String} {r : V → List V → Hp → VK → Prop} (slot : Slot "dict" name id) (hty : typeOf (.builtin id) = pure (.type "method_descriptor")) (hm : MtR X id r) (ho : PE X o to) (ha : PA X (e :: es) t)
    (hbase : attributeBase o name X.env (eval o X.env) = eval o X.env := by rfl)
    (hfew : ((backTo cpos (starEach (e :: es) X.env)).all (fun x => !x.1) && (backToKw cpos (keywordEach [] X.env)).all (fun x => x.1.isSome)
      && decide ((e :: es).length + ([] : List Keyword).length + (if ([] : List Keyword).isEmpty then 0 else 1) < 30)) = true := by rfl)
    (hline : (apos.endLine == cpos.line) = true := by rfl) (hs : starEach (e :: es) X.env = (false, eval e X.env) :: starEach es X.env := by rfl) (hplain : (backTo cpos (starEach es X.env)).any (·.1) = false := by rfl) :
    PE X (.Call (.Attribute o name apos) (e :: es) [] cpos) (tBMK X.prog X.w r to t) := by
  refine ⟨fun pins s σ H Q I h => ?_⟩
  refine wpAny_Call_method_late hbase hfew hline rfl (thn (ho.run pins s σ H _ I h) fun v s1 ⟨x, H1, I1, r1, ty, q1⟩ => ?_)
  obtain ⟨d, xs, rfl, D⟩ := ty
  cases r1
  have dd := D.dict I1
  refine ⟨"dict", id, PySem.F.plainAttrs_dict, slot, hty, dd.typeIs, fun a e => ?_, ?_⟩
  · cases e
    obtain ⟨o, _, _, h1, h2, _⟩ := dd
    exact ⟨o, h1, h2.2.1⟩
  have hA := ha.run cpos pins s1 σ H1 _ I1 q1
  rw [hs] at hA ⊢
  refine Calls.callWith_builtin (by show (false || (backTo cpos (starEach es X.env)).any (·.1)) = false; rw [hplain] <;> rfl) (Calls.evalArgs_plain ?_)
  exact thn hA fun us s2 ⟨vs, H2, I2, r2, q2⟩ => hm pins s2 σ H2 (.ref d) vs (.ref d) us Q I2 rfl r2 q2
theorem sys_new {pins : List (Addr × Obj)} {σ : St} {H : Hp} {s : Shared} (I : Inv X pins σ H s) : (s.heap.objs.size == sysModules) = false := beq_eq_false_iff_ne.mpr (Ne.symm (Nat.ne_of_lt I.big))
theorem pe_newK : PE X (.Dict [] [] pos) (tNewK X.prog X.w) := ⟨fun pins s σ H Q I h =>
  wpAny_Dict_empty ⟨.ref s.heap.objs.size, _, I.laid (a := s.heap.objs.size) (o := .ext (RawD X.prog X.w s.heap.objs.size [])) (t' := s.toks) (fun _ _ q => Heap.get?_push_of_some _ q) (Nat.le_refl _) (rawD_ok (Heap.DictOfH.new s.heap)), rfl, h _ (I.hok.fresh (Nat.le_refl _)) (sys_new I)⟩⟩
end
end Ed
end
section
set_option maxHeartbeats 4000000
/-! R5: such a dict's display, dict(pairs), its keys one by one. -/
namespace Ed
open PySem L2
section
variable {X : Cx} {a b e : Expr} {ta tb td : TE} {pos : Pos} {tg : Expr}
theorem keyed1 {k : NestedKey} {c : Addr} {u : Value} : storedAllH ([] : Raw) [(k, c, u)] = [(k, c, u)] := by
  simp [storedAllH, storedH, atKey]
theorem pe_oneK (hu : X.A.units + 190 < cLine) (ha : PE X a ta) (hb : PE X b tb) : PE X (.Dict [some a] [b] pos) (tOneK X.prog X.w ta tb) := by
  refine ⟨fun pins s σ H Q I h => ?_⟩
  have hn := I.hok.fresh (Nat.le_refl s.heap.objs.size)
  have I1 := I.laid (a := s.heap.objs.size) (o := .ext (RawD X.prog X.w s.heap.objs.size [])) (h' := s.heap.push { cls := .type "dict", data := .dict #[] }) (t' := s.toks) (fun _ _ q => Heap.get?_push_of_some _ q) (Nat.le_refl _) (rawD_ok (Heap.DictOfH.new s.heap))
  have q0 := h _ hn (sys_new I)
  have hshape : (evalEachOpt [some a] X.env).zip ((evalEach [b] X.env).map fun v => do let x ← v; standAt pos; pure x) = (PySem.pairTrees [some a] [b] X.env pos).map fun p => (some p.1, p.2) := rfl
  rw [arm_eval_Dict, hshape, dictDisplay_pairs _ (by simp [PySem.pairTrees]) (by simp [PySem.pairTrees])]
  refine wpAny_bind (wpAny_standAt (wpAny_bind (wpAny_subDictH (knd := nestedKind X.prog X.w) (Q := fun d s' => wpAny (model X.prog X.w) X.A (pure (Value.ref d)) (EP X pins σ Q) X.xe s') (show X.A.units + 8 < cLine by omega) (by simp [PySem.pairTrees]) ?_)))
  refine pairTrees_cons_walk (thn (ha.run pins _ σ _ _ I1 q0) fun u s1 ⟨y, H1, I1, ry, q1⟩ => thn (hb.run pins s1 σ H1 _ I1 q1) fun v s2 ⟨z, H2, I2, rz, e2, k, c, ey, nn, q2⟩ => pairTrees_nil_walk ?_)
  subst ey
  obtain ⟨c', rfl, ec, kk⟩ := nn.is I2 ry
  cases ec
  have D0 : DH X.prog X.w H2 s.heap.objs.size [] := ⟨Nat.zero_le _, sys_new I, .inl e2, fun x hx => nomatch hx⟩
  refine ⟨[(k, c, v)], ⟨rfl, rfl, kk, trivial⟩, D0.dict I2, fun h' tk dd hs => wpAny_pure ?_⟩
  rw [keyed1] at dd
  exact ⟨.ref s.heap.objs.size, _, raw_write I2 e2 dd hs, rfl, q2 v rz⟩

/-! ### dict(a list of pairs) -/
theorem storeAll_nodup : ∀ (ps acc : Raw), ((acc ++ ps).map (·.1)).Nodup → storedAllH acc ps = acc ++ ps
  | [], acc, _ => by simp [storedAllH]
  | p :: ps, acc, h => by
    have e : storedH acc p.1 p.2.1 p.2.2 = acc ++ [p] := by
      unfold storedH
      have hn : atKey acc p.1 = none := by
        rw [List.map_append, List.nodup_append] at h
        obtain ⟨_, _, h3⟩ := h
        unfold atKey
        rw [Option.map_eq_none_iff, List.find?_eq_none]
        intro x hx hk
        simp only [decide_eq_true_eq] at hk
        exact h3 x.1 (List.mem_map.mpr ⟨x, hx, rfl⟩) p.1 (by simp) hk
      rw [hn]; rfl
    show storedAllH (storedH acc p.1 p.2.1 p.2.2) ps = _
    rw [e, storeAll_nodup ps (acc ++ [p]) (by simpa using h)]
    simp
theorem pairsK {pins : List (Addr × Obj)} {σ : St} {H : Hp} {s : Shared} (I : Inv X pins σ H s) : ∀ {ps : List Addr} {ks : List (NestedKey × Addr × V)}, Paired (fun p (k : NestedKey × Addr × V) => SqT X.K H p [.ref k.2.1, k.2.2] ∧ NkV H (.ref k.2.1) k.1) ps ks →
    ∃ xs : Raw, Paired (fun (k : NestedKey × Addr × V) (x : NestedKey × Addr × Value) => x.1 = k.1 ∧ x.2.1 = k.2.1 ∧ RelV k.2.2 x.2.2) ks xs ∧ xs.length = ps.length ∧ ∀ (j : Nat) (x : NestedKey × Addr × Value), xs[j]? = some x → ∃ c, ps[j]? = some c ∧ s.heap.IsTuple c #[.ref x.2.1, x.2.2] ∧ (nestedKind X.prog X.w).is s.heap x.1 x.2.1
  | _, _, .nil => ⟨[], .nil, rfl, fun j q e => by simp at e⟩
  | _, _, .cons (a := p) (b := k) h t => by
    obtain ⟨xs, r, hl, hp⟩ := pairsK I t
    obtain ⟨its, rv, ht, _⟩ := I.tuple h.1
    obtain ⟨u, y, ei, ru, ry⟩ := vals2 rv
    subst ei
    cases ru
    obtain ⟨c', ec, ec', kk⟩ := h.2.is I (u := .ref k.2.1) rfl
    cases ec
    refine ⟨(k.1, k.2.1, y) :: xs, .cons ⟨rfl, rfl, ry⟩ r, by rw [List.length_cons, List.length_cons, hl], fun j x e => ?_⟩
    cases j with
    | zero =>
      have e' : (k.1, k.2.1, y) = x := Option.some.inj e
      subst e'
      exact ⟨p, rfl, ht, kk⟩
    | succ j =>
      obtain ⟨c, e1, e2⟩ := hp j x (by simpa using e)
      exact ⟨c, by simpa using e1, e2⟩
theorem cr_dictK (hcalm : X.calm = true) (hu : X.A.units + 190 < cLine) : CallR X (.type "dict") (rDctK X.prog X.w X.K) := by
  intro pins s σ H xs us Q I r q
  obtain ⟨a, ps, ks, rfl, hq, hp, hnd, q⟩ := q
  obtain ⟨u, rfl, rx⟩ := r.one
  cases rx
  obtain ⟨its, rv, pl, hz⟩ := I.list hq
  have ei := refs_at rv
  subst ei
  rw [List.length_map] at hz
  obtain ⟨xs, rel, hl, hpr⟩ := pairsK I hp
  obtain ⟨o, n, ho, hc, hd, hdat⟩ := pl
  have hkeys : xs.map (·.1) = ks.map (·.1) := by
    clear q hpr hnd hl hp
    induction rel with
    | nil => rfl
    | cons r _ ih => rw [List.map_cons, List.map_cons, ih, r.1]
  have hz' : (xs.map fun x => (Value.ref x.2.1, x.2.2)).length = xs.length := List.length_map ..
  have P := PairArg.list (prog := X.prog) (w := X.w) a (ps.map Value.ref).toArray (fun j => ps.getD j 0) (xs.map fun x => (Value.ref x.2.1, x.2.2))
  refine call_dict_pairsH (knd := nestedKind X.prog X.w) (ps := xs) P (I.ok.hd hcalm) (show X.A.units + 1 + 1 + 8 < cLine by omega) ⟨⟨o, n, ho, hc, hd, hdat⟩, ?_, fun j k v e => ?_⟩ ⟨by rw [List.length_map], fun i key v e => ?_⟩ (fun h' hk x hx => ?_) (by rw [List.length_map, hl]; exact hz) fun h' tk dd hk => ?_
  · simp [hl]
  · rw [List.getElem?_map] at e
    obtain ⟨x, hx, ex⟩ := Option.map_eq_some_iff.mp e
    cases ex
    obtain ⟨c, e1, e2, _⟩ := hpr j x hx
    have e3 : ps.getD j 0 = c := by rw [List.getD_eq_getElem?_getD, e1]; rfl
    refine ⟨by simp [e1], ?_⟩
    show PairAt s.heap (ps.getD j 0) _ _
    rw [e3]
    exact .inl e2
  · rw [show PairRel (xs.map fun x => (Value.ref x.2.1, x.2.2)) i key v = ((xs.map fun x => (Value.ref x.2.1, x.2.2))[i]? = some (key, v)) from rfl, List.getElem?_map] at e
    obtain ⟨x, hx, ex⟩ := Option.map_eq_some_iff.mp e
    cases ex
    exact ⟨x.1, x.2.1, hx, rfl⟩
  · obtain ⟨j, hj⟩ := List.getElem?_of_mem hx
    obtain ⟨c, _, _, kk⟩ := hpr j x hj
    exact nestedKind_stays.stays (fun b o vs m e q => hk b o (Nat.ne_of_lt (Heap.lt_size e)) (fun z => nomatch z) e) kk
  · rw [storeAll_nodup xs [] (by rw [List.nil_append, hkeys]; exact hnd), List.nil_append] at dd
    exact ⟨.ref s.heap.objs.size, _, I.laid (t' := tk) (fun b o e => hk b o (fun z => nomatch z) e) (Nat.le_refl _) (rawD_ok dd), rfl, q _ xs (I.hok.fresh (Nat.le_refl _)) (sys_new I) rel⟩

/-! ### its keys -/
theorem Inv.frzX {pins : List (Addr × Obj)} {σ : St} {H : Hp} {s : Shared} {d : Addr} {o : Obj} {xs : Raw} (I : Inv X pins σ H s) (h : H d = some (.frz o (.ext (RawD X.prog X.w d xs)))) :
    s.heap.get? d = some o ∧ o.ExactDict ∧ ∃ (es : Array DictEntry) (ep : Nat), o.data = .dict es ep ∧ es.size = xs.length ∧ ∀ i : Nat, es[i]? = (xs[i]?).map (entryOfKey (nestedKind X.prog X.w)) := by
  obtain ⟨hd, ⟨o', es, ep, ho, hx, hdt, he, _⟩, _⟩ := I.hok d _ h
  rw [hd] at ho
  cases ho
  exact ⟨hd, hx, es, ep, hdt, size_of_entries he, fun i => entry_at he i⟩
def ItX (P : Program) (w : World) (d : Addr) (o : Obj) (xs : Raw) : It :=
  ⟨fun i H => H d = some (.frz o (.ext (RawD P w d xs))) ∧ i < xs.length, fun i H x H' => H' = H ∧ ∃ t, xs[i]? = some t ∧ x = .ref t.2.1, fun i H => H d = some (.frz o (.ext (RawD P w d xs))) ∧ xs.length ≤ i⟩
theorem turn_X {P : Program} {w : World} {K : PySem.W.Frag} {d : Addr} {o : Obj} {es : Array DictEntry} {ep : Nat} {xs : Raw} (it : Addr) (hod : o.data = .dict es ep) : Turn P w K tg (ItX P w d o xs) [it] it (fun i h => h.IsKeyIter it d i xs.length ep) where
  mem := by simp
  obj := fun i h st b hb => by
    have e : b = it := by simpa using hb
    subst e
    obtain ⟨oi, e, c, dd⟩ := st
    exact ⟨oi, e, fun v z => by rw [dd] at z; cases z⟩
  keep := fun i h h' st k => st.at fun oi e => k it (by simp) oi e
  item := by
    intro X hP hw hK hc i pins s σ H E I hf st hg
    subst hP hw hK
    obtain ⟨hd, hi⟩ := hg
    obtain ⟨f0, f1, f2, f3, f4, f5⟩ := hf it (by simp)
    obtain ⟨hgd, hx, es', ep', hdt, hsz, ent⟩ := Inv.frzX I hd
    obtain ⟨rfl, rfl⟩ := dict_ep hod hdt
    have ht : xs[i]? = some xs[i] := List.getElem?_eq_getElem hi
    have hen := ent i
    rw [ht] at hen
    refine next_key_item st hgd hdt hsz hen fun h' st' sb => ?_
    have I1 : Inv X pins σ H { s with heap := h' } := I.turned (t' := s.toks) (fun b ob hb e => (sb.2 b hb).trans e) f0 f1 f3 f4 f5
    obtain ⟨oi, e, c, dd⟩ := id st'
    exact ⟨_, rfl, go_of (s := { s with heap := h' }) e c dd (by decide) ⟨.ref xs[i].2.1, H, I1, rfl, ⟨rfl, _, ht, rfl⟩, st', fun b hb => (hf b hb).1⟩⟩
  done := by
    intro X hP hw hK hc i pins s σ H E I hf st hg
    subst hP hw hK
    obtain ⟨hd, hi⟩ := hg
    obtain ⟨f0, f1, f2, f3, f4, f5⟩ := hf it (by simp)
    obtain ⟨hgd, hx, es', ep', hdt, hsz, ent⟩ := Inv.frzX I hd
    obtain ⟨rfl, rfl⟩ := dict_ep hod hdt
    exact next_key_end (I.ok.hd hc) st hgd hdt hsz hi fun h' eb => ⟨rfl, I.turned (t' := s.toks) (fun b ob hb e => eb b ob hb e) f0 f1 f3 f4 f5⟩
  self := fun A i s Q E st h => wpAny_pyIter_keyiter st h
def iX (P : Program) (w : World) (td : TE) : TI := fun σ H R => td σ H fun x H1 => ∃ d o xs, x = .ref d ∧ (d == sysModules) = false ∧ H1 d = some (.frz o (.ext (RawD P w d xs))) ∧ R (ItX P w d o xs) H1
theorem pi_X (he : PE X e td) : PI X tg e (iX X.prog X.w td) := by
  refine ⟨fun pins s σ H R I h => ?_⟩
  refine thn (he.run pins s σ H _ I h) fun u s1 ⟨x, H1, I1, rx, d, o, xs, ex, hs, hd, q⟩ => ?_
  subst ex
  cases rx
  obtain ⟨hgd, hx, es, ep, hdt, hsz, ent⟩ := Inv.frzX I1 hd
  refine iter_keys hs hgd hx hdt (pi_one (tk := s1.toks) I1 _ (turn_X _ hdt) ⟨_, Heap.get?_push_size _ rfl, rfl, ?_⟩ q)
  rw [hsz] <;> rfl
end
end Ed
end
section
set_option maxHeartbeats 4000000
/-! R6: dicts at places: what they hold, entry by entry. -/
namespace Ed
open PySem L2
structure Ky {α : Type} (enc : α → PyData) : Prop where
  inj : ∀ a b, nk (enc a) = nk (enc b) → a = b
  dep : ∀ a, (nk (enc a)).depth ≤ 8
  tup : ∀ a, ∃ ds, enc a = .tuple ds
/-- an entry: the key, its tuple's place, the value, what it is -/
structure Ent (α : Type) where
  k : α
  a : Addr
  v : V
  d : PyData
def valok (dr : Option Addr) (H : Hp) (v : V) : PyData → Prop
  | .list ds => IsL dr H v ds
  | d => DT H v d
section
variable {α : Type} [DecidableEq α] {enc : α → PyData} {dr : Option Addr} {H H1 : Hp}
theorem valok_ext (e : Ext dr H H1) (j : Jd dr H) {v : V} {d : PyData} (h : valok dr H v d) : valok dr H1 v d := by
  cases d with
  | list ds => exact IsL.ext e j h
  | _ => exact DT.tx (e.tx j) h
theorem valok_chg {a : Addr} {o : HO} (n : ∀ xs, H a ≠ some (.tup xs)) {v : V} {d : PyData} (hv : v ≠ .ref a) (h : valok dr H v d) : valok dr (upd H a o) v d := by
  have t : Tx H (upd H a o) := Tx.upd n
  cases d with
  | list ds =>
    obtain ⟨p, xs, rfl, n', h1, h2⟩ := (show IsL dr H v ds from h)
    exact ⟨p, xs, rfl, n', by rw [upd_ne (fun z => hv (by rw [z]))]; exact h1, h2.tx t⟩
  | _ => exact DT.tx t h
theorem valok_fresh {a : Addr} (n : H a = none) {v : V} {d : PyData} (h : valok dr H v d) : v ≠ .ref a := by
  rintro rfl
  have f : ∀ {e : PyData}, ¬ DT H (.ref a) e := fun h => by
    cases h with
    | tup h _ => rw [n] at h; cases h
  cases d with
  | list ds =>
    obtain ⟨p, xs, e, _, h1, _⟩ := (show IsL dr H (.ref a) ds from h)
    cases e
    rw [n] at h1; cases h1
  | _ => exact f h
structure EntOk (enc : α → PyData) (dr : Option Addr) (H : Hp) (e : Ent α) : Prop where
  key : DT H (.ref e.a) (enc e.k)
  val : valok dr H e.v e.d
abbrev RelE (enc : α → PyData) : List (Ent α) → Raw → Prop := Paired fun e x => x.1 = nk (enc e.k) ∧ x.2.1 = e.a ∧ RelV e.v x.2.2
def getE (ts : List (Ent α)) (a : α) : Option (Ent α) := ts.find? fun e => decide (e.k = a)
def hasE (ts : List (Ent α)) (a : α) : Bool := ts.any fun e => decide (e.k = a)
def stE (ts : List (Ent α)) (e : Ent α) : List (Ent α) := if hasE ts e.k = true then ts.map (fun x => if x.k = e.k then { x with v := e.v, d := e.d } else x) else ts ++ [e]
def drE (ts : List (Ent α)) (a : α) : List (Ent α) := ts.filter fun e => decide (e.k ≠ a)
theorem hasE_get (ts : List (Ent α)) (a : α) : hasE ts a = (getE ts a).isSome := by
  unfold hasE getE
  induction ts with
  | nil => rfl
  | cons e r ih =>
    rw [List.any_cons, List.find?_cons]
    by_cases h : e.k = a
    · simp [h]
    · simp only [decide_eq_false h, Bool.false_or]; exact ih
theorem find_rel (ky : Ky enc) (a : α) : ∀ {ts : List (Ent α)} {xs : Raw}, RelE enc ts xs → (∀ e, getE ts a = some e → ∃ u, atKey xs (nk (enc a)) = some (e.a, u) ∧ RelV e.v u) ∧ (getE ts a = none → atKey xs (nk (enc a)) = none) := by
  intro ts xs r
  induction r with
  | nil => exact ⟨fun e h => by simp [getE] at h, fun _ => rfl⟩
  | @cons e x ts xs h t ih =>
    obtain ⟨h1, h2, h3⟩ := h
    by_cases he : e.k = a
    · have hx : x.1 = nk (enc a) := by rw [h1, he]
      refine ⟨fun e' h => ?_, fun h => ?_⟩
      · have : e' = e := by simp [getE, he] at h; exact h.symm
        subst this
        exact ⟨x.2.2, by simp [atKey, hx, ← h2], h3⟩
      · simp [getE, he] at h
    · have hx : ¬ x.1 = nk (enc a) := fun z => he (ky.inj _ _ (h1.symm.trans z))
      have e1 : getE (e :: ts) a = getE ts a := by simp [getE, he]
      have e2 : atKey (x :: xs) (nk (enc a)) = atKey xs (nk (enc a)) := by simp [atKey, hx]
      rw [e1, e2]; exact ih
theorem has_rel (ky : Ky enc) (a : α) {ts : List (Ent α)} {xs : Raw} (r : RelE enc ts xs) : (atKey xs (nk (enc a))).isSome = hasE ts a := by
  rw [hasE_get]
  obtain ⟨h1, h2⟩ := find_rel ky a r
  cases h : getE ts a with
  | none => rw [h2 h]; rfl
  | some e => obtain ⟨u, q, _⟩ := h1 e h; rw [q]; rfl
theorem st_rel (ky : Ky enc) (e : Ent α) {u : Value} (ru : RelV e.v u) {ts : List (Ent α)} {xs : Raw} (r : RelE enc ts xs) : RelE enc (stE ts e) (storedH xs (nk (enc e.k)) e.a u) := by
  unfold stE storedH
  rw [has_rel ky e.k r]
  by_cases h : hasE ts e.k = true
  · rw [if_pos h, if_pos h]
    clear h
    induction r with
    | nil => exact .nil
    | @cons c x ts xs h t ih =>
      rw [List.map_cons, List.map_cons]
      refine .cons ?_ ih
      obtain ⟨h1, h2, h3⟩ := h
      unfold putAt
      by_cases q : c.k = e.k
      · rw [if_pos q, if_pos (by rw [h1, q])]
        exact ⟨h1, h2, ru⟩
      · rw [if_neg q, if_neg (fun z => q (ky.inj _ _ (h1.symm.trans z)))]
        exact ⟨h1, h2, h3⟩
  · rw [if_neg h, if_neg h]
    exact Paired.snoc r ⟨rfl, rfl, ru⟩
theorem dr_rel (ky : Ky enc) (a : α) {ts : List (Ent α)} {xs : Raw} (r : RelE enc ts xs) : RelE enc (drE ts a) (withoutH xs (nk (enc a))) := by
  unfold drE withoutH
  induction r with
  | nil => exact .nil
  | @cons c x ts xs h t ih =>
    rw [List.filter_cons, List.filter_cons]
    obtain ⟨h1, h2, h3⟩ := h
    by_cases q : c.k = a
    · have q' : x.1 = nk (enc a) := by rw [h1, q]
      rw [if_neg (by simp [q]), if_neg (by simp [q'])]; exact ih
    · have q' : ¬ x.1 = nk (enc a) := fun z => q (ky.inj _ _ (h1.symm.trans z))
      rw [if_pos (by simp [q]), if_pos (by simp [q'])]
      exact .cons ⟨h1, h2, h3⟩ ih
theorem rel_len {ts : List (Ent α)} {xs : Raw} (r : RelE enc ts xs) : ts.length = xs.length := by
  induction r with
  | nil => rfl
  | cons _ _ ih => simp [ih]
theorem rel_mem {ts : List (Ent α)} {xs : Raw} (r : RelE enc ts xs) : ∀ x ∈ xs, ∃ e ∈ ts, x.1 = nk (enc e.k) ∧ x.2.1 = e.a := by
  induction r with
  | nil => intro x h; cases h
  | @cons c y ts xs h t ih =>
    intro x hx
    rcases List.mem_cons.mp hx with rfl | hx
    · exact ⟨c, List.mem_cons_self, h.1, h.2.1⟩
    · obtain ⟨e, h1, h2⟩ := ih x hx
      exact ⟨e, List.mem_cons_of_mem _ h1, h2⟩
theorem stE_len (ts : List (Ent α)) (e : Ent α) : (stE ts e).length ≤ ts.length + 1 := by
  unfold stE
  split
  · rw [List.length_map]; omega
  · simp
theorem nkv (ky : Ky enc) {v : V} {a : α} (h : DT H v (enc a)) : NkV H v (nk (enc a)) := by
  obtain ⟨ds, e⟩ := ky.tup a
  have h' := h
  rw [e] at h'
  cases h' with
  | tup h1 h2 => exact ⟨_, _, rfl, h, rfl, ky.dep a⟩
/-- the dict at p; b: it may be changed -/
structure KOk (P : Program) (w : World) (enc : α → PyData) (b : Bool) (ts : List (Ent α)) (dr : Option Addr) (H : Hp) (p : Addr) : Prop where
  len : ts.length ≤ 900000
  sys : (p == sysModules) = false
  raw : ∃ xs : Raw, (Rd H p (.ext (RawD P w p xs)) ∧ (b = true → H p = some (.ext (RawD P w p xs)))) ∧ RelE enc ts xs
  ent : ∀ e ∈ ts, EntOk enc dr H e
variable {P : Program} {w : World} {b : Bool} {ts : List (Ent α)} {p : Addr}
theorem KOk.dh (ky : Ky enc) (k : KOk P w enc b ts dr H p) : ∃ xs, DH P w H p xs ∧ (b = true → H p = some (.ext (RawD P w p xs))) ∧ RelE enc ts xs := by
  obtain ⟨xs, ⟨h1, h2⟩, r⟩ := k.raw
  refine ⟨xs, ⟨?_, k.sys, h1, fun x hx => ?_⟩, h2, r⟩
  · have := k.len
    have := rel_len r
    exact Nat.le_trans (by omega : xs.length ≤ 1000000) (by decide)
  · obtain ⟨e, he, e1, e2⟩ := rel_mem r x hx
    rw [e1, e2]
    exact nkv ky (k.ent e he).key
theorem KOk.some (k : KOk P w enc b ts dr H p) : ∃ o, H p = some o ∧ (∀ xs, o ≠ .tup xs) ∧ (∀ xs, o ≠ .lst xs) := by
  obtain ⟨xs, ⟨h1, _⟩, _⟩ := k.raw
  rcases h1 with h1 | ⟨o, h1⟩
  · exact ⟨_, h1, (fun _ z => nomatch z), (fun _ z => nomatch z)⟩
  · exact ⟨_, h1, (fun _ z => nomatch z), (fun _ z => nomatch z)⟩
theorem valok_not {a : Addr} {o : HO} (h : H a = some o) (ht : ∀ xs, o ≠ .tup xs) (hl : ∀ xs, o ≠ .lst xs) {v : V} {d : PyData} (hv : valok dr H v d) : v ≠ .ref a := by
  rintro rfl
  have f : ∀ {e : PyData}, ¬ DT H (.ref a) e := fun q => by
    cases q with
    | tup q _ => rw [h] at q; exact ht _ (Option.some.inj q)
  cases d with
  | list ds =>
    obtain ⟨p, xs, e, _, h1, _⟩ := (show IsL dr H (.ref a) ds from hv)
    cases e
    rw [h] at h1; exact hl _ (Option.some.inj h1)
  | _ => exact f hv
theorem EntOk.chg {a : Addr} {o : HO} (n : ∀ xs, H a ≠ some (.tup xs)) {e : Ent α} (hv : e.v ≠ .ref a) (h : EntOk enc dr H e) : EntOk enc dr (upd H a o) e := ⟨h.key.tx (Tx.upd n), valok_chg n hv h.val⟩
def kG (P : Program) (w : World) (enc : α → PyData) (b : Bool) (ts : List (Ent α)) : Gd where
  ok := fun dr H p => KOk P w enc b ts dr H p
  free := fun a => ∀ e ∈ ts, e.v ≠ .ref a
  lf := fun _ => True
  ext := fun {dr H H1 p} e j n k => by
    obtain ⟨xs, ⟨h1, h2⟩, r⟩ := k.raw
    refine ⟨k.len, k.sys, ⟨xs, ⟨?_, fun hb => e.rel _ _ n (h2 hb)⟩, r⟩, fun x hx => ⟨(k.ent x hx).key.tx (e.tx j), valok_ext e j (k.ent x hx).val⟩⟩
    rcases h1 with h1 | ⟨o, h1⟩
    · exact .inl (e.rel _ _ n h1)
    · exact .inr ⟨o, e.rel _ _ n h1⟩
  chg := fun {dr H p a o} f ne n k => by
    obtain ⟨xs, h1, r⟩ := k.raw
    refine ⟨k.len, k.sys, ⟨xs, ?_, r⟩, fun x hx => (k.ent x hx).chg n (f x hx)⟩
    unfold Rd at h1 ⊢
    rw [upd_ne (Ne.symm ne)]; exact h1
  lock := fun {dr H p d o φ} h _ ne k => by
    obtain ⟨xs, h1, r⟩ := k.raw
    have n : ∀ xs, H d ≠ Option.some (.tup xs) := fun xs z => by rw [h] at z; cases z
    refine ⟨k.len, k.sys, ⟨xs, ?_, r⟩, fun x hx => (k.ent x hx).chg n (valok_not h (fun _ z => nomatch z) (fun _ z => nomatch z) (k.ent x hx).val)⟩
    unfold Rd at h1 ⊢
    rw [upd_ne (Ne.symm ne)]; exact h1
  fresh := fun {dr H p a} k h => by
    obtain ⟨o, h1, _⟩ := k.some
    exact ⟨(fun z => by rw [z, h1] at h; cases h), fun x hx => valok_fresh h (k.ent x hx).val⟩
theorem st_ok (ky : Ky enc) (k : KOk P w enc b ts dr H p) {xs : Raw} (hx : H p = some (.ext (RawD P w p xs))) (r : RelE enc ts xs) (hl : ts.length < 900000) {e : Ent α} (he : EntOk enc dr H e) {u : Value} (ru : RelV e.v u) :
    KOk P w enc true (stE ts e) dr (upd H p (.ext (RawD P w p (storedH xs (nk (enc e.k)) e.a u)))) p := by
  have n : ∀ xs, H p ≠ Option.some (.tup xs) := fun xs z => by rw [hx] at z; cases z
  have c : ∀ {x : Ent α} {o : HO}, EntOk enc dr H x → EntOk enc dr (upd H p o) x := fun h => h.chg n (valok_not hx (fun _ z => nomatch z) (fun _ z => nomatch z) h.val)
  refine ⟨by have := stE_len ts e; omega, k.sys, ⟨_, ⟨.inl upd_same, fun _ => upd_same⟩, st_rel ky e ru r⟩, fun x hx => ?_⟩
  unfold stE at hx
  split at hx
  · obtain ⟨y, hy, rfl⟩ := List.mem_map.mp hx
    by_cases q : y.k = e.k
    · rw [if_pos q]; exact ⟨(c (k.ent y hy)).key, (c he).val⟩
    · rw [if_neg q]; exact c (k.ent y hy)
  · rcases List.mem_append.mp hx with hx | hx
    · exact c (k.ent x hx)
    · rw [List.mem_singleton.mp hx]; exact c he
theorem dr_ok (ky : Ky enc) (k : KOk P w enc b ts dr H p) {xs : Raw} (hx : H p = some (.ext (RawD P w p xs))) (r : RelE enc ts xs) (a : α) :
    KOk P w enc true (drE ts a) dr (upd H p (.ext (RawD P w p (withoutH xs (nk (enc a)))))) p := by
  have n : ∀ xs, H p ≠ Option.some (.tup xs) := fun xs z => by rw [hx] at z; cases z
  refine ⟨Nat.le_trans (List.length_filter_le _ _) k.len, k.sys, ⟨_, ⟨.inl upd_same, fun _ => upd_same⟩, dr_rel ky a r⟩, fun x hx' => ?_⟩
  have hm := (List.mem_filter.mp hx').1
  exact (k.ent x hm).chg n (valok_not hx (fun _ z => nomatch z) (fun _ z => nomatch z) (k.ent x hm).val)
/-- a dict as a value -/
def kvs (ts : List (Ent α)) : List (α × PyData) := ts.map fun e => (e.k, e.d)
def kV (P : Program) (w : World) (enc : α → PyData) (l : List (α × PyData)) : Gv where
  ok := fun dr H v => ∃ p ts, v = .ref p ∧ dr ≠ some p ∧ KOk P w enc true ts dr H p ∧ kvs ts = l
  ext := fun e j h => let ⟨p, ts, h1, h2, h3, h4⟩ := h; ⟨p, ts, h1, h2, (kG P w enc true ts).ext e j h2 h3, h4⟩
  st := false
  chg := fun h => nomatch h
end

/-! ### expressions -/
theorem slot_g {dr : Option Addr} {H : Hp} {σ : L2.St} {δ : List Sd} {i : Nat} {p : Addr} {gd : Gd} (s : Sl dr H σ δ) (hi : δ[i]? = some (.g p gd)) : σ[i]? = some (some (.ref p)) ∧ dr ≠ some p ∧ gd.ok dr H p := by
  obtain ⟨o, e1, e2, n, h⟩ := s i _ hi
  subst e2
  exact ⟨e1, n, h⟩
def EvQ (dr : Option Addr) (te : TE) (δ : List Sd) (q : Addr) (ds : List PyData) : Prop := ∀ (σ : L2.St) (H : Hp), Sl dr H σ δ → Jd dr H → ∀ Q : VK, (∀ H2, Ext dr H H2 → IsL dr H2 (.ref q) ds → Q (.ref q) H2) → te σ H Q
section
variable {α : Type} [DecidableEq α] {enc : α → PyData} {P : Program} {w : World} {K : PySem.W.Frag} {dr : Option Addr} {δ : List Sd} {ta tb te : TE} {b : Bool} {ts : List (Ent α)} {p : Addr} {i : Nat} {a : α} {ds : List PyData}
theorem EvQ.ev {q : Addr} (h : EvQ dr te δ q ds) : Ev dr te δ (.l ds) := fun σ H s j Q k => h σ H s j Q fun H2 e g => k _ H2 e g
theorem ev_inK (ky : Ky enc) (hi : δ[i]? = some (.g p (kG P w enc b ts))) (h : Ev dr ta δ (.d (enc a))) : Ev dr (tOp (rInK P w false) ta (tVar i)) δ (.d (.bool (hasE ts a))) := fun σ H s j Q q => h σ H s j _ fun v H1 e1 h1 => by
  obtain ⟨g1, n, g2⟩ := slot_g (s.ext e1 j) hi
  obtain ⟨xs, D, _, r⟩ := KOk.dh ky g2
  refine ⟨_, g1, p, nk (enc a), xs, rfl, nkv ky h1, D, ?_⟩
  rw [if_neg (by decide), has_rel ky a r]
  exact q _ H1 e1 (.bl _)
theorem ev_niK (ky : Ky enc) (hi : δ[i]? = some (.g p (kG P w enc b ts))) (h : Ev dr ta δ (.d (enc a))) : Ev dr (tOp (rInK P w true) ta (tVar i)) δ (.d (.bool (!hasE ts a))) := fun σ H s j Q q => h σ H s j _ fun v H1 e1 h1 => by
  obtain ⟨g1, n, g2⟩ := slot_g (s.ext e1 j) hi
  obtain ⟨xs, D, _, r⟩ := KOk.dh ky g2
  refine ⟨_, g1, p, nk (enc a), xs, rfl, nkv ky h1, D, ?_⟩
  rw [if_pos rfl, has_rel ky a r]
  exact q _ H1 e1 (.bl _)
theorem eq_ixK {e : Ent α} {q : Addr} (ky : Ky enc) (hi : δ[i]? = some (.g p (kG P w enc b ts))) (h : Ev dr tb δ (.d (enc a))) (hf : getE ts a = some e) (hd : e.d = .list ds) (hq : e.v = .ref q) : EvQ dr (tOp (rIxK P w) (tVar i) tb) δ q ds := fun σ H s j Q k => by
  obtain ⟨g1, n, g2⟩ := slot_g s hi
  refine ⟨_, g1, h σ H s j _ fun v H1 e1 h1 => ?_⟩
  have g3 : KOk P w enc b ts dr H1 p := (kG P w enc b ts).ext e1 j n g2
  obtain ⟨xs, D, _, r⟩ := KOk.dh ky g3
  obtain ⟨u, hu, ru⟩ := (find_rel ky a r).1 e hf
  refine ⟨p, nk (enc a), xs, _, e.v, rfl, nkv ky h1, D, hu, ru, ?_⟩
  rw [hq]
  refine k H1 e1 ?_
  have := (g3.ent e (List.mem_of_find?_eq_some hf)).val
  rw [hd, hq] at this
  exact this
theorem ev_ixK {e : Ent α} (ky : Ky enc) (hi : δ[i]? = some (.g p (kG P w enc b ts))) (h : Ev dr tb δ (.d (enc a))) (hf : getE ts a = some e) (hd : e.d = .list ds) : Ev dr (tOp (rIxK P w) (tVar i) tb) δ (.l ds) := fun σ H s j Q k => by
  obtain ⟨g1, n, g2⟩ := slot_g s hi
  have hv := (KOk.ent g2 e (List.mem_of_find?_eq_some hf)).val
  rw [hd] at hv
  obtain ⟨q, _, hq, _⟩ := (show IsL dr H e.v ds from hv)
  exact (eq_ixK ky hi h hf hd hq).ev σ H s j Q k
theorem ev_varG {l : List (α × PyData)} (hi : δ[i]? = some (.g p (kG P w enc true ts))) (hl : kvs ts = l) : Ev dr (tVar i) δ (.g (kV P w enc l)) := fun σ H s j Q q => by
  obtain ⟨g1, n, g2⟩ := slot_g s hi
  exact ⟨_, g1, q _ H (Ext.refl j) ⟨p, ts, rfl, n, g2, hl⟩⟩
end
end Ed
end
section
set_option maxHeartbeats 4000000
/-! R7: statements on dicts; while; a walk over a list that is not changed. -/
namespace Ed
open PySem L2
section
variable {α : Type} [DecidableEq α] {enc : α → PyData} {P : Program} {w : World} {K : PySem.W.Frag} {dr : Option Addr} {δ : List Sd} {ta tb te tl : TE} {tt : TT} {tu tz : TS} {B : Hp → Prop} {E : Ends} {b : Bool} {ts : List (Ent α)} {p : Addr} {i : Nat} {a : α} {ds : List PyData}
theorem Sl.chg {H : Hp} {σ : L2.St} {gd gd' : Gd} {o : HO} (h : Sl dr H σ δ) (hi : δ[i]? = some (.g p gd)) (n : ∀ xs, H p ≠ some (.tup xs)) (nf : ∀ o' u, H p ≠ some (.frz o' u)) (hk : mutAll p (δ.set i .x)) (ok : gd'.ok dr (upd H p o) p) : Sl dr (upd H p o) σ (δ.set i (.g p gd')) := fun k s q => by
  have t : Tx H (upd H p o) := Tx.upd n
  rcases set_get q with ⟨e1, e2, hl⟩ | ⟨hki, q⟩
  · subst e1 e2
    obtain ⟨o', e1, e2, n', _⟩ := h k _ hi
    exact ⟨o', e1, e2, n', ok⟩
  · obtain ⟨o', e1, h1⟩ := h k s q
    have ok : okm p s := mutAll_get hk (i := k) (by rw [List.getElem?_set_ne (Ne.symm hki)]; exact q)
    refine ⟨o', e1, ?_⟩
    cases s with
    | x => trivial
    | d e => obtain ⟨v, e2, h2⟩ := h1; exact ⟨v, e2, h2.tx t⟩
    | l q' es' => obtain ⟨e2, n, xs', h2, h3⟩ := h1; exact ⟨e2, n, xs', by rw [upd_ne ok]; exact h2, h3.tx t⟩
    | r q' => exact h1
    | v z =>
      cases z with
      | d e => obtain ⟨v, e2, h2⟩ := h1; exact ⟨v, e2, DT.tx t h2⟩
      | l _ => exact ok.elim
      | ll _ => exact ok.elim
      | g gv => obtain ⟨v, e2, h2⟩ := h1; exact ⟨v, e2, gv.chg ok n nf h2⟩
    | g q' g => obtain ⟨e2, n', h2⟩ := h1; exact ⟨e2, n', g.chg ok.2 (Ne.symm ok.1) n h2⟩
/-- d[a] = a new list -/
theorem w_setKN (ky : Ky enc) (hB : BOk dr B) (hi : δ[i]? = some (.g p (kG P w enc true ts))) (hm : Mu B p) (h : EvN dr te δ ds) (hx : Ev dr tb δ (.d (enc a))) (hl : ts.length < 900000) (hk : mutAll p (δ.set i .x))
    (k : ∀ ka q, dr ≠ some q → Mu B q → Fr q δ → W dr B E tz (δ.set i (.g p (kG P w enc true (stE ts ⟨a, ka, .ref q, .list ds⟩))))) : W dr B E (tSeq (tAsg te (gSub (tVar i) tb (rSetK P w))) tz) δ := fun σ H s j bb =>
  h σ H s j _ fun q qs H1 hq e1 g1 g2 => by
    have s1 := s.ext e1 j
    obtain ⟨f1, n, f2⟩ := slot_g s1 hi
    refine ⟨_, f1, ?_⟩
    refine hx σ H1 s1 e1.jd _ fun u H2 e2 h2 => ?_
    have f3 : KOk P w enc true ts dr H2 p := (kG P w enc true ts).ext e2 e1.jd n f2
    obtain ⟨xs, D, hp, r⟩ := KOk.dh ky f3
    have hp := hp rfl
    have nn : ∀ xs, H2 p ≠ some (.tup xs) := fun xs z => by rw [hp] at z; cases z
    have nf : ∀ o' u, H2 p ≠ some (.frz o' u) := fun o' u z => by rw [hp] at z; cases z
    have nq := j.ne hq
    obtain ⟨ka, ee, rfl, h3, h4, h5⟩ := nkv ky h2
    refine ⟨p, nk (enc a), ka, xs, rfl, rfl, ⟨ka, ee, rfl, h3, h4, h5⟩, D, hp, ?_, fun uu ru => ?_⟩
    · rw [← rel_len r]; exact small.lt (by omega)
    have ok := st_ok ky f3 hp r hl (e := ⟨a, ka, .ref q, .list ds⟩) ⟨h2, (⟨q, qs, rfl, nq, e2.rel _ _ nq g1, g2.tx (e2.tx e1.jd)⟩ : IsL dr H2 (.ref q) ds)⟩ ru
    exact k ka q nq (fun H' o n b' => hB.mu bb j hq H' o n b') (fr_of hq s) σ _ (Sl.chg (s1.ext e2 e1.jd) hi nn nf hk ok) (e2.jd.upd n) (hm H2 _ nn (hB.ext bb j (e1.trans e2)))
/-- d.pop(a) -/
theorem w_popK (ky : Ky enc) (hB : BOk dr B) (hi : δ[i]? = some (.g p (kG P w enc true ts))) (hm : Mu B p) (hx : Ev dr tb δ (.d (enc a))) (hf : hasE ts a = true) (hk : mutAll p (δ.set i .x))
    (k : W dr B E tz (δ.set i (.g p (kG P w enc true (drE ts a))))) : W dr B E (tSeq (tDrop (tBMK P w (rPopK P w) (tVar i) (tCons tb tNil))) tz) δ := fun σ H s j bb => by
  obtain ⟨f1, n, f2⟩ := slot_g s hi
  obtain ⟨xs0, D0, _⟩ := KOk.dh ky f2
  refine ⟨_, f1, ⟨p, xs0, rfl, D0⟩, ?_⟩
  refine hx σ H s j _ fun u H2 e2 h2 => ?_
  have f3 : KOk P w enc true ts dr H2 p := (kG P w enc true ts).ext e2 j n f2
  obtain ⟨xs, D, hp, r⟩ := KOk.dh ky f3
  have hp := hp rfl
  have nn : ∀ xs, H2 p ≠ some (.tup xs) := fun xs z => by rw [hp] at z; cases z
  have nf : ∀ o' u, H2 p ≠ some (.frz o' u) := fun o' u z => by rw [hp] at z; cases z
  rw [hasE_get] at hf
  obtain ⟨e, he⟩ := Option.isSome_iff_exists.mp hf
  obtain ⟨uu, hu, ru⟩ := (find_rel ky a r).1 e he
  refine ⟨p, nk (enc a), xs, u, _, e.v, rfl, rfl, nkv ky h2, D, hp, hu, ru, ?_⟩
  exact k σ _ (Sl.chg (s.ext e2 j) hi nn nf hk (dr_ok ky f3 hp r a)) (e2.jd.upd n) (hm H2 _ nn (hB.ext bb j e2))
/-- x = {} -/
theorem w_newK (hB : BOk dr B) (k : ∀ p, dr ≠ some p → Mu B p → Fr p δ → W dr B E tz (δ.set i (.g p (kG P w enc true [])))) : W dr B E (tSeq (tAsg (tNewK P w) (gName i)) tz) δ := fun σ H s j bb p hp hs => by
  have e1 : Ext dr H (upd H p (.ext (RawD P w p []))) := Ext.new j hp
  exact k p (j.ne hp) (fun H' o n b' => hB.mu bb j hp H' o n b') (fr_of hp s) _ _ ((s.ext e1 j).set ⟨rfl, j.ne hp, (⟨Nat.zero_le _, hs, ⟨[], ⟨.inl upd_same, fun _ => upd_same⟩, .nil⟩, fun e he => nomatch he⟩ : KOk P w enc true [] dr _ p)⟩) e1.jd (hB.ext bb j e1)
/-- x = {a: a new list} -/
theorem w_oneK (ky : Ky enc) (hB : BOk dr B) (ha : Ev dr ta δ (.d (enc a))) (hn : EvN dr te δ ds) (k : ∀ p ka q, dr ≠ some p → dr ≠ some q → Mu B p → Fr p δ → W dr B E tz (δ.set i (.g p (kG P w enc true [⟨a, ka, .ref q, .list ds⟩])))) : W dr B E (tSeq (tAsg (tOneK P w ta te) (gName i)) tz) δ := fun σ H s j bb p hp hs => by
  have np := j.ne hp
  have e0 : Ext dr H (upd H p (.ext (RawD P w p []))) := Ext.new j hp
  refine ha σ _ (s.ext e0 j) e0.jd _ fun u H1 e1 h1 => ?_
  refine hn σ H1 (s.ext (e0.trans e1) j) e1.jd _ fun q qs H2 hq e2 g1 g2 => ?_
  have hp2 : H2 p = some (.ext (RawD P w p [])) := e2.rel _ _ np (e1.rel _ _ np upd_same)
  have nn : ∀ xs, H2 p ≠ some (.tup xs) := fun xs z => by rw [hp2] at z; cases z
  have h1' : DT H2 u (enc a) := DT.tx (e2.tx e1.jd) h1
  have nq : dr ≠ some q := e1.jd.ne hq
  obtain ⟨ka, ee, rfl, h3, h4, h5⟩ := nkv ky h1'
  refine ⟨hp2, nk (enc a), ka, rfl, ⟨ka, ee, rfl, h3, h4, h5⟩, fun uu ru => ?_⟩
  have e02 := (e0.trans e1).trans e2
  have hb2 := hB.ext bb j e02
  have mu : Mu B p := fun H' o n b' => hB.mu bb j hp H' o n b'
  have c : EntOk enc dr (upd H2 p (.ext (RawD P w p [(nk (enc a), ka, uu)]))) ⟨a, ka, .ref q, .list ds⟩ :=
    EntOk.chg nn (fun z => by cases z; rw [hp2] at g1; cases g1) ⟨h1', (⟨q, qs, rfl, nq, g1, g2⟩ : IsL dr H2 (.ref q) ds)⟩
  have ok : KOk P w enc true [⟨a, ka, .ref q, .list ds⟩] dr (upd H2 p (.ext (RawD P w p [(nk (enc a), ka, uu)]))) p :=
    ⟨by simp, hs, ⟨_, ⟨.inl upd_same, fun _ => upd_same⟩, .cons ⟨rfl, rfl, ru⟩ .nil⟩, fun e he => by rw [List.mem_singleton.mp he]; exact c⟩
  have e3 : Ext dr H (upd H2 p (.ext (RawD P w p [(nk (enc a), ka, uu)]))) := ⟨e02.rel.mut hp, e02.jd.upd np⟩
  exact k p ka q np nq mu (fr_of hp s) _ _ ((s.ext e3 j).set ⟨rfl, np, ok⟩) e3.jd (mu H2 _ nn hb2)
/-- x = dict([(a, True), ..]) -/
theorem dctL {H : Hp} : ∀ {ws : List V} {ks : List α}, Ky enc → DTs H ws (ks.map fun a => .tuple [enc a, .bool true]) → ∃ (ps : List Addr) (es : List (Ent α)), ws = ps.map V.ref ∧ es.map (·.k) = ks ∧ (∀ e ∈ es, e.v = .bl true ∧ e.d = .bool true ∧ DT H (.ref e.a) (enc e.k)) ∧
    Paired (fun p (k : NestedKey × Addr × V) => SqT K H p [.ref k.2.1, k.2.2] ∧ NkV H (.ref k.2.1) k.1) ps (es.map fun e => (nk (enc e.k), e.a, e.v))
  | _, [], _, .nil => ⟨[], [], rfl, rfl, (fun e h => nomatch h), .nil⟩
  | _, a :: ks, ky, .cons h hs => by
    obtain ⟨ps, es, rfl, e2, h3, h4⟩ := dctL ky hs
    cases h with
    | @tup c xs _ h1 h2 =>
      cases h2 with
      | @cons v1 vs1 _ _ hk h2 =>
        cases h2 with
        | @cons v2 vs2 _ _ hv h2 =>
          cases h2
          cases hv
          have nn := nkv ky hk
          obtain ⟨ka, ee, rfl, _⟩ := id nn
          refine ⟨c :: ps, ⟨a, ka, .bl true, .bool true⟩ :: es, rfl, by rw [List.map_cons, e2], fun e he => ?_, .cons ⟨SqT.of h1, nn⟩ h4⟩
          rcases List.mem_cons.mp he with rfl | he
          · exact ⟨rfl, rfl, hk⟩
          · exact h3 e he
theorem rel_of : ∀ {es : List (Ent α)} {xs : Raw}, Paired (fun (k : NestedKey × Addr × V) (x : NestedKey × Addr × Value) => x.1 = k.1 ∧ x.2.1 = k.2.1 ∧ RelV k.2.2 x.2.2) (es.map fun e => (nk (enc e.k), e.a, e.v)) xs → RelE enc es xs
  | [], _, h => by rw [List.map_nil] at h; cases h; exact .nil
  | e :: es, _, h => by
    rw [List.map_cons] at h
    cases h with
    | cons h t => exact .cons h (rel_of t)
theorem w_dctK {ks : List α} (ky : Ky enc) (hB : BOk dr B) (h : Ev dr te δ (.l (ks.map fun a => .tuple [enc a, .bool true]))) (hnd : ks.Nodup) (hl : ks.length ≤ 900000)
    (k : ∀ p ts, dr ≠ some p → ts.map (fun e : Ent α => e.k) = ks → (∀ e ∈ ts, e.v = .bl true ∧ e.d = .bool true) → Mu B p → Fr p δ → W dr B E tz (δ.set i (.g p (kG P w enc true ts)))) : W dr B E (tSeq (tAsg (tCB (rDctK P w K) (tCons te tNil)) (gName i)) tz) δ := fun σ H s j bb =>
  h σ H s j _ fun v H1 e1 h1 => by
    obtain ⟨l, ws, rfl, n, g1, g2⟩ := h1
    obtain ⟨ps, es, rfl, e2, h3, h4⟩ := dctL (K := K) ky g2
    refine ⟨l, ps, es.map fun e => (nk (enc e.k), e.a, e.v), rfl, SqL.of g1, h4, ?_, fun p xs hp hs r => ?_⟩
    · rw [List.map_map]
      have : (List.map ((fun x : NestedKey × Addr × V => x.1) ∘ fun e : Ent α => (nk (enc e.k), e.a, e.v)) es) = ks.map fun a => nk (enc a) := by
        rw [← e2, List.map_map]; rfl
      rw [this]
      rw [List.nodup_iff_pairwise_ne, List.pairwise_map]
      exact (List.nodup_iff_pairwise_ne.mp hnd).imp fun hne z => hne (ky.inj _ _ z)
    · have e3 : Ext dr H1 (upd H1 p (.ext (RawD P w p xs))) := Ext.new e1.jd hp
      have np := e1.jd.ne hp
      have hp0 : H p = none := e1.back j hp
      have len : es.length ≤ 900000 := by rw [← e2, List.length_map] at hl; exact hl
      have ok : KOk P w enc true es dr (upd H1 p (.ext (RawD P w p xs))) p := ⟨len, hs, ⟨xs, ⟨.inl upd_same, fun _ => upd_same⟩, rel_of r⟩, fun e he => ⟨(h3 e he).2.2.tx (e3.tx e1.jd), by rw [(h3 e he).1, (h3 e he).2.1]; exact .bl true⟩⟩
      exact k p es np e2 (fun e he => ⟨(h3 e he).1, (h3 e he).2.1⟩) (fun H' o n b' => hB.mu bb j hp0 H' o n b') (fr_of hp0 s) _ _ ((s.ext (e1.trans e3) j).set ⟨rfl, np, ok⟩) e3.jd (hB.ext bb j (e1.trans e3))
/-- a dict at some place -/
theorem w_openK {l : List (α × PyData)} (h : δ[i]? = some (.v (.g (kV P w enc l)))) (k : ∀ p ts, dr ≠ some p → kvs ts = l → W dr B E tz (δ.set i (.g p (kG P w enc true ts)))) : W dr B E tz δ := fun σ H s j bb => by
  obtain ⟨o, e1, v, e2, p, ts, rfl, n, h1, h2⟩ := s i _ h
  subst e2
  refine k p ts n h2 σ H (fun l t q => ?_) j bb
  rcases set_get q with ⟨e3, e4, hl⟩ | ⟨hki, q⟩
  · subst e3 e4
    exact ⟨_, e1, rfl, n, h1⟩
  · exact s l t q
/-- the list that stands as a value -/
theorem w_entQ {e : Ent α} (hi : δ[i]? = some (.g p (kG P w enc b ts))) (he : e ∈ ts) (hd : e.d = .list ds) (k : ∀ q, e.v = .ref q → q ≠ p → W dr B E tz δ) : W dr B E tz δ := fun σ H s j bb => by
  obtain ⟨g1, n, g2⟩ := slot_g s hi
  have hv := (KOk.ent g2 e he).val
  rw [hd] at hv
  obtain ⟨q, xs, hq, _, h1, _⟩ := (show IsL dr H e.v ds from hv)
  obtain ⟨o, ho, _, hl⟩ := KOk.some g2
  refine k q hq (fun z => ?_) σ H s j bb
  rw [z, ho] at h1
  exact hl _ (Option.some.inj h1)
/-- a walk over the list at q, which nothing changes meanwhile -/
theorem w_forQ {β : Type} {j : Nat} {q : Addr} (xs : List β) (en : β → PyData) (I : Nat → List Sd → Prop) (hB : BOk dr B) (hl : EvQ dr tl δ q (xs.map en)) (h0 : I 0 δ)
    (hs : ∀ B', BOk dr B' → (∀ H, B' H → B H) → (∀ p, p ≠ q → Mu B p → Mu B' p) → ∀ i a δ', xs[i]? = some a → I i δ' → W dr B' { E with nx := NI dr B' (I (i + 1)), ct := NI dr B' (I (i + 1)), bk := tz E } tu (δ'.set j (.d (en a))))
    (hd : ∀ δ', I xs.length δ' → W dr B E tz δ') : W dr B E (tSeq (tFor (iList K tl) (gName j) tu) tz) δ := fun σ H s jd bb =>
  hl σ H s jd _ fun H1 e1 h1 => by
    obtain ⟨a, ws, ea, n, g1, g2⟩ := h1
    cases ea
    have hlen : ws.length = xs.length := by rw [g2.length, List.length_map]
    refine ⟨q, rfl, ⟨ws, SqL.of g1⟩, ?_⟩
    have hB' : BOk dr (fun H => B H ∧ H q = some (.lst ws) ∧ Tx H1 H) := {
      ext := fun b j e => ⟨hB.ext b.1 j e, e.rel _ _ n b.2.1, b.2.2.trans (e.tx j)⟩
      mu := fun b j hp H' o nn b' => ⟨hB.mu b.1 j hp H' o nn b'.1, by rw [upd_ne (ne_of_none b.2.1 hp)]; exact b'.2.1, b'.2.2.trans (Tx.upd nn)⟩ }
    refine for_list (xs := ws) (D := { E with nx := tz E }) (fun i σ' H' => NI dr (fun H => B H ∧ H q = some (.lst ws) ∧ Tx H1 H) (I i) σ' H') ⟨δ, h0, s.ext e1 jd, e1.jd, hB.ext bb jd e1, g1, Tx.refl _⟩ (fun i σ' H' _ p => ?_) (fun i x σ' H' hi p => ?_) (fun σ' H' p => ?_)
    · obtain ⟨δ', _, _, _, _, g, _⟩ := p
      exact SqL.of g
    · obtain ⟨δ', hI, s', j', b', g, t⟩ := p
      obtain ⟨d', hd', hx⟩ := g2.getV hi
      rw [List.getElem?_map] at hd'
      obtain ⟨a', ha', rfl⟩ := Option.map_eq_some_iff.mp hd'
      exact hs _ hB' (fun H q => q.1) (fun p np m H' o nn b => ⟨m H' o nn b.1, by rw [upd_ne (Ne.symm np)]; exact b.2.1, b.2.2.trans (Tx.upd nn)⟩) i a' δ' ha' hI _ H' (s'.set ⟨x, rfl, hx.tx t⟩) j' ⟨b', g, t⟩
    · obtain ⟨δ', hI, s', j', b', _⟩ := p
      rw [hlen] at hI
      exact hd δ' hI σ' H' s' j' b'
/-- while: by a measure -/
theorem w_while {m0 : Nat} (I : Nat → List Sd → Prop) (h0 : I m0 δ)
    (hs : ∀ m δ', I m δ' → ∃ b, EvT dr tt δ' b ∧ (b = true → W dr B { E with nx := NI dr B (fun δ => ∃ m', m' < m ∧ I m' δ), ct := NI dr B (fun δ => ∃ m', m' < m ∧ I m' δ), bk := tz E } tu δ') ∧ (b = false → W dr B E tz δ')) (hB : BOk dr B) : W dr B E (tSeq (tWhile tt tu) tz) δ := fun σ H s jd bb => by
  refine ⟨fun m σ H => NI dr B (I m) σ H, ⟨m0, δ, h0, s, jd, bb⟩, ?_⟩
  rintro m σ' H' ⟨δ', hI, s', j', b'⟩
  obtain ⟨b, h1, h2, h3⟩ := hs m δ' hI
  refine h1 σ' H' s' j' _ fun H1 e1 => ?_
  have s1 := s'.ext e1 j'
  have b1 := hB.ext b' j' e1
  cases b with
  | false =>
    rw [if_neg (by decide)]
    exact h3 rfl σ' H1 s1 e1.jd b1
  | true =>
    rw [if_pos rfl]
    refine ⟨NI dr B (fun δ => ∃ m', m' < m ∧ I m' δ), fun σ2 H2 q => ?_, h2 rfl σ' H1 s1 e1.jd b1⟩
    obtain ⟨δ2, ⟨m', hm, hI'⟩, r⟩ := q
    exact ⟨m', hm, δ2, hI', r⟩
/-! ### comprehensions over a dict -/
def okl (p : Addr) : Sd → Prop
  | .v (.g _) => False
  | .v (.ll _) => False
  | .g q g => q ≠ p ∧ g.lf p
  | _ => True
def lockAll (p : Addr) : List Sd → Prop
  | [] => True
  | s :: r => okl p s ∧ lockAll p r
theorem lockAll_get {p : Addr} : ∀ {δ : List Sd} {i : Nat} {s : Sd}, lockAll p δ → δ[i]? = some s → okl p s
  | [], _, _, _, e => by simp at e
  | _ :: _, 0, _, h, e => by simp at e; subst e; exact h.1
  | _ :: _, i + 1, s, h, e => lockAll_get (i := i) h.2 (by simpa using e)
theorem Sl.lock {H : Hp} {σ : L2.St} {od : Obj} {φ : Heap → Prop} (h : Sl dr H σ δ) (hi : δ[i]? = some (.g p (kG P w enc true ts))) (hp : H p = some (.ext φ)) (hk : lockAll p (δ.set i .x)) : Sl dr (upd H p (.frz od (.ext φ))) σ (δ.set i (.g p (kG P w enc false ts))) := fun k s q => by
  have n : ∀ xs, H p ≠ some (.tup xs) := fun xs z => by rw [hp] at z; cases z
  have t : Tx H (upd H p (.frz od (.ext φ))) := Tx.upd n
  rcases set_get q with ⟨e1, e2, hl⟩ | ⟨hki, q⟩
  · subst e1 e2
    obtain ⟨o', e1, e2, n', g⟩ := h k _ hi
    obtain ⟨xs, ⟨_, h1⟩, r⟩ := KOk.raw g
    have h1 := h1 rfl
    rw [hp] at h1
    refine ⟨o', e1, e2, n', (⟨KOk.len g, KOk.sys g, ⟨xs, ⟨.inr ⟨od, by rw [upd_same]; cases h1; rfl⟩, fun z => nomatch z⟩, r⟩, fun x hx => (KOk.ent g x hx).chg n (valok_not hp (fun _ z => nomatch z) (fun _ z => nomatch z) (KOk.ent g x hx).val)⟩ : KOk P w enc false ts dr _ p)⟩
  · obtain ⟨o', e1, h1⟩ := h k s q
    have ok : okl p s := lockAll_get hk (i := k) (by rw [List.getElem?_set_ne (Ne.symm hki)]; exact q)
    refine ⟨o', e1, ?_⟩
    have nl : ∀ {q' : Addr} {xs : List V}, H q' = some (.lst xs) → q' ≠ p := fun e z => by rw [z, hp] at e; cases e
    cases s with
    | x => trivial
    | d e => obtain ⟨v, e2, h2⟩ := h1; exact ⟨v, e2, h2.tx t⟩
    | l q' es' => obtain ⟨e2, n, xs', h2, h3⟩ := h1; exact ⟨e2, n, xs', by rw [upd_ne (nl h2)]; exact h2, h3.tx t⟩
    | r q' => exact h1
    | v z =>
      cases z with
      | d e => obtain ⟨v, e2, h2⟩ := h1; exact ⟨v, e2, DT.tx t h2⟩
      | l es => obtain ⟨v, e2, q', xs', e3, n', h2, h3⟩ := h1; exact ⟨v, e2, q', xs', e3, n', by rw [upd_ne (nl h2)]; exact h2, h3.tx t⟩
      | ll _ => exact ok.elim
      | g _ => exact ok.elim
    | g q' g => obtain ⟨e2, n', h2⟩ := h1; exact ⟨e2, n', g.lock hp ok.2 (Ne.symm ok.1) h2⟩
theorem en_lcX {k j : Nat} {vs : List Nat} (f : α → Bool) (g : α → PyData) (hk : δ[k]? = some (.g p (kG P w enc true ts))) (hj : j ∈ vs) (hlk : lockAll p (δ.set k .x))
    (ht : ∀ e, e ∈ ts → EvT dr tt ((wipeD (δ.set k (.g p (kG P w enc false ts))) vs).set j (.d (enc e.k))) (f e.k)) (he : ∀ e, e ∈ ts → f e.k = true → Ev dr te ((wipeD (δ.set k (.g p (kG P w enc false ts))) vs).set j (.d (enc e.k))) (.d (g e.k))) :
    EvN dr (tLockE (tLc (iX P w (tVar k)) (gName j) tt te vs)) δ (((ts.map (·.k)).filter f).map g) := fun σ H s jd Q q => by
  obtain ⟨g1, n, g2⟩ := slot_g s hk
  obtain ⟨xs, ⟨_, hp⟩, r⟩ := KOk.raw g2
  have hp := hp rfl
  have hlen := rel_len r
  refine ⟨p, _, hp, trivial, fun od => ?_⟩
  generalize hHL : upd H p (.frz od (.ext (RawD P w p xs))) = HL
  have hL : HL p = some (.frz od (.ext (RawD P w p xs))) := by rw [← hHL]; exact upd_same
  have jl : Jd dr HL := by rw [← hHL]; exact jd.upd n
  have nn : ∀ xs, H p ≠ some (.tup xs) := fun xs z => by rw [hp] at z; cases z
  have tl : Tx H HL := by rw [← hHL]; exact Tx.upd nn
  have sl : Sl dr HL σ (δ.set k (.g p (kG P w enc false ts))) := by rw [← hHL]; exact Sl.lock s hk hp hlk
  refine ⟨.ref p, g1, p, od, xs, rfl, KOk.sys g2, hL, fun D hD => ?_⟩
  have hDp : D ≠ p := fun z => by rw [z, hL] at hD; cases hD
  have hD0 : H D = none := by rw [← hHL, upd_ne hDp] at hD; exact hD
  refine ⟨fun i m H' => m = xs.length - i ∧ i ≤ xs.length ∧ Ext dr HL H' ∧ ∃ acc, H' D = some (.lst acc) ∧ DTs H' acc ((((ts.map (·.k)).take i).filter f).map g), ⟨xs.length, by simp, Nat.zero_le _, Ext.new jl hD, [], upd_same, by simp; exact .nil⟩, ?_⟩
  rintro i m H' ⟨rfl, hi, e, acc, hacc, hds⟩
  by_cases hlt : i < xs.length
  · refine .inr ⟨⟨e.rel _ _ n hL, hlt⟩, fun H' => Ext dr HL H' ∧ ∃ acc, H' D = some (.lst acc) ∧ DTs H' acc ((((ts.map (·.k)).take (i + 1)).filter f).map g), fun H' q => ⟨xs.length - (i + 1), by omega, rfl, hlt, q⟩, fun x H2 y => ?_⟩
    obtain ⟨rfl, t, ht', rfl⟩ := y
    have hti : i < ts.length := by omega
    have he' : ts[i]? = some ts[i] := List.getElem?_eq_getElem hti
    obtain ⟨t2, ht2, e1, e2, _⟩ := paired_get r he'
    rw [ht'] at ht2
    cases ht2
    have hm : ts[i] ∈ ts := List.getElem_mem hti
    refine ⟨wipe_set hj _, ?_⟩
    have hS : Sl dr H2 ((wipe σ vs).set j (some (.ref t.2.1))) ((wipeD (δ.set k (.g p (kG P w enc false ts))) vs).set j (.d (enc ts[i].k))) := Sl.set ((sl.ext e jl).wipe) ⟨_, rfl, by rw [e2]; exact ((KOk.ent g2 _ hm).key.tx tl).tx (e.tx jl)⟩
    have hki : (ts.map (·.k))[i]? = some ts[i].k := by rw [List.getElem?_map, he']; rfl
    refine lc_step hD jl e hacc hds (Nat.lt_of_le_of_lt fm_len (by rw [List.length_map]; have := KOk.len g2; omega)) hS (ht _ hm) (he _ hm) fun H'' acc' e'' h1 h2 => ⟨e'', acc', h1, ?_⟩
    rw [fm_succ hki]
    exact h2
  · have ei : i = xs.length := by omega
    subst ei
    have hp' := e.rel _ _ n hL
    refine .inl ⟨⟨hp', Nat.le_refl _⟩, hp', ?_⟩
    have nn' : ∀ xs, H' p ≠ some (.tup xs) := fun xs z => by rw [hp'] at z; cases z
    refine q D acc _ hD0 ⟨fun a o na ho => ?_, e.jd.upd n⟩ (by rw [upd_ne hDp]; exact hacc) ?_
    · by_cases hap : a = p
      · rw [hap] at ho ⊢
        rw [hp] at ho
        rw [upd_same]; exact ho
      · rw [upd_ne hap]
        refine e.rel _ _ na ?_
        rw [← hHL, upd_ne hap]; exact ho
    · rw [List.take_of_length_le (by rw [List.length_map]; omega)] at hds
      exact hds.tx (Tx.upd nn')
end
end Ed
end
section
set_option maxHeartbeats 4000000
/-! R8: sorted of rows of rows, the empty row first or nowhere. -/
namespace PySem.SeqAt
open PySem PyProof.Rows
variable {A : Around} {s : Shared}
theorem call_tuple_lt {prog : Program} {w : World} {E : Value → Shared → Prop} {Q : Value → Shared → Prop} {l b : Addr} {items items2 : Array Value} {e r : Nat → Bool} (hl : s.heap.IsTuple l items) (hb : s.heap.IsTuple b items2)
    (he : ∀ j (h1 : j < items.size) (h2 : j < items2.size), EqAt A.in1 s items[j] items2[j] (e j)) (hr : ∀ j (h1 : j < items.size) (h2 : j < items2.size), e j = false → RcLt A.in1 s items[j] items2[j] (r j))
    (h : Q (.bool (firstLt e r (decide (items.size < items2.size)) (List.range (min items.size items2.size)))) s) : wpAny (model prog w) A (call (.builtin "tuple.__lt__") [.ref l, .ref b]) Q E s := by
  obtain ⟨⟨cls, dd, data, sl⟩, ho, hc, n, hd⟩ := id hl
  obtain ⟨⟨cls2, dd2, data2, sl2⟩, ho2, hc2, n2, hd2⟩ := id hb
  simp only at hc hd hc2 hd2
  subst hc hd hc2 hd2
  exact call_meets F.slot_tuple_lt ⟨_, ho, rfl⟩ F.entry_tuple_lt (F.args_tuple_lt_2 _ _) (tuple_ltAt l b items items2 n n2 dd dd2 sl sl2 e r) ⟨ho, ho2, he, hr, h⟩
end PySem.SeqAt
namespace PySem.W
open PySem PySem.Calls PyProof.Rows PySem.SeqAt
section
variable {prog : Program} {w : World} {A : Around} {E : Value → Shared → Prop} {s : Shared}
theorem oneLt_tuples {xs ys : List PyData} {a b : Value} {as bs : List Addr} {Q : Bool → Shared → Prop} (ra : Reads s.heap a (.tuple xs) as) (rb : Reads s.heap b (.tuple ys) bs) (h : alike (.tuple xs) (.tuple ys) = true)
    (hu : A.units + min (PyData.depth (.tuple xs)) (PyData.depth (.tuple ys)) < cLine) (hq : Q (dataLt (.tuple xs) (.tuple ys)) s) : wpAny (model prog w) A (oneLt' true a b) Q E s := by
  have hal : alikeAll xs ys = true := by simpa [alike] using h
  cases ra with
  | @tuple l o vs n _ as₁ h1 h2 h3 h4 =>
    cases rb with
    | @tuple l' o' vs' n' _ bs₁ k1 k2 k3 k4 =>
      have n1 : vs.size = xs.length := by simpa using ReadsAll.length _ _ _ h4
      have n2 : vs'.size = ys.length := by simpa using ReadsAll.length _ _ _ k4
      rw [dataLt_tuple, ← firstLt_toks xs ys hal, ← n1, ← n2] at hq
      rw [oneLt'_eq]
      simp only [if_true]
      refine wpAny_bind (wpAny_cRoomFor (room_here hu) ?_)
      refine wpAny_bind (wpAny_callSpecialIfBound?_slot (T := "tuple") ⟨_, h1, h2⟩ F.slot_tuple_lt (call_tuple_lt (e := pairEq xs ys) (r := fun j => dataLt (xs.getD j .none) (ys.getD j .none)) ⟨_, h1, h2, _, h3⟩ ⟨_, k1, k2, _, k3⟩ (fun j j1 j2 => ?_) (fun j j1 j2 hj => ?_) ?_))
      · have := eqAt_alikeAll xs ys A.in1 s vs.toList vs'.toList _ _ h4 k4 hal (room_in hu) j (by simpa using j1) (by simpa using j2)
        simpa using this
      · have := rcLt_alikeAll xs ys A.in1 s vs.toList vs'.toList _ _ h4 k4 hal (room_in hu) j (by simpa using j1) (by simpa using j2) hj
        simpa using this
      · exact wpAny_truthy_bool hq
/-- all tuples, the first one empty -/
def TupsE (ds : List PyData) : Prop := (∃ r, ds = .tuple [] :: r) ∧ ∀ d ∈ ds, ∃ xs, d = .tuple xs
theorem firsts_some {M : Model} : ∀ (vs : List Value) {Q : List (Option Value) → Shared → Prop}, (∀ v ∈ vs, ∃ a o xs n, v = .ref a ∧ s.heap.get? a = some o ∧ o.cls = .type "tuple" ∧ o.data = .seq xs n) → (∀ fs : List (Option Value), fs.length = vs.length → Q fs s) → wpAny M A (vs.mapM firstOfTuple') Q E s
  | [], _, _, h => by rw [List.mapM_nil]; exact wpAny_pure (h [] rfl)
  | v :: vs, Q, t, h => by
    obtain ⟨a, o, xs, n, rfl, ho, hc, hd⟩ := t v List.mem_cons_self
    rw [List.mapM_cons]
    refine wpAny_bind ?_
    rw [kas_first_eq]
    refine wpAny_bind (Looks.here (show Looks M s.heap (typeOf (.ref a)) o.cls from (Looks.ld ho).andThen .now) ?_)
    rw [hc, if_neg (by first | decide | simp)]
    refine wpAny_bind (listItems_at ho hd (wpAny_pure ?_))
    exact wpAny_bind (firsts_some vs (Q := fun bs s' => wpAny M A (pure (xs[0]? :: bs)) Q E s') (fun v hv => t v (List.mem_cons_of_mem _ hv)) fun fs hf => wpAny_pure (h _ (by rw [List.length_cons, List.length_cons, hf])))
theorem SortsAt.dataT {vs : List Value} {ds : List PyData} (e : EachIs (fun v d => ∃ as, Reads s.heap v d as) vs ds) (hal : AllAlike ds) (hk : TupsE ds) (hu : ∀ d, d ∈ ds → A.units + d.depth < cLine) : SortsAt prog w A s (dataKind s.heap ds) vs := by
  have room : ∀ {d d' : PyData}, d ∈ ds → A.units + min d.depth d'.depth < cLine := fun {d d'} hd => Nat.lt_of_le_of_lt (Nat.add_le_add_left (Nat.min_le_left _ _) _) (hu d hd)
  have tup : ∀ v ∈ vs, ∃ a o xs n, v = .ref a ∧ s.heap.get? a = some o ∧ o.cls = .type "tuple" ∧ o.data = .seq xs n := fun v hv => by
    obtain ⟨d, hd, as, r⟩ := e.left v hv
    obtain ⟨xs, rfl⟩ := hk.2 d hd
    cases r with
    | tuple h1 h2 h3 h4 => exact ⟨_, _, _, _, rfl, h1, h2, h3⟩
  refine ⟨fun v hv => ?_, oneType', ?_, fun h2 E Q hq => ?_⟩
  · obtain ⟨d, hd, as, r⟩ := e.left v hv
    exact ⟨_, dataKind_some hal hd r⟩
  · intro E x y a b Q ha hb hq
    obtain ⟨d, as, hd, ra, rfl⟩ := dataKind_inv ha
    obtain ⟨d', as', hd', rb, rfl⟩ := dataKind_inv hb
    rw [keyLt'_oneType]
    obtain ⟨x1, rfl⟩ := hk.2 d hd
    obtain ⟨x2, rfl⟩ := hk.2 d' hd'
    exact oneLt_tuples ra rb (hal _ hd _ hd') (room hd) hq
  · obtain ⟨⟨r, rfl⟩, _⟩ := hk
    cases e with
    | @cons v _ vs' _ h0 t =>
      obtain ⟨as, r0⟩ := h0
      cases r0 with
      | @tuple a o xs n _ _ ho hc hd hr =>
        have hx : xs[0]? = none := by
          have : xs.toList = [] := by cases hq' : xs.toList with
            | nil => rfl
            | cons _ _ => rw [hq'] at hr; cases hr
          rw [← Array.getElem?_toList, this]; rfl
        rw [kat_kind_eq, List.mapM_toArray, map_eq_pure_bind, List.mapM_cons]
        have t1 := tup (.ref a) List.mem_cons_self
        refine wpAny_bind (wpAny_bind (wpAny_bind ?_))
        rw [kas_first_eq]
        refine wpAny_bind (Looks.here (show Looks _ s.heap (typeOf (.ref a)) o.cls from (Looks.ld ho).andThen .now) ?_)
        rw [hc, if_neg (by first | decide | simp)]
        refine wpAny_bind (listItems_at ho hd (wpAny_pure ?_))
        rw [hx]
        refine wpAny_bind (firsts_some vs' (fun v hv => tup v (List.mem_cons_of_mem _ hv)) fun fs hf => wpAny_pure (wpAny_pure ?_))
        rw [if_neg (by simp), if_neg (by simp)]
        rw [oneTypeOnly'_eq, List.mapM_toArray, map_eq_pure_bind]
        refine wpAny_bind (wpAny_bind (wpAny_bind (kas_mapM (r := Value.type "tuple") _ (fun v hv Q' hq => ?_) (wpAny_pure ?_))))
        · obtain ⟨a, o, xs, n, rfl, ho, hc, hd⟩ := tup v hv
          exact Looks.here (show Looks _ s.heap (typeOf (.ref a)) (Value.type "tuple") from hc ▸ (Looks.ld ho).andThen .now) hq
        · have hall : ((List.map (fun _ => Value.type "tuple") (Value.ref a :: vs')).toArray.all fun x => x == Value.type "tuple") = true := by
            simp only [List.all_toArray, List.all_map, List.all_eq_true]
            intro _ _
            exact beq_self_eq_true _
          have h0 : (List.map (fun _ => Value.type "tuple") (Value.ref a :: vs')).toArray[0]? = some (Value.type "tuple") := by simp
          rw [h0]
          simp only [hall, if_true]
          exact wpAny_pure (wpAny_pure hq)
end
end PySem.W
namespace Ed
open PySem L2
def SortOk (ds : List PyData) : Prop := PySem.W.AllAlike ds ∧ (PySem.W.Sortable ds ∨ PySem.W.TupsE ds) ∧ (∀ d ∈ ds, d.depth ≤ 8) ∧ ds.length ≤ 900000
def leD (a b : V × PyData) : Bool := PySem.W.dataLe false (fun x : V × PyData => x.2) a b
def rSortT (K : PySem.W.Frag) : List V → Hp → VK → Prop := fun xs H Q => ∃ (p : Addr) (ys : List V) (ds : List PyData), xs = [.ref p] ∧ SqL K H p ys ∧ DTs H ys ds ∧ SortOk ds ∧
  ∀ l, H l = none → Q (.ref l) (upd H l (.lst (((ys.zip ds).mergeSort leD).map (·.1))))
section
variable {X : Cx}
theorem zipIs {h : Heap} {H : Hp} {K : PySem.W.Frag} : ∀ {vs : List Value} {ys : List V} {ds : List PyData} {as : List Addr}, Vals ys vs → ReadsAll h vs ds as → PySem.W.EachIs (fun v (b : V × PyData) => RelV b.1 v ∧ ∃ as, Reads h v b.2 as) vs (ys.zip ds)
  | _, _, _, _, .nil, .nil => .nil
  | _, _, _, _, .cons r rr, .cons q qq => .cons ⟨r, _, q⟩ (zipIs (H := H) (K := K) rr qq)
theorem vals_each {vs : List Value} : ∀ {vs : List Value} {bs : List (V × PyData)}, PySem.W.EachIs (fun v (b : V × PyData) => RelV b.1 v) vs bs → Vals (bs.map (·.1)) vs
  | _, _, .nil => .nil
  | _, _, .cons r t => .cons r (vals_each (vs := vs) t)
theorem zip_snd {α β : Type} {as : List α} {bs : List β} (h : as.length = bs.length) : (as.zip bs).map (fun x => x.2) = bs := by
  rw [List.map_snd_zip]; omega
theorem cr_sortT (hu : X.A.units + 190 < cLine) : CallR X (.builtin "sorted") (rSortT X.K) := by
  intro pins s σ H vs us Q I r h
  obtain ⟨p, ys, ds, rfl, hs, hd, ⟨hal, hk, hdep, hlen⟩, q⟩ := h
  obtain ⟨its, rv, hl, hz⟩ := I.list hs
  rw [Vals.ref1 r]
  obtain ⟨as, hr⟩ := Dp.readsAll I ds ys its hd.dpAll rv
  have e := zipIs (H := H) (K := X.K) rv hr
  have hll : ys.length = ds.length := hd.length
  have hmap : (ys.zip ds).map (fun x => x.2) = ds := zip_snd hll
  have e1 : PySem.W.EachIs (fun v (b : V × PyData) => RelV b.1 v) its (ys.zip ds) := e.mono fun _ _ x => x.1
  have er : PySem.W.EachIs (fun v (b : V × PyData) => ∃ as, Reads (PySem.W.sortingHeap (PySem.W.copyHeap s.heap its) (s.heap.objs.size + 1) its) v b.2 as) its (ys.zip ds) := e.mono fun _ _ ⟨_, as, r⟩ => ⟨as, PyProof.Rows.Reads.keeps (fun _ _ => PySem.W.sorting_copy_old) r⟩
  have hu2 : ∀ d, d ∈ ds → X.A.in1.in1.units + d.depth < cLine := fun d hd => by
    have := hdep d hd
    show X.A.units + 1 + 1 + d.depth < cLine
    omega
  have er2 : PySem.W.EachIs (fun v d => ∃ as, Reads (PySem.W.sortingHeap (PySem.W.copyHeap s.heap its) (s.heap.objs.size + 1) its) v d as) its ds := by
    have := PySem.W.each_map (R := fun v d => ∃ as, Reads (PySem.W.sortingHeap (PySem.W.copyHeap s.heap its) (s.heap.objs.size + 1) its) v d as) (fun x : V × PyData => x.2) er
    rw [hmap] at this
    exact this
  have S : PySem.W.SortsAt X.prog X.w X.A.in1.in1 { s with heap := PySem.W.sortingHeap (PySem.W.copyHeap s.heap its) (s.heap.objs.size + 1) its } (PySem.W.dataKind (PySem.W.sortingHeap (PySem.W.copyHeap s.heap its) (s.heap.objs.size + 1) its) ds) its := by
    rcases hk with hk | hk
    · exact PySem.W.SortsAt.data (s := { s with heap := PySem.W.sortingHeap (PySem.W.copyHeap s.heap its) (s.heap.objs.size + 1) its }) er2 hal hk hu2
    · exact PySem.W.SortsAt.dataT (s := { s with heap := PySem.W.sortingHeap (PySem.W.copyHeap s.heap its) (s.heap.objs.size + 1) its }) er2 hal hk hu2
  have hlv := rv.length
  refine PySem.W.sorted_vals hl.isList S (by rw [← hlv]; exact hz) ?_
  have out := PySem.W.sortVals_data (h' := PySem.W.sortingHeap (PySem.W.copyHeap s.heap its) (s.heap.objs.size + 1) its) (enc := fun x : V × PyData => x.2) false e1 er (by rw [hmap]; exact hal)
  rw [hmap] at out
  obtain ⟨ep, he'⟩ := PyProof.Rows.sortedAll_at s.heap its (PySem.W.sortVals (PySem.W.dataKind (PySem.W.sortingHeap (PySem.W.copyHeap s.heap its) (s.heap.objs.size + 1) its) ds) false its its).toArray
  have hlen2 : (((ys.zip ds).mergeSort leD).map (·.1)).length ≤ sizeLine := by
    rw [List.length_map, List.length_mergeSort, List.length_zip]
    exact Nat.le_trans (Nat.min_le_left _ _) hz
  exact ⟨.ref _, upd H (s.heap.objs.size + 1) (.lst (((ys.zip ds).mergeSort leD).map (·.1))), I.laid (t' := s.toks) (fun _ _ => PyProof.Rows.sortedAll_old) (Nat.le_succ _) ⟨hlen2, _, ep, vals_each (vs := its) out, he'⟩, rfl, q _ (I.hok.fresh (Nat.le_succ _))⟩
variable {α : Type} {K : PySem.W.Frag} {dr : Option Addr} {δ : List Sd} {te : TE}
theorem dts_zip {H : Hp} {ys : List V} {ds : List PyData} (h : DTs H ys ds) : ∀ b ∈ ys.zip ds, DT H b.1 b.2 := by
  intro b hb
  obtain ⟨i, hi⟩ := List.getElem?_of_mem hb
  rw [List.getElem?_zip_eq_some] at hi
  obtain ⟨d, hd, x⟩ := h.getV hi.1
  rw [hi.2] at hd
  cases hd
  exact x
theorem dts_of {H : Hp} : ∀ (bs : List (V × PyData)), (∀ b ∈ bs, DT H b.1 b.2) → DTs H (bs.map (·.1)) (bs.map (·.2))
  | [], _ => .nil
  | b :: bs, h => .cons (h b List.mem_cons_self) (dts_of bs fun c hc => h c (List.mem_cons_of_mem _ hc))
/-- sorted(xs) -/
theorem en_sortT (bs : List α) (enc : α → PyData) (hk : SortOk (bs.map enc)) (h : Ev dr te δ (.l (bs.map enc))) : EvN dr (tCB (rSortT K) (tCons te tNil)) δ ((bs.mergeSort (PySem.W.dataLe false enc)).map enc) := fun σ H s j Q q =>
  h σ H s j _ fun v H1 e1 h1 => by
    obtain ⟨a, ys, rfl, n, g1, g2⟩ := h1
    refine ⟨a, ys, _, rfl, SqL.of g1, g2, hk, fun l hl => ?_⟩
    have t : Tx H1 (upd H1 l (.lst (((ys.zip (bs.map enc)).mergeSort leD).map (·.1)))) := Tx.upd fun xs z => by rw [hl] at z; cases z
    refine q l _ _ (e1.back j hl) (e1.trans (Ext.new e1.jd hl)) upd_same ?_
    have hd := dts_of ((ys.zip (bs.map enc)).mergeSort leD) fun b hb => dts_zip g2 b ((List.mergeSort_perm _ _).mem_iff.mp hb)
    have e2 : ((ys.zip (bs.map enc)).mergeSort leD).map (·.2) = (bs.mergeSort (PySem.W.dataLe false enc)).map enc := by
      have m1 := List.map_mergeSort (r := leD) (s := PySem.W.dataLe false id) (f := fun x : V × PyData => x.2) (l := ys.zip (bs.map enc)) (fun a _ b _ => rfl)
      have m2 := List.map_mergeSort (r := PySem.W.dataLe false enc) (s := PySem.W.dataLe false id) (f := enc) (l := bs) (fun a _ b _ => rfl)
      rw [zip_snd g2.length] at m1
      exact m1.trans m2.symm
    rw [e2] at hd
    exact hd.tx t
end
end Ed
end
section
set_option maxHeartbeats 4000000
/-! R9: values of which only a property is told (draws). -/
namespace Ed
open PySem L2
/-- the draws' own list -/
def drV : Gv := ⟨fun dr H v => ∃ d, dr = some d ∧ v = .ref d, fun _ _ h => h, true, fun _ _ _ _ _ _ _ _ h => h⟩
def anyV (Z : PyData → Prop) : Gv := ⟨fun dr H v => ∃ e, Z e ∧ DT H v e, fun e j h => let ⟨d, h1, h2⟩ := h; ⟨d, h1, h2.tx (e.tx j)⟩, true, fun _ _ _ _ _ _ n _ h => let ⟨d, h1, h2⟩ := h; ⟨d, h1, h2.tx (Tx.upd n)⟩⟩
def anyL (Z : List PyData → Prop) : Gv := ⟨fun dr H v => ∃ ds, Z ds ∧ IsL dr H v ds, fun e j h => let ⟨d, h1, h2⟩ := h; ⟨d, h1, h2.ext e j⟩, false, fun h => nomatch h⟩
/-- an int of which φ is told -/
def iZ (φ : Int → Prop) : PyData → Prop := fun e => ∃ n, φ n ∧ e = .int n
def EvNS (dr : Option Addr) (te : TE) (δ : List Sd) (Z : List PyData → Prop) : Prop := ∀ (σ : L2.St) (H : Hp), Sl dr H σ δ → Jd dr H → ∀ Q : VK, (∀ p xs ds H2, H p = none → Ext dr H H2 → H2 p = some (.lst xs) → DTs H2 xs ds → Z ds → Q (.ref p) H2) → te σ H Q
def EvTS (dr : Option Addr) (tt : TT) (δ : List Sd) (Z : Bool → Prop) : Prop := ∀ (σ : L2.St) (H : Hp), Sl dr H σ δ → Jd dr H → ∀ Q : Bool → Hp → Prop, (∀ b H2, Z b → Ext dr H H2 → Q b H2) → tt σ H Q
section
variable {K : PySem.W.Frag} {dr : Option Addr} {δ : List Sd} {ta tb te tl : TE} {tt tu' : TT} {x y z : Vd} {r : R2} {Z Z' : PyData → Prop} {ZL : List PyData → Prop} {i : Nat} {d e : PyData} {ds : List PyData} {φ ψ : Int → Prop}
theorem ev_varR {d : Addr} (h : δ[i]? = some (.r d)) (hd : dr = some d) : Ev dr (tVar i) δ (.g drV) := fun σ H s j Q q => by
  obtain ⟨o, e1, e2⟩ := s i _ h
  subst e2
  exact ⟨_, e1, q _ H (Ext.refl j) ⟨d, hd, rfl⟩⟩
theorem Ev.any (h : Ev dr te δ (.d e)) (hz : Z e) : Ev dr te δ (.g (anyV Z)) := fun σ H s j Q q => h σ H s j Q fun v H2 e2 h2 => q v H2 e2 ⟨e, hz, h2⟩
theorem Ev.imp (h : Ev dr te δ (.g (anyV Z))) (hz : ∀ e, Z e → Z' e) : Ev dr te δ (.g (anyV Z')) := fun σ H s j Q q => h σ H s j Q fun v H2 e2 ⟨e, h1, h2⟩ => q v H2 e2 ⟨e, hz e h1, h2⟩
theorem EvN.s (h : EvN dr te δ ds) (hz : ZL ds) : EvNS dr te δ ZL := fun σ H s j Q q => h σ H s j Q fun p xs H2 hp e2 h2 h3 => q p xs ds H2 hp e2 h2 h3 hz
theorem EvNS.ev (h : EvNS dr te δ ZL) : Ev dr te δ (.g (anyL ZL)) := fun σ H s j Q q => h σ H s j Q fun p xs ds H2 hp e2 h2 h3 hz => q _ H2 e2 ⟨ds, hz, p, xs, rfl, j.ne hp, h2, h3⟩
theorem EvT.s {b : Bool} {Zb : Bool → Prop} (h : EvT dr tt δ b) (hz : Zb b) : EvTS dr tt δ Zb := fun σ H s j Q q => h σ H s j Q fun H2 e2 => q b H2 hz e2
theorem rr_anyL (h : ∀ e, Z e → ∃ e', Z' e' ∧ RR dr r (.d e) y (.d e')) : RR dr r (.g (anyV Z)) y (.g (anyV Z')) := fun v w H hv hw jd Q q => by
  obtain ⟨e, hz, hv⟩ := hv
  obtain ⟨e', hz', hr⟩ := h e hz
  exact hr v w H hv hw jd Q fun u H2 e2 h2 => q u H2 e2 ⟨e', hz', h2⟩
theorem rr_anyR (h : ∀ e, Z e → ∃ e', Z' e' ∧ RR dr r x (.d e) (.d e')) : RR dr r x (.g (anyV Z)) (.g (anyV Z')) := fun v w H hv hw jd Q q => by
  obtain ⟨e, hz, hw⟩ := hw
  obtain ⟨e', hz', hr⟩ := h e hz
  exact hr v w H hv hw jd Q fun u H2 e2 h2 => q u H2 e2 ⟨e', hz', h2⟩
theorem rr_anyLL (h : ∀ ds, ZL ds → RR dr r (.l ds) y (.g (anyV Z'))) : RR dr r (.g (anyL ZL)) y (.g (anyV Z')) := fun v w H hv hw jd Q q => by
  obtain ⟨ds, hz, hv⟩ := hv
  exact h ds hz v w H hv hw jd Q q
theorem rr_modA {m : Int} (hm : 0 < m) : RR dr (rI (fun _ j => 0 < j) fun i j => .int (i % j)) (.g (anyV (iZ φ))) (.d (.int m)) (.g (anyV (iZ fun n => 0 ≤ n ∧ n < m))) :=
  rr_anyL fun e ⟨n, _, he⟩ => ⟨.int (n % m), ⟨_, ⟨Int.emod_nonneg _ (by omega), Int.emod_lt_of_pos _ hm⟩, rfl⟩, by subst he; exact rr_I hm fun _ => .int _⟩
theorem rr_eqA {m : Int} : RR dr rEq (.g (anyV (iZ φ))) (.d (.int m)) (.g (anyV fun e => ∃ b, e = .bool b)) :=
  rr_anyL fun e ⟨n, _, he⟩ => ⟨.bool (decide (n = m)), ⟨_, rfl⟩, by subst he; exact rr_eqI⟩
/-- an item of a list, somewhere -/
theorem rr_ixA {α : Type} {xs : List α} {en : α → PyData} (hφ : ∀ n, φ n → 0 ≤ n ∧ n < xs.length) : RR dr (rIxL K) (.l (xs.map en)) (.g (anyV (iZ φ))) (.g (anyV fun e => ∃ a ∈ xs, e = en a)) :=
  rr_anyR fun e ⟨n, hn, he⟩ => by
    subst he
    obtain ⟨h0, h1⟩ := hφ n hn
    have hg : xs[n.toNat]? = some xs[n.toNat] := List.getElem?_eq_getElem (by omega)
    refine ⟨en xs[n.toNat], ⟨_, List.getElem_mem _, rfl⟩, rr_ixL ?_⟩
    exact at_map h0 hg
theorem et_testA {Zb : Bool → Prop} (h : Ev dr te δ (.g (anyV fun e => ∃ b, e = .bool b))) (hz : ∀ b, Zb b) : EvTS dr (tTest te) δ Zb := fun σ H s j Q q => h σ H s j _ fun v H1 e1 g1 => by
  obtain ⟨e, ⟨b, rfl⟩, g1⟩ := g1
  cases bl_of (dr := dr) g1
  exact ⟨b, rfl, q b H1 (hz b) e1⟩
theorem et_andA {a : Bool} {Zb : Bool → Prop} (h1 : EvT dr tt δ a) (h2 : a = true → EvTS dr tu' δ Zb) (hz : a = false → Zb false) : EvTS dr (tAnd tt tu') δ Zb := fun σ H s j Q q => h1 σ H s j _ fun H1 e1 => by
  cases a with
  | true =>
    rw [if_pos rfl]
    exact h2 rfl σ H1 (s.ext e1 j) e1.jd Q fun b H2 hb e2 => q b H2 hb (e1.trans e2)
  | false =>
    rw [if_neg Bool.false_ne_true]
    exact q false H1 (hz rfl) e1
theorem rc_intA : RC dr rInt1 [.g (anyV fun e => ∃ b, e = .bool b)] (.g (anyV (iZ fun n => n = 0 ∨ n = 1))) := fun vs H h jd Q q => by
  obtain ⟨v, rfl, g⟩ := oks1 h
  obtain ⟨e, ⟨b, rfl⟩, g⟩ := g
  cases bl_of (dr := dr) g
  exact .inr ⟨b, rfl, q _ H (Ext.refl jd) ⟨_, ⟨_, by cases b <;> simp, rfl⟩, .int _⟩⟩
/-- a row of which some items are drawn -/
theorem ev_tupA {ta : TA} {zs : List Vd} (h : EvA dr ta δ zs) (hz : ∀ H vs, Oks dr H vs zs → ∃ ds, ZL ds ∧ DTs H vs ds ∧ small ds.length) : Ev dr (tTup ta) δ (.g (anyV fun e => ∃ ds, ZL ds ∧ e = .tuple ds)) := fun σ H s j Q q =>
  h σ H s j _ fun vs H1 e1 h1 => by
    obtain ⟨ds, hz1, hd, hs⟩ := hz H1 vs h1
    exact ⟨by rw [hd.length]; exact hs.line, fun p hp => q _ _ (e1.trans (Ext.new e1.jd hp)) ⟨_, ⟨ds, hz1, rfl⟩, .tup upd_same (hd.tx (Tx.upd fun xs z => by rw [hp] at z; cases z))⟩⟩
theorem en_lstA {ta : TA} {zs : List Vd} (h : EvA dr ta δ zs) (hz : ∀ H vs, Oks dr H vs zs → ∃ ds, ZL ds ∧ DTs H vs ds ∧ small ds.length) : EvNS dr (tLst ta) δ ZL := fun σ H s j Q q =>
  h σ H s j _ fun vs H1 e1 h1 => by
    obtain ⟨ds, hz1, hd, hs⟩ := hz H1 vs h1
    exact ⟨by rw [hd.length]; exact hs.line, fun p hp => q p vs ds _ (e1.back j hp) (e1.trans (Ext.new e1.jd hp)) upd_same (hd.tx (Tx.upd fun xs z => by rw [hp] at z; cases z)) hz1⟩
theorem en_slLS {tl' th : TO} {lo hi : Option Int} (h : EvNS dr te δ ZL) (hl : EvO dr tl' δ lo) (hh : EvO dr th δ hi) : EvNS dr (tSl (rSlL K) te tl' th) δ (fun es => ∃ ds, ZL ds ∧ es = cutD ds lo hi) := fun σ H s j Q q =>
  h σ H s j _ fun a xs ds H1 ha e1 g1 g2 hz => hl σ H1 (s.ext e1 j) e1.jd _ fun H2 e2 => hh σ H2 (s.ext (e1.trans e2) j) e2.jd _ fun H3 e3 => by
    have e13 := (e1.trans e2).trans e3
    have na := j.ne ha
    have h1 := e3.rel _ _ na (e2.rel _ _ na g1)
    have h2 := (g2.tx (e2.tx e1.jd)).tx (e3.tx e2.jd)
    refine ⟨a, xs, rfl, SqL.of h1, fun p hp => ?_⟩
    have t : Tx H3 (upd H3 p (.lst (cutV xs lo hi))) := Tx.upd fun xs z => by rw [hp] at z; cases z
    exact q p _ _ _ (e13.back j hp) (e13.trans (Ext.new e3.jd hp)) upd_same ((h2.cut lo hi).tx t) ⟨ds, hz, rfl⟩
/-! ### comprehensions with drawn tests -/
section
variable {α : Type}
theorem lc_stepS {H1 H' : Hp} {D : Addr} {acc : List V} {ds : List PyData} {gd : PyData} {Zb : Bool → Prop} {σ2 : L2.St} {δ2 : List Sd} {Nx : Hp → Prop} (hD : H1 D = none) (j1 : Jd dr H1) (e : Ext dr H1 H') (hacc : H' D = some (.lst acc)) (hds : DTs H' acc ds)
    (hlen : ds.length < 1000000) (hS : Sl dr H' σ2 δ2) (ht : EvTS dr tt δ2 Zb) (he : Ev dr te δ2 (.d gd))
    (hN : ∀ b H'' acc', Zb b → Ext dr H1 H'' → H'' D = some (.lst acc') → DTs H'' acc' (if b = true then ds ++ [gd] else ds) → Nx H'') :
    tt σ2 H' fun b H3 => if b = true then te σ2 H3 fun y H4 => ∃ acc, H4 D = some (.lst acc) ∧ acc.length < sizeLine ∧ Nx (upd H4 D (.lst (acc ++ [y]))) else Nx H3 := by
  have nD : dr ≠ some D := j1.ne hD
  refine ht σ2 H' hS e.jd _ fun b H3 hb e3 => ?_
  have hD3 : H3 D = some (.lst acc) := e3.rel _ _ nD hacc
  cases b with
  | false =>
    rw [if_neg Bool.false_ne_true]
    refine hN false H3 acc hb (e.trans e3) hD3 ?_
    rw [if_neg Bool.false_ne_true]
    exact hds.tx (e3.tx e.jd)
  | true =>
    rw [if_pos rfl]
    refine he σ2 H3 (hS.ext e3 e.jd) e3.jd _ fun v H4 e4 h4 => ?_
    have hD4 : H4 D = some (.lst acc) := e4.rel _ _ nD hD3
    refine ⟨acc, hD4, by rw [hds.length]; exact small.lt hlen, ?_⟩
    have t : Tx H4 (upd H4 D (.lst (acc ++ [v]))) := Tx.upd fun xs z => by rw [hD4] at z; cases z
    refine hN true _ (acc ++ [v]) hb ⟨((e.rel.trans e3.rel).trans e4.rel).mut hD, e4.jd.upd nD⟩ upd_same ?_
    rw [if_pos rfl]
    exact (((hds.tx (e3.tx e.jd)).tx (e4.tx e3.jd)).snoc h4).tx t
def subZ (xs : List α) (en : α → PyData) (Zp : α → Bool → Prop) : List PyData → Prop := fun ds => ∃ l : List α, l.Sublist xs ∧ (∀ a ∈ l, Zp a true) ∧ ds = l.map en
theorem sub_step {xs l : List α} {k : Nat} {a : α} {Zp : α → Bool → Prop} {en : α → PyData} {b : Bool} (h : xs[k]? = some a) (hl : l.Sublist (xs.take k)) (hz : ∀ a ∈ l, Zp a true) (hb : Zp a b) :
    ∃ l' : List α, l'.Sublist (xs.take (k + 1)) ∧ (∀ a ∈ l', Zp a true) ∧ (if b = true then l.map en ++ [en a] else l.map en) = l'.map en := by
  rw [take_succ' h]
  cases b with
  | true => exact ⟨l ++ [a], hl.append (List.Sublist.refl _), fun x hx => (List.mem_append.mp hx).elim (hz x) (fun q => by rw [List.mem_singleton.mp q]; exact hb), by simp⟩
  | false => exact ⟨l, hl.trans (List.sublist_append_left _ _), hz, by simp⟩
theorem en_lcTS {j : Nat} {vs : List Nat} (xs : List α) (en : α → PyData) (Zp : α → Bool → Prop) (hl : Ev dr tl δ (.d (.tuple (xs.map en)))) (hz : xs.length < 1000000) (hj : j ∈ vs)
    (ht : ∀ a, a ∈ xs → EvTS dr tt ((wipeD δ vs).set j (.d (en a))) (Zp a)) (he : ∀ a, a ∈ xs → Ev dr te ((wipeD δ vs).set j (.d (en a))) (.d (en a))) :
    EvNS dr (tLc (iTup K tl) (gName j) tt te vs) δ (subZ xs en Zp) := fun σ H s jd Q q =>
  hl σ H s jd _ fun v H1 e1 h1 => by
    obtain ⟨a, ws, rfl, g1, g2⟩ := tup_of h1
    refine ⟨a, rfl, ⟨ws, SqT.of g1⟩, fun D hD => ?_⟩
    refine lc_tup (xs := ws) (fun i H' => Ext dr H1 H' ∧ ∃ acc l, H' D = some (.lst acc) ∧ DTs H' acc (l.map en) ∧ l.Sublist (xs.take i) ∧ ∀ a ∈ l, Zp a true) ⟨Ext.new e1.jd hD, [], [], upd_same, .nil, by simp, by simp⟩ (fun i H' _ p => SqT.of (p.1.tx e1.jd _ _ g1)) (fun i x H' hi p => ?_) (fun H' p => ?_)
    · obtain ⟨e, acc, l, hacc, hds, hsub, hzz⟩ := p
      obtain ⟨d', hd', hx⟩ := g2.getV hi
      rw [List.getElem?_map] at hd'
      obtain ⟨a', ha', rfl⟩ := Option.map_eq_some_iff.mp hd'
      refine ⟨wipe_set hj _, ?_⟩
      have hS : Sl dr H' ((wipe σ vs).set j (some x)) ((wipeD δ vs).set j (.d (en a'))) := Sl.set ((s.ext (e1.trans e) jd).wipe) ⟨x, rfl, hx.tx (e.tx e1.jd)⟩
      have hll : l.length ≤ xs.length := Nat.le_trans hsub.length_le (by rw [List.length_take]; omega)
      refine lc_stepS hD e1.jd e hacc hds (by rw [List.length_map]; omega) hS (ht a' (List.mem_of_getElem? ha')) (he a' (List.mem_of_getElem? ha')) fun b H'' acc' hb e'' h1 h2 => ?_
      obtain ⟨l', k1, k2, k3⟩ := sub_step (en := en) ha' hsub hzz hb
      rw [k3] at h2
      exact ⟨e'', acc', l', h1, h2, k1, k2⟩
    · obtain ⟨e, acc, l, hacc, hds, hsub, hzz⟩ := p
      exact q D acc _ H' (e1.back jd hD) (e1.trans e) hacc hds ⟨l, hsub.trans (List.take_sublist _ _), hzz, rfl⟩
theorem en_lcLS {j : Nat} {vs : List Nat} (xs : List α) (en : α → PyData) (Zp : α → Bool → Prop) (hl : Ev dr tl δ (.l (xs.map en))) (hz : xs.length < 1000000) (hj : j ∈ vs)
    (ht : ∀ a, a ∈ xs → EvTS dr tt ((wipeD δ vs).set j (.d (en a))) (Zp a)) (he : ∀ a, a ∈ xs → Ev dr te ((wipeD δ vs).set j (.d (en a))) (.d (en a))) :
    EvNS dr (tLc (iList K tl) (gName j) tt te vs) δ (subZ xs en Zp) := fun σ H s jd Q q =>
  hl σ H s jd _ fun v H1 e1 h1 => by
    obtain ⟨a, ws, rfl, n, g1, g2⟩ := h1
    refine ⟨a, rfl, ⟨ws, SqL.of g1⟩, fun D hD => ?_⟩
    refine lc_list (xs := ws) (fun i H' => Ext dr H1 H' ∧ ∃ acc l, H' D = some (.lst acc) ∧ DTs H' acc (l.map en) ∧ l.Sublist (xs.take i) ∧ ∀ a ∈ l, Zp a true) ⟨Ext.new e1.jd hD, [], [], upd_same, .nil, by simp, by simp⟩ (fun i H' _ p => SqL.of (p.1.rel _ _ n g1)) (fun i x H' hi p => ?_) (fun H' p => ?_)
    · obtain ⟨e, acc, l, hacc, hds, hsub, hzz⟩ := p
      obtain ⟨d', hd', hx⟩ := g2.getV hi
      rw [List.getElem?_map] at hd'
      obtain ⟨a', ha', rfl⟩ := Option.map_eq_some_iff.mp hd'
      refine ⟨wipe_set hj _, ?_⟩
      have hS : Sl dr H' ((wipe σ vs).set j (some x)) ((wipeD δ vs).set j (.d (en a'))) := Sl.set ((s.ext (e1.trans e) jd).wipe) ⟨x, rfl, hx.tx (e.tx e1.jd)⟩
      have hll : l.length ≤ xs.length := Nat.le_trans hsub.length_le (by rw [List.length_take]; omega)
      refine lc_stepS hD e1.jd e hacc hds (by rw [List.length_map]; omega) hS (ht a' (List.mem_of_getElem? ha')) (he a' (List.mem_of_getElem? ha')) fun b H'' acc' hb e'' h1 h2 => ?_
      obtain ⟨l', k1, k2, k3⟩ := sub_step (en := en) ha' hsub hzz hb
      rw [k3] at h2
      exact ⟨e'', acc', l', h1, h2, k1, k2⟩
    · obtain ⟨e, acc, l, hacc, hds, hsub, hzz⟩ := p
      exact q D acc _ H' (e1.back jd hD) (e1.trans e) hacc hds ⟨l, hsub.trans (List.take_sublist _ _), hzz, rfl⟩
end
/-! ### statements -/
variable {B : Hp → Prop} {E : Ends} {tz tu tw : TS}
theorem w_asgA (hB : BOk dr B) (h : Ev dr te δ (.g (anyV Z))) (k : ∀ e, Z e → W dr B E tz (δ.set i (.d e))) : W dr B E (tSeq (tAsg te (gName i)) tz) δ := fun σ H s j b =>
  h σ H s j _ fun v H1 e1 ⟨e, hz, h1⟩ => k e hz _ H1 ((s.ext e1 j).set ⟨v, rfl, h1⟩) e1.jd (hB.ext b j e1)
theorem w_asgNS (hB : BOk dr B) (h : EvNS dr te δ ZL) (k : ∀ p ds, ZL ds → dr ≠ some p → Mu B p → Fr p δ → W dr B E tz (δ.set i (.l p ds))) : W dr B E (tSeq (tAsg te (gName i)) tz) δ := fun σ H s j b =>
  h σ H s j _ fun p xs ds H1 hp e1 h1 h2 hz => k p ds hz (j.ne hp) (fun H' o n b' => hB.mu b j hp H' o n b') (fr_of hp s) _ H1 ((s.ext e1 j).set ⟨rfl, j.ne hp, xs, h1, h2⟩) e1.jd (hB.ext b j e1)
theorem w_asgAL (hB : BOk dr B) (h : Ev dr te δ (.g (anyL ZL))) (k : ∀ ds, ZL ds → W dr B E tz (δ.set i (.v (.l ds)))) : W dr B E (tSeq (tAsg te (gName i)) tz) δ := fun σ H s j b =>
  h σ H s j _ fun v H1 e1 ⟨ds, hz, h1⟩ => k ds hz _ H1 ((s.ext e1 j).set ⟨v, rfl, h1⟩) e1.jd (hB.ext b j e1)
theorem w_ifS {Zb : Bool → Prop} (hB : BOk dr B) (h : EvTS dr tt δ Zb) (h1 : Zb true → W dr B { E with nx := tz E } tu δ) (h2 : Zb false → W dr B { E with nx := tz E } tw δ) : W dr B E (tSeq (tIfS tt tu tw) tz) δ := fun σ H s j hb =>
  h σ H s j _ fun b H1 hz e1 => by
    cases b with
    | true =>
      rw [if_pos rfl]
      exact h1 hz σ H1 (s.ext e1 j) e1.jd (hB.ext hb j e1)
    | false =>
      rw [if_neg Bool.false_ne_true]
      exact h2 hz σ H1 (s.ext e1 j) e1.jd (hB.ext hb j e1)
theorem w_retA {u : TS} (hB : BOk dr B) (h : Ev dr te δ z) (hR : ∀ v H', B H' → Jd dr H' → z.ok dr H' v → E.rt v H') : W dr B E (tSeq (tRet te) u) δ := w_ret hB h hR
theorem w_appA {p : Addr} (hB : BOk dr B) (hi : δ[i]? = some (.l p ds)) (hm : Mu B p) (h : Ev dr te δ (.g (anyV Z))) (hl : ds.length < 1000000) (hk : mutAll p (δ.set i .x)) (k : ∀ e, Z e → W dr B E tz (δ.set i (.l p (ds ++ [e])))) :
    W dr B E (tSeq (tDrop (tBM K "list" rAppend (tVar i) (tCons te tNil))) tz) δ := fun σ H s j b => by
  obtain ⟨o, e1, e2, n, xs, g1, g2⟩ := s i _ hi
  subst e2
  refine ⟨_, e1, Or.inl ⟨rfl, _, SqL.of g1⟩, ?_⟩
  refine h σ H s j _ fun v H1 e3 ⟨e, hz, h1⟩ => ?_
  have g1' := e3.rel _ _ n g1
  have g2' := g2.tx (e3.tx j)
  refine ⟨p, xs, v, rfl, rfl, g1', by rw [g2.length]; exact small.lt hl, ?_⟩
  exact k e hz σ _ ((s.ext e3 j).mutd hi g1' hk (g2'.snoc h1)) (e3.jd.upd n) (hm H1 _ (fun xs z => by rw [g1'] at z; cases z) (hB.ext b j e3))
theorem w_setLA {p : Addr} (hB : BOk dr B) (hi : δ[i]? = some (.l p ds)) (hm : Mu B p) (h : Ev dr te δ (.d d)) (hx : Ev dr tb δ (.g (anyV (iZ φ)))) (hφ : ∀ n, φ n → 0 ≤ n ∧ n < ds.length) (hk : mutAll p (δ.set i .x)) (k : ∀ m, m < ds.length → W dr B E tz (δ.set i (.l p (ds.set m d)))) :
    W dr B E (tSeq (tAsg te (gSub (tVar i) tb rSetL)) tz) δ := fun σ H s j b =>
  h σ H s j _ fun v H1 e1 h1 => by
    have s1 := s.ext e1 j
    obtain ⟨o, f1, f2, nd, xs, g1, g2⟩ := s1 i _ hi
    subst f2
    refine ⟨_, f1, ?_⟩
    refine hx σ H1 s1 e1.jd _ fun w H2 e2 h2 => ?_
    obtain ⟨_, ⟨n, hn, rfl⟩, h2⟩ := h2
    cases int_of (dr := dr) h2
    obtain ⟨h0, hlt⟩ := hφ n hn
    have g1' := e2.rel _ _ nd g1
    have g2' := g2.tx (e2.tx e1.jd)
    have hix : ixN xs.length n = some n.toNat := by
      rw [g2.length]
      unfold ixN
      simp only [h0, if_true, if_pos h0]
      first | rw [if_pos (by omega)] | simp [hlt] | (simp; omega)
    refine ⟨p, xs, n, n.toNat, rfl, rfl, g1', hix, ?_⟩
    exact k n.toNat (by omega) σ _ ((s1.ext e2 e1.jd).mutd hi g1' hk (g2'.set (h1.tx (e2.tx e1.jd)) n.toNat)) (e2.jd.upd nd) (hm H2 _ (fun xs z => by rw [g1'] at z; cases z) (hB.ext b j (e1.trans e2)))
/-- for j in range(a drawn number) -/
theorem w_forA {ta : TA} {j : Nat} (I : Int → Nat → List Sd → Prop) (hB : BOk dr B) (h : EvA dr ta δ [.g (anyV (iZ φ))]) (hφ : ∀ n, φ n → -1000000 ≤ n ∧ n ≤ 1000000) (h0 : ∀ n, φ n → I n 0 δ)
    (hs : ∀ n (i : Nat) δ', φ n → (i : Int) < n → I n i δ' → W dr B { E with nx := NI dr B (I n (i + 1)), ct := NI dr B (I n (i + 1)), bk := tz E } tu (δ'.set j (.d (.int (i : Int)))))
    (hd : ∀ n δ', φ n → I n n.toNat δ' → W dr B E tz δ') : W dr B E (tSeq (tFor (iRng1 ta) (gName j) tu) tz) δ := fun σ H s jd b =>
  h σ H s jd _ fun vs H1 e1 g1 => by
    obtain ⟨v, rfl, g⟩ := oks1 g1
    obtain ⟨_, ⟨n, hn, rfl⟩, g⟩ := g
    cases int_of (dr := dr) g
    obtain ⟨hn0, hn1⟩ := hφ n hn
    refine ⟨n, rfl, by omega, by omega, ?_⟩
    refine for_range (lo := 0) (n := n.toNat) (D := { E with nx := tz E }) (fun i σ' H' => NI dr B (I n i) σ' H') ⟨δ, h0 n hn, s.ext e1 jd, e1.jd, hB.ext b jd e1⟩ (fun i σ' H' hi p => ?_) (fun σ' H' p => ?_)
    · obtain ⟨δ', hI, s', j', b'⟩ := p
      have e : (0 : Int) + (i : Int) = (i : Int) := Int.zero_add _
      rw [e]
      exact hs n i δ' hn (by omega) hI _ H' (s'.set ⟨_, rfl, .int _⟩) j' b'
    · obtain ⟨δ', hI, s', j', b'⟩ := p
      exact hd n δ' hn hI σ' H' s' j' b'
end
end Ed
end
section
set_option maxHeartbeats 4000000
namespace Ed
open PySem L2
local macro_rules | `(tactic| nested_key) => `(tactic| first
  | rfl
  | assumption
  | omega
  | exact Nat.le_of_ble_eq_true rfl
  | decide
  | (simp only [List.length_map, small]; omega)
  | (simp [small]; done)
  | (simp only [Vd.sd, setAll, List.set, mutAll, okm, Fr] at *; simp_all; done))

section
variable {P : Program} {w : World} {K : PySem.W.Frag} {mg : Str → Option Value} {base : Heap} {dr : Option Addr} {δ : List Sd} {ta : TA}

/-! is_whole -/
def wholeB (l m i : Int) : Bool := decide (l ≤ i) && decide (i ≤ m)
def q_is_whole : List Vd → Vd → Prop := fun a z => ∃ i l m, a = [.d (.int i), .d (.int l), .d (.int m)] ∧ z = .d (.bool (wholeB l m i))
abbrev sp_is_whole : Sp := spP q_is_whole
theorem e_is_whole {i l m : Int} (h : EvA dr ta δ [.d (.int i), .d (.int l), .d (.int m)]) : Ev dr (tCall sp_is_whole [] C8.E0 ta) δ (.d (.bool (wholeB l m i))) := ev_call h ⟨_, _, _, rfl, rfl⟩
abbrev s_is_whole : Stmt := Hd.top 5
abbrev N_is_whole : List Str := ["thing", "least", "most"]
theorem nd_is_whole : N_is_whole.Nodup := by decide +kernel
theorem sc_is_whole : C8.scC N_is_whole ["thing", "least", "most"] (C8.fnScope s_is_whole) = true := by decide +kernel
def t_is_whole (K : PySem.W.Frag) : TS :=
  (tSeq (tRet (tAndV (tCB (rIsi K) (tCons (tVar 0) (tCons (tC (.ty "int")) tNil))) (tAndV (tNotV (tCB (rIsi K) (tCons (tVar 0) (tCons (tC (.ty "bool")) tNil)))) (tChain oLe oLe (tVar 1) (tVar 0) (tVar 2)))))
  tNext)
theorem d_is_whole {P : Program} {w : World} {K : PySem.W.Frag} {mg : Str → Option Value} {base : Heap} (T : Top K mg) (f : Addr) (cdv : Value) (A : Around) (outer : List Env) (s : Shared) (H : Hp) (E : XK)
    (hr : Room 0 (A.deeper (PyProof.Rows.envOfC "is_whole" (C8.fnScope s_is_whole) s.heap.objs.size f cdv))) :
    PSs (cxOf C8.CX0 P w K mg base N_is_whole "is_whole" (C8.fnScope s_is_whole) f cdv A outer s H E).nox (C8.fnBody s_is_whole) (t_is_whole K) :=
  (pss_cons (ps_ret (pe_and (pe_callB call_isi (by rfl) T.n_isinstance bt_isinstance (pa_cons (pv 0) (pa_cons (pe_bltn (v := .ty "int") (by rfl) T.n_int bt_int rfl) pa_nil))) (pe_and (pe_not (pe_callB call_isi (by rfl) T.n_isinstance bt_isinstance (pa_cons (pv 0) (pa_cons (pe_bltn (v := .ty "bool") (by rfl) T.n_bool bt_bool rfl) pa_nil)))) (pe_one (pe_chain op_le op_le (pv 1) (pv 0) (pv 2))))))
  pss_nil)
theorem c_is_whole (T : Top K mg) : C8.Cal P w K mg base 1 "is_whole" sp_is_whole [] := by
  refine cal_of T.f_is_whole sc_is_whole (t_is_whole K) (fun zs z h => ?_) (fun f cdv A outer s H E hr => d_is_whole T f cdv A outer s H E hr) (fun dr B E zs z hp hB hR hN => ?_)
  · obtain ⟨_, _, _, rfl, _⟩ := h; rfl
  obtain ⟨i, l, m, rfl, rfl⟩ := hp
  exact w_ret hB (Ev.is (ev_andV (ev_isi (ev_var rfl) kit_int_int) fun _ => (ev_andV (ev_notV (ev_isi (ev_var rfl) kit_int_bool)) fun _ => (ev_chain (ev_var rfl) (ev_var rfl) (ev_var rfl) (rr_I0 fun _ => .bl _) (rr_I0 fun _ => .bl _)))) (by simp [wholeB])) hR

/-! is_row -/
def rowB : PyData → Bool
  | .tuple _ => true
  | .list _ => true
  | _ => false
def flatD : PyData → Prop
  | .dict _ => False
  | _ => True
def q_is_row : List Vd → Vd → Prop := fun a z => ∃ d, a = [.d d] ∧ flatD d ∧ z = .d (.bool (rowB d))
abbrev sp_is_row : Sp := spP q_is_row
theorem e_is_row {d : PyData} (h : EvA dr ta δ [.d d]) (hf : flatD d := by exact trivial) : Ev dr (tCall sp_is_row [] C8.E0 ta) δ (.d (.bool (rowB d))) := ev_call h ⟨_, rfl, hf, rfl⟩
abbrev s_is_row : Stmt := Hd.top 6
abbrev N_is_row : List Str := ["thing"]
theorem nd_is_row : N_is_row.Nodup := by decide +kernel
theorem sc_is_row : C8.scC N_is_row ["thing"] (C8.fnScope s_is_row) = true := by decide +kernel
def t_is_row (K : PySem.W.Frag) : TS :=
  (tSeq (tRet (tCB (rIsiT K) (tCons (tVar 0) (tCons (tTup (tCons (tC (.ty "list")) (tCons (tC (.ty "tuple")) tNil))) tNil))))
  tNext)
theorem d_is_row {P : Program} {w : World} {K : PySem.W.Frag} {mg : Str → Option Value} {base : Heap} (T : Top K mg) (f : Addr) (cdv : Value) (A : Around) (outer : List Env) (s : Shared) (H : Hp) (E : XK)
    (hr : Room 0 (A.deeper (PyProof.Rows.envOfC "is_row" (C8.fnScope s_is_row) s.heap.objs.size f cdv))) :
    PSs (cxOf C8.CX0 P w K mg base N_is_row "is_row" (C8.fnScope s_is_row) f cdv A outer s H E).nox (C8.fnBody s_is_row) (t_is_row K) :=
  (pss_cons (ps_ret (pe_callB call_isiT (by rfl) T.n_isinstance bt_isinstance (pa_cons (pv 0) (pa_cons (pe_tup (pa_cons (pe_bltn (v := .ty "list") (by rfl) T.n_list bt_list rfl) (pa_cons (pe_bltn (v := .ty "tuple") (by rfl) T.n_tuple bt_tuple rfl) pa_nil))) pa_nil))))
  pss_nil)
theorem c_is_row (T : Top K mg) : C8.Cal P w K mg base 1 "is_row" sp_is_row [] := by
  refine cal_of T.f_is_row sc_is_row (t_is_row K) (fun zs z h => ?_) (fun f cdv A outer s H E hr => d_is_row T f cdv A outer s H E hr) (fun dr B E zs z hp hB hR hN => ?_)
  · obtain ⟨_, rfl, _⟩ := h; rfl
  obtain ⟨d, rfl, hf, rfl⟩ := hp
  cases d with
  | none => exact w_ret hB (Ev.is (ev_isi2 (ev_var rfl) (a := false) (b := false) kit_NoneType_list kit_NoneType_tuple) rfl) hR
  | bool b => exact w_ret hB (Ev.is (ev_isi2 (ev_var rfl) (a := false) (b := false) kit_bool_list kit_bool_tuple) rfl) hR
  | int i => exact w_ret hB (Ev.is (ev_isi2 (ev_var rfl) (a := false) (b := false) kit_int_list kit_int_tuple) rfl) hR
  | str x => exact w_ret hB (Ev.is (ev_isi2 (ev_var rfl) (a := false) (b := false) kit_str_list kit_str_tuple) rfl) hR
  | list l => exact w_ret hB (Ev.is (ev_isi2 (ev_var rfl) (a := true) (b := false) kit_list_list kit_list_tuple) rfl) hR
  | tuple l => exact w_ret hB (Ev.is (ev_isi2 (ev_var rfl) (a := false) (b := true) kit_tuple_list kit_tuple_tuple) rfl) hR
  | dict l => exact hf.elim

/-! is_rising -/
def riseB (m : Int) : Int → List Int → Bool
  | _, [] => true
  | l, n :: r => wholeB l m n && riseB m (n + 1) r
def q_is_rising : List Vd → Vd → Prop := fun a z => ∃ ns l m, a = [.d (dI ns), .d (.int l), .d (.int m)] ∧ z = .d (.bool (riseB m l ns))
abbrev sp_is_rising : Sp := spP q_is_rising
theorem e_is_rising {ns : List Int} {l m : Int} (h : EvA dr ta δ [.d (dI ns), .d (.int l), .d (.int m)]) : Ev dr (tCall sp_is_rising [] C8.E0 ta) δ (.d (.bool (riseB m l ns))) := ev_call h ⟨_, _, _, rfl, rfl⟩
abbrev s_is_rising : Stmt := Hd.top 7
abbrev N_is_rising : List Str := ["thing", "least", "most", "last", "one"]
theorem nd_is_rising : N_is_rising.Nodup := by decide +kernel
theorem sc_is_rising : C8.scC N_is_rising ["thing", "least", "most"] (C8.fnScope s_is_rising) = true := by decide +kernel
def t_is_rising (K : PySem.W.Frag) : TS :=
  (tSeq (tIfS (tNot (tB (tCall sp_is_row [] C8.E0 (tCons (tVar 0) tNil)))) (tSeq (tRet (tC (.bl false)))
  tNext) tNext)
  (tSeq (tAsg (tOp oSub (tVar 1) (tC (.int 1))) (gName 3))
  (tSeq (tFor (iTup K (tVar 0)) (gName 4) (tSeq (tIfS (tNot (tB (tCall sp_is_whole [] C8.E0 (tCons (tVar 4) (tCons (tOp oAdd (tVar 3) (tC (.int 1))) (tCons (tVar 2) tNil)))))) (tSeq (tRet (tC (.bl false)))
  tNext) tNext)
  (tSeq (tAsg (tVar 4) (gName 3))
  tNext)))
  (tSeq (tRet (tC (.bl true)))
  tNext))))
theorem d_is_rising {P : Program} {w : World} {K : PySem.W.Frag} {mg : Str → Option Value} {base : Heap} (T : Top K mg) (f : Addr) (cdv : Value) (A : Around) (outer : List Env) (s : Shared) (H : Hp) (E : XK)
    (hr : Room 1 (A.deeper (PyProof.Rows.envOfC "is_rising" (C8.fnScope s_is_rising) s.heap.objs.size f cdv))) :
    PSs (cxOf C8.CX0 P w K mg base N_is_rising "is_rising" (C8.fnScope s_is_rising) f cdv A outer s H E).nox (C8.fnBody s_is_rising) (t_is_rising K) :=
  (pss_cons (ps_if (pt_not (pt_val (C8.pe_c (c_is_row T) hr (by decide) rfl (pa_cons (pv 0) pa_nil)))) (pss_cons (ps_ret pe_bl)
  pss_nil) pss_nil)
  (pss_cons (ps_set (i := 3) nd_is_rising rfl (by first | exact Or.inl rfl | exact Or.inr rfl) (pe_op op_sub (pv 1) pe_int))
  (pss_cons (ps_for PassesOwn.never rfl (pi_tup (pv 0)) (pg_name (i := 4) nd_is_rising rfl (by first | exact Or.inl rfl | exact Or.inr rfl)) (pss_cons (ps_if (pt_not (pt_val (C8.pe_c (c_is_whole T) hr (by decide) rfl (pa_cons (pv 4) (pa_cons (pe_op op_add (pv 3) pe_int) (pa_cons (pv 2) pa_nil)))))) (pss_cons (ps_ret pe_bl)
  pss_nil) pss_nil)
  (pss_cons (ps_set (i := 3) nd_is_rising rfl (by first | exact Or.inl rfl | exact Or.inr rfl) (pv 4))
  pss_nil)))
  (pss_cons (ps_ret pe_bl)
  pss_nil))))
theorem c_is_rising (T : Top K mg) : C8.Cal P w K mg base 2 "is_rising" sp_is_rising [] := by
  refine cal_of T.f_is_rising sc_is_rising (t_is_rising K) (fun zs z h => ?_) (fun f cdv A outer s H E hr => d_is_rising T f cdv A outer s H E hr) (fun dr B E zs z hp hB hR hN => ?_)
  · obtain ⟨_, _, _, rfl, _⟩ := h; rfl
  obtain ⟨ns, l, m, rfl, rfl⟩ := hp
  refine w_if hB (et_not (et_B (e_is_row (ea_cons (ev_var rfl) ea_nil)))) (fun hb => ?_) (fun hb => ?_)
  · simp [rowB, dI] at hb
  refine w_nx ?_
  refine w_asg hB (ev_op (ev_var rfl) ev_int (rr_I0 fun _ => .int _)) ?_
  refine w_forT ns PyData.int (fun i δ' => ∃ c last, δ' = [.d (dI ns), .d (.int l), .d (.int m), .d (.int last), c] ∧ riseB m l ns = riseB m (last + 1) (ns.drop i)) hB (ev_var rfl) ⟨_, _, rfl, ?_⟩ (fun B' hB' hb' mu i a δ' ha hI => ?_) (fun δ' hI => ?_)
  · have e : l - 1 + 1 = l := by omega
    rw [e, List.drop_zero]
  · obtain ⟨c, last, rfl, hl⟩ := hI
    have hd : ns.drop i = a :: ns.drop (i + 1) := by
      obtain ⟨h1, h2⟩ := List.getElem?_eq_some_iff.mp ha
      rw [← h2, List.drop_eq_getElem_cons h1]
    rw [hd] at hl
    refine w_if hB' (et_not (et_B (e_is_whole (ea_cons (ev_var rfl) (ea_cons (ev_op (ev_var rfl) ev_int (rr_I0 fun _ => .int _)) (ea_cons (ev_var rfl) ea_nil)))))) (fun hb => ?_) (fun hb => ?_)
    · refine w_ret hB' ev_bl (fun v H' b j h => hR v H' (hb' H' b) j ?_)
      have e : riseB m l ns = false := by
        rw [hl]; simp only [riseB]
        have : wholeB (last + 1) m a = false := by simpa using hb
        rw [this]; rfl
      rw [e]; exact h
    refine w_nx ?_
    refine w_asg hB' (ev_var rfl) ?_
    refine w_end ⟨_, _, rfl, ?_⟩
    rw [hl]; simp only [riseB]
    have : wholeB (last + 1) m a = true := by simpa using hb
    rw [this]; rfl
  · obtain ⟨c, last, rfl, hl⟩ := hI
    refine w_ret hB (Ev.is ev_bl ?_) hR
    rw [hl, List.drop_length]; rfl
end
end Ed
end
section
set_option maxHeartbeats 4000000
namespace Ed
open PySem L2
local macro_rules | `(tactic| nested_key) => `(tactic| first
  | rfl
  | assumption
  | omega
  | exact Nat.le_of_ble_eq_true rfl
  | decide
  | (simp only [List.length_map, small]; omega)
  | (simp [small]; done)
  | (simp only [Vd.sd, setAll, List.set, mutAll, okm, Fr] at *; simp_all; done))

section
variable {P : Program} {w : World} {K : PySem.W.Frag} {mg : Str → Option Value} {base : Heap} {dr : Option Addr} {δ : List Sd} {ta : TA}

/-! is_day -/
def dayB (many : Int) (ns : List Int) : Bool := riseB (many - 1) 0 ns && decide ((ns.length : Int) ≤ 2)
def q_is_day : List Vd → Vd → Prop := fun a z => ∃ m ns, a = [.d (.int m), .d (dI ns)] ∧ z = .d (.bool (dayB m ns))
abbrev sp_is_day : Sp := spP q_is_day
theorem e_is_day {m : Int} {ns : List Int} (h : EvA dr ta δ [.d (.int m), .d (dI ns)]) : Ev dr (tCall sp_is_day [] C8.E0 ta) δ (.d (.bool (dayB m ns))) := ev_call h ⟨_, _, rfl, rfl⟩
abbrev s_is_day : Stmt := Hd.top 12
abbrev N_is_day : List Str := ["many", "thing"]
theorem nd_is_day : N_is_day.Nodup := by decide +kernel
theorem sc_is_day : C8.scC N_is_day ["many", "thing"] (C8.fnScope s_is_day) = true := by decide +kernel
def t_is_day (K : PySem.W.Frag) : TS :=
  (tSeq (tRet (tAndV (tCall sp_is_rising [] C8.E0 (tCons (tVar 1) (tCons (tC (.int 0)) (tCons (tOp oSub (tVar 0) (tC (.int 1))) tNil)))) (tOp oLe (tCB (rLen K) (tCons (tVar 1) tNil)) (tC (.int 2)))))
  tNext)
theorem d_is_day {P : Program} {w : World} {K : PySem.W.Frag} {mg : Str → Option Value} {base : Heap} (T : Top K mg) (f : Addr) (cdv : Value) (A : Around) (outer : List Env) (s : Shared) (H : Hp) (E : XK)
    (hr : Room 2 (A.deeper (PyProof.Rows.envOfC "is_day" (C8.fnScope s_is_day) s.heap.objs.size f cdv))) :
    PSs (cxOf C8.CX0 P w K mg base N_is_day "is_day" (C8.fnScope s_is_day) f cdv A outer s H E).nox (C8.fnBody s_is_day) (t_is_day K) :=
  (pss_cons (ps_ret (pe_and (C8.pe_c (c_is_rising T) hr (by decide) rfl (pa_cons (pv 1) (pa_cons pe_int (pa_cons (pe_op op_sub (pv 0) pe_int) pa_nil)))) (pe_one (pe_cmpR op_le (pe_callB cr_len (by rfl) T.n_len bt_len (pa_cons (pv 1) pa_nil)) (C8.pe_gc (v := .int 2) rfl T.c_MOST_ON_A_DAY) (nomark _)))))
  pss_nil)
theorem c_is_day (T : Top K mg) : C8.Cal P w K mg base 3 "is_day" sp_is_day [] := by
  refine cal_of T.f_is_day sc_is_day (t_is_day K) (fun zs z h => ?_) (fun f cdv A outer s H E hr => d_is_day T f cdv A outer s H E hr) (fun dr B E zs z hp hB hR hN => ?_)
  · obtain ⟨_, _, rfl, _⟩ := h; rfl
  obtain ⟨m, ns, rfl, rfl⟩ := hp
  refine w_ret hB (Ev.is (ev_andV (e_is_rising (ea_cons (ev_var rfl) (ea_cons ev_int (ea_cons (ev_op (ev_var rfl) ev_int (rr_I0 fun _ => .int _)) ea_nil)))) fun _ => (ev_op (ev_cb (ea_cons (ev_var rfl) ea_nil) rc_lenT) ev_int (rr_I0 fun _ => .bl _))) ?_) hR
  simp [dayB]

/-! are_days -/
def daysB (many : Int) (ds : List (List Int)) : Bool := decide ((ds.length : Int) ≤ 4000) && ds.all (dayB many)
def q_are_days : List Vd → Vd → Prop := fun a z => ∃ m ds, a = [.d (.int m), .d (dII ds)] ∧ z = .d (.bool (daysB m ds))
abbrev sp_are_days : Sp := spP q_are_days
theorem e_are_days {m : Int} {ds : List (List Int)} (h : EvA dr ta δ [.d (.int m), .d (dII ds)]) : Ev dr (tCall sp_are_days [] C8.E0 ta) δ (.d (.bool (daysB m ds))) := ev_call h ⟨_, _, rfl, rfl⟩
abbrev s_are_days : Stmt := Hd.top 13
abbrev N_are_days : List Str := ["many", "thing", "day"]
theorem nd_are_days : N_are_days.Nodup := by decide +kernel
theorem sc_are_days : C8.scC N_are_days ["many", "thing"] (C8.fnScope s_are_days) = true := by decide +kernel
def t_are_days (K : PySem.W.Frag) : TS :=
  (tSeq (tIfS (tOr (tNot (tB (tCall sp_is_row [] C8.E0 (tCons (tVar 1) tNil)))) (tTest (tOp oGt (tCB (rLen K) (tCons (tVar 1) tNil)) (tC (.int 4000))))) (tSeq (tRet (tC (.bl false)))
  tNext) tNext)
  (tSeq (tRet (tOp (rEqD K) (tLc (iTup K (tVar 1)) (gName 2) (tNot (tB (tCall sp_is_day [] C8.E0 (tCons (tVar 0) (tCons (tVar 2) tNil))))) (tVar 2) [2]) (tLst tNil)))
  tNext))
theorem d_are_days {P : Program} {w : World} {K : PySem.W.Frag} {mg : Str → Option Value} {base : Heap} (T : Top K mg) (f : Addr) (cdv : Value) (A : Around) (outer : List Env) (s : Shared) (H : Hp) (E : XK)
    (hr : Room 3 (A.deeper (PyProof.Rows.envOfC "are_days" (C8.fnScope s_are_days) s.heap.objs.size f cdv))) :
    PSs (cxOf C8.CX0 P w K mg base N_are_days "are_days" (C8.fnScope s_are_days) f cdv A outer s H E).nox (C8.fnBody s_are_days) (t_are_days K) :=
  (pss_cons (ps_if (PW.pt (pw_or (pt_not (pt_val (C8.pe_c (c_is_row T) hr (by decide) rfl (pa_cons (pv 1) pa_nil)))) (pw_or1 (pt_cmpR op_gt (pe_callB cr_len (by rfl) T.n_len bt_len (pa_cons (pv 1) pa_nil)) (C8.pe_gc (v := .int 4000) rfl T.c_LONGEST) (nomark _))))) (pss_cons (ps_ret pe_bl)
  pss_nil) pss_nil)
  (pss_cons (ps_ret (pe_cmpR (op_eqD hr.units) (pe_lc (own := [("day", 2)]) (g := gName 2) rfl nd_are_days (pi_tup (pv 1)) (blkOk_by (N := N_are_days) (sc := C8.fnScope s_are_days) (by decide +kernel)) (fun _ _ _ _ _ => pg_name (i := 2) nd_are_days rfl (by first | exact Or.inl rfl | exact Or.inr rfl)) (fun _ _ _ _ _ => pts_one (pt_not (pt_val (C8.pe_c (c_is_day T) hr (by decide) rfl (pa_cons (pv 0) (pa_cons (pv 2) pa_nil)))))) (fun _ _ _ _ _ => (pv 2))) (pe_lst pa_nil) (nomark _)))
  pss_nil))
theorem c_are_days (T : Top K mg) : C8.Cal P w K mg base 4 "are_days" sp_are_days [] := by
  refine cal_of T.f_are_days sc_are_days (t_are_days K) (fun zs z h => ?_) (fun f cdv A outer s H E hr => d_are_days T f cdv A outer s H E hr) (fun dr B E zs z hp hB hR hN => ?_)
  · obtain ⟨_, _, rfl, _⟩ := h; rfl
  obtain ⟨m, ds, rfl, rfl⟩ := hp
  refine w_if hB (et_or (et_not (et_B (e_is_row (ea_cons (ev_var rfl) ea_nil)))) fun _ => (et_test (ev_op (ev_cb (ea_cons (ev_var rfl) ea_nil) rc_lenT) ev_int (rr_I0 fun _ => .bl _)))) (fun hb => ?_) (fun hb => ?_)
  · refine w_ret hB (Ev.is ev_bl ?_) hR
    simp [rowB, dII] at hb
    simp only [daysB, Vd.d.injEq, PyData.bool.injEq]
    rw [decide_eq_false (by omega)]; rfl
  have hl : ds.length ≤ 4000 := by simp [rowB, dII] at hb; omega
  refine w_nx ?_
  refine w_ret hB (Ev.is (ev_op (en_lcT ds dI _ _ (ev_var rfl) (by nested_key) (by simp) (fun a ha => (et_not (et_B (e_is_day (ea_cons (ev_var rfl) (ea_cons (ev_var rfl) ea_nil)))))) (fun a ha hf => (ev_var rfl))).ev (en_lst ead_nil (by nested_key)).ev (rr_eqNil (shaped_ld _))) ?_) hR
  rw [isEmpty_filter]
  simp only [daysB, Bool.not_not, Vd.d.injEq, PyData.bool.injEq]
  rw [decide_eq_true (by omega)]; rfl

/-! is_ring -/
def ringB (many : Int) (ds : List (List Int)) : Bool := daysB many ds && decide (0 < (ds.length : Int))
def q_is_ring : List Vd → Vd → Prop := fun a z => ∃ m ds, a = [.d (.int m), .d (dII ds)] ∧ z = .d (.bool (ringB m ds))
abbrev sp_is_ring : Sp := spP q_is_ring
theorem e_is_ring {m : Int} {ds : List (List Int)} (h : EvA dr ta δ [.d (.int m), .d (dII ds)]) : Ev dr (tCall sp_is_ring [] C8.E0 ta) δ (.d (.bool (ringB m ds))) := ev_call h ⟨_, _, rfl, rfl⟩
abbrev s_is_ring : Stmt := Hd.top 14
abbrev N_is_ring : List Str := ["many", "thing"]
theorem nd_is_ring : N_is_ring.Nodup := by decide +kernel
theorem sc_is_ring : C8.scC N_is_ring ["many", "thing"] (C8.fnScope s_is_ring) = true := by decide +kernel
def t_is_ring (K : PySem.W.Frag) : TS :=
  (tSeq (tRet (tAndV (tCall sp_are_days [] C8.E0 (tCons (tVar 0) (tCons (tVar 1) tNil))) (tOp oGt (tCB (rLen K) (tCons (tVar 1) tNil)) (tC (.int 0)))))
  tNext)
theorem d_is_ring {P : Program} {w : World} {K : PySem.W.Frag} {mg : Str → Option Value} {base : Heap} (T : Top K mg) (f : Addr) (cdv : Value) (A : Around) (outer : List Env) (s : Shared) (H : Hp) (E : XK)
    (hr : Room 4 (A.deeper (PyProof.Rows.envOfC "is_ring" (C8.fnScope s_is_ring) s.heap.objs.size f cdv))) :
    PSs (cxOf C8.CX0 P w K mg base N_is_ring "is_ring" (C8.fnScope s_is_ring) f cdv A outer s H E).nox (C8.fnBody s_is_ring) (t_is_ring K) :=
  (pss_cons (ps_ret (pe_and (C8.pe_c (c_are_days T) hr (by decide) rfl (pa_cons (pv 0) (pa_cons (pv 1) pa_nil))) (pe_one (pe_cmpR op_gt (pe_callB cr_len (by rfl) T.n_len bt_len (pa_cons (pv 1) pa_nil)) pe_int (nomark _)))))
  pss_nil)
theorem c_is_ring (T : Top K mg) : C8.Cal P w K mg base 5 "is_ring" sp_is_ring [] := by
  refine cal_of T.f_is_ring sc_is_ring (t_is_ring K) (fun zs z h => ?_) (fun f cdv A outer s H E hr => d_is_ring T f cdv A outer s H E hr) (fun dr B E zs z hp hB hR hN => ?_)
  · obtain ⟨_, _, rfl, _⟩ := h; rfl
  obtain ⟨m, ds, rfl, rfl⟩ := hp
  refine w_ret hB (Ev.is (ev_andV (e_are_days (ea_cons (ev_var rfl) (ea_cons (ev_var rfl) ea_nil))) fun _ => (ev_op (ev_cb (ea_cons (ev_var rfl) ea_nil) rc_lenT) ev_int (rr_I0 fun _ => .bl _))) ?_) hR
  simp [ringB, dII]

/-! is_numbers -/
def numsP (ns : List Int) : Prop := ns.length ≤ 8 ∧ ∀ n ∈ ns, 1 ≤ n ∧ n ≤ 40
def q_is_numbers : List Vd → Vd → Prop := fun a z => ∃ ns, a = [.d (dI ns)] ∧ numsP ns ∧ z = .d (.bool true)
abbrev sp_is_numbers : Sp := spP q_is_numbers
theorem e_is_numbers {ns : List Int} (h : EvA dr ta δ [.d (dI ns)]) (hn : numsP ns) : Ev dr (tCall sp_is_numbers [] C8.E0 ta) δ (.d (.bool true)) := ev_call h ⟨_, rfl, hn, rfl⟩
abbrev s_is_numbers : Stmt := Hd.top 18
abbrev N_is_numbers : List Str := ["thing", "one"]
theorem nd_is_numbers : N_is_numbers.Nodup := by decide +kernel
theorem sc_is_numbers : C8.scC N_is_numbers ["thing"] (C8.fnScope s_is_numbers) = true := by decide +kernel
def t_is_numbers (K : PySem.W.Frag) : TS :=
  (tSeq (tIfS (tOr (tNot (tB (tCall sp_is_row [] C8.E0 (tCons (tVar 0) tNil)))) (tTest (tOp oGt (tCB (rLen K) (tCons (tVar 0) tNil)) (tC (.int 8))))) (tSeq (tRet (tC (.bl false)))
  tNext) tNext)
  (tSeq (tRet (tOp (rEqD K) (tLc (iTup K (tVar 0)) (gName 1) (tNot (tB (tCall sp_is_whole [] C8.E0 (tCons (tVar 1) (tCons (tC (.int 1)) (tCons (tC (.int 40)) tNil)))))) (tVar 1) [1]) (tLst tNil)))
  tNext))
theorem d_is_numbers {P : Program} {w : World} {K : PySem.W.Frag} {mg : Str → Option Value} {base : Heap} (T : Top K mg) (f : Addr) (cdv : Value) (A : Around) (outer : List Env) (s : Shared) (H : Hp) (E : XK)
    (hr : Room 1 (A.deeper (PyProof.Rows.envOfC "is_numbers" (C8.fnScope s_is_numbers) s.heap.objs.size f cdv))) :
    PSs (cxOf C8.CX0 P w K mg base N_is_numbers "is_numbers" (C8.fnScope s_is_numbers) f cdv A outer s H E).nox (C8.fnBody s_is_numbers) (t_is_numbers K) :=
  (pss_cons (ps_if (PW.pt (pw_or (pt_not (pt_val (C8.pe_c (c_is_row T) hr (by decide) rfl (pa_cons (pv 0) pa_nil)))) (pw_or1 (pt_cmpR op_gt (pe_callB cr_len (by rfl) T.n_len bt_len (pa_cons (pv 0) pa_nil)) (C8.pe_gc (v := .int 8) rfl T.c_MOST_THINGS) (nomark _))))) (pss_cons (ps_ret pe_bl)
  pss_nil) pss_nil)
  (pss_cons (ps_ret (pe_cmpR (op_eqD hr.units) (pe_lc (own := [("one", 1)]) (g := gName 1) rfl nd_is_numbers (pi_tup (pv 0)) (blkOk_by (N := N_is_numbers) (sc := C8.fnScope s_is_numbers) (by decide +kernel)) (fun _ _ _ _ _ => pg_name (i := 1) nd_is_numbers rfl (by first | exact Or.inl rfl | exact Or.inr rfl)) (fun _ _ _ _ _ => pts_one (pt_not (pt_val (C8.pe_c (c_is_whole T) hr (by decide) rfl (pa_cons (pv 1) (pa_cons pe_int (pa_cons (C8.pe_gc (v := .int 40) rfl T.c_GREATEST) pa_nil))))))) (fun _ _ _ _ _ => (pv 1))) (pe_lst pa_nil) (nomark _)))
  pss_nil))
theorem c_is_numbers (T : Top K mg) : C8.Cal P w K mg base 2 "is_numbers" sp_is_numbers [] := by
  refine cal_of T.f_is_numbers sc_is_numbers (t_is_numbers K) (fun zs z h => ?_) (fun f cdv A outer s H E hr => d_is_numbers T f cdv A outer s H E hr) (fun dr B E zs z hp hB hR hN => ?_)
  · obtain ⟨_, rfl, _⟩ := h; rfl
  obtain ⟨ns, rfl, ⟨hl, hn⟩, rfl⟩ := hp
  refine w_if hB (et_or (et_not (et_B (e_is_row (ea_cons (ev_var rfl) ea_nil)))) fun _ => (et_test (ev_op (ev_cb (ea_cons (ev_var rfl) ea_nil) rc_lenT) ev_int (rr_I0 fun _ => .bl _)))) (fun hb => ?_) (fun hb => ?_)
  · simp [rowB, dI] at hb; omega
  refine w_nx ?_
  refine w_ret hB (Ev.is (ev_op (en_lcT ns PyData.int _ _ (ev_var rfl) (by nested_key) (by simp) (fun a ha => (et_not (et_B (e_is_whole (ea_cons (ev_var rfl) (ea_cons ev_int (ea_cons ev_int ea_nil))))))) (fun a ha hf => (ev_var rfl))).ev (en_lst ead_nil (by nested_key)).ev (rr_eqNil (shaped_li _))) ?_) hR
  rw [isEmpty_filter]
  simp only [Bool.not_not, Vd.d.injEq, PyData.bool.injEq, List.all_eq_true]
  intro a ha
  have := hn a ha
  simp [wholeB, this]

/-! is_off -/
def offP (ns : List Int) : Prop := 1 ≤ ns.length ∧ ns.length ≤ 7 ∧ ∀ n ∈ ns, n = 0 ∨ n = 1
def q_is_off : List Vd → Vd → Prop := fun a z => ∃ ns, a = [.d (dI ns)] ∧ offP ns ∧ z = .d (.bool true)
abbrev sp_is_off : Sp := spP q_is_off
theorem e_is_off {ns : List Int} (h : EvA dr ta δ [.d (dI ns)]) (hn : offP ns) : Ev dr (tCall sp_is_off [] C8.E0 ta) δ (.d (.bool true)) := ev_call h ⟨_, rfl, hn, rfl⟩
abbrev s_is_off : Stmt := Hd.top 23
abbrev N_is_off : List Str := ["thing", "one"]
theorem nd_is_off : N_is_off.Nodup := by decide +kernel
theorem sc_is_off : C8.scC N_is_off ["thing"] (C8.fnScope s_is_off) = true := by decide +kernel
def t_is_off (K : PySem.W.Frag) : TS :=
  (tSeq (tIfS (tOr (tNot (tB (tCall sp_is_row [] C8.E0 (tCons (tVar 0) tNil)))) (tOr (tTest (tOp oLt (tCB (rLen K) (tCons (tVar 0) tNil)) (tC (.int 1)))) (tTest (tOp oGt (tCB (rLen K) (tCons (tVar 0) tNil)) (tC (.int 7)))))) (tSeq (tRet (tC (.bl false)))
  tNext) tNext)
  (tSeq (tRet (tOp (rEqD K) (tLc (iTup K (tVar 0)) (gName 1) (tNot (tB (tCall sp_is_whole [] C8.E0 (tCons (tVar 1) (tCons (tC (.int 0)) (tCons (tC (.int 1)) tNil)))))) (tVar 1) [1]) (tLst tNil)))
  tNext))
theorem d_is_off {P : Program} {w : World} {K : PySem.W.Frag} {mg : Str → Option Value} {base : Heap} (T : Top K mg) (f : Addr) (cdv : Value) (A : Around) (outer : List Env) (s : Shared) (H : Hp) (E : XK)
    (hr : Room 1 (A.deeper (PyProof.Rows.envOfC "is_off" (C8.fnScope s_is_off) s.heap.objs.size f cdv))) :
    PSs (cxOf C8.CX0 P w K mg base N_is_off "is_off" (C8.fnScope s_is_off) f cdv A outer s H E).nox (C8.fnBody s_is_off) (t_is_off K) :=
  (pss_cons (ps_if (PW.pt (pw_or (pt_not (pt_val (C8.pe_c (c_is_row T) hr (by decide) rfl (pa_cons (pv 0) pa_nil)))) (pw_or (pt_cmpR op_lt (pe_callB cr_len (by rfl) T.n_len bt_len (pa_cons (pv 0) pa_nil)) pe_int (nomark _)) (pw_or1 (pt_cmpR op_gt (pe_callB cr_len (by rfl) T.n_len bt_len (pa_cons (pv 0) pa_nil)) (C8.pe_gc (v := .int 7) rfl T.c_MOST_OFF) (nomark _)))))) (pss_cons (ps_ret pe_bl)
  pss_nil) pss_nil)
  (pss_cons (ps_ret (pe_cmpR (op_eqD hr.units) (pe_lc (own := [("one", 1)]) (g := gName 1) rfl nd_is_off (pi_tup (pv 0)) (blkOk_by (N := N_is_off) (sc := C8.fnScope s_is_off) (by decide +kernel)) (fun _ _ _ _ _ => pg_name (i := 1) nd_is_off rfl (by first | exact Or.inl rfl | exact Or.inr rfl)) (fun _ _ _ _ _ => pts_one (pt_not (pt_val (C8.pe_c (c_is_whole T) hr (by decide) rfl (pa_cons (pv 1) (pa_cons pe_int (pa_cons pe_int pa_nil))))))) (fun _ _ _ _ _ => (pv 1))) (pe_lst pa_nil) (nomark _)))
  pss_nil))
theorem c_is_off (T : Top K mg) : C8.Cal P w K mg base 2 "is_off" sp_is_off [] := by
  refine cal_of T.f_is_off sc_is_off (t_is_off K) (fun zs z h => ?_) (fun f cdv A outer s H E hr => d_is_off T f cdv A outer s H E hr) (fun dr B E zs z hp hB hR hN => ?_)
  · obtain ⟨_, rfl, _⟩ := h; rfl
  obtain ⟨ns, rfl, ⟨hl, hl7, hn⟩, rfl⟩ := hp
  refine w_if hB (et_or (et_not (et_B (e_is_row (ea_cons (ev_var rfl) ea_nil)))) fun _ => (et_or (et_test (ev_op (ev_cb (ea_cons (ev_var rfl) ea_nil) rc_lenT) ev_int (rr_I0 fun _ => .bl _))) fun _ => (et_test (ev_op (ev_cb (ea_cons (ev_var rfl) ea_nil) rc_lenT) ev_int (rr_I0 fun _ => .bl _))))) (fun hb => ?_) (fun hb => ?_)
  · simp [rowB, dI] at hb; omega
  refine w_nx ?_
  refine w_ret hB (Ev.is (ev_op (en_lcT ns PyData.int _ _ (ev_var rfl) (by nested_key) (by simp) (fun a ha => (et_not (et_B (e_is_whole (ea_cons (ev_var rfl) (ea_cons ev_int (ea_cons ev_int ea_nil))))))) (fun a ha hf => (ev_var rfl))).ev (en_lst ead_nil (by nested_key)).ev (rr_eqNil (shaped_li _))) ?_) hR
  rw [isEmpty_filter]
  simp only [Bool.not_not, Vd.d.injEq, PyData.bool.injEq, List.all_eq_true]
  intro a ha
  rcases hn a ha with rfl | rfl <;> rfl

/-! is_pair -/
def pairB (n : Int) (p : Int × Int) : Bool := riseB (n - 1) 0 [p.1, p.2]
def q_is_pair : List Vd → Vd → Prop := fun a z => ∃ p n, a = [.d (pr p), .d (.int n)] ∧ z = .d (.bool (pairB n p))
abbrev sp_is_pair : Sp := spP q_is_pair
theorem e_is_pair {p : Int × Int} {n : Int} (h : EvA dr ta δ [.d (pr p), .d (.int n)]) : Ev dr (tCall sp_is_pair [] C8.E0 ta) δ (.d (.bool (pairB n p))) := ev_call h ⟨_, _, rfl, rfl⟩
abbrev s_is_pair : Stmt := Hd.top 24
abbrev N_is_pair : List Str := ["thing", "many"]
theorem nd_is_pair : N_is_pair.Nodup := by decide +kernel
theorem sc_is_pair : C8.scC N_is_pair ["thing", "many"] (C8.fnScope s_is_pair) = true := by decide +kernel
def t_is_pair (K : PySem.W.Frag) : TS :=
  (tSeq (tRet (tAndV (tCall sp_is_rising [] C8.E0 (tCons (tVar 0) (tCons (tC (.int 0)) (tCons (tOp oSub (tVar 1) (tC (.int 1))) tNil)))) (tOp rEq (tCB (rLen K) (tCons (tVar 0) tNil)) (tC (.int 2)))))
  tNext)
theorem d_is_pair {P : Program} {w : World} {K : PySem.W.Frag} {mg : Str → Option Value} {base : Heap} (T : Top K mg) (f : Addr) (cdv : Value) (A : Around) (outer : List Env) (s : Shared) (H : Hp) (E : XK)
    (hr : Room 2 (A.deeper (PyProof.Rows.envOfC "is_pair" (C8.fnScope s_is_pair) s.heap.objs.size f cdv))) :
    PSs (cxOf C8.CX0 P w K mg base N_is_pair "is_pair" (C8.fnScope s_is_pair) f cdv A outer s H E).nox (C8.fnBody s_is_pair) (t_is_pair K) :=
  (pss_cons (ps_ret (pe_and (C8.pe_c (c_is_rising T) hr (by decide) rfl (pa_cons (pv 0) (pa_cons pe_int (pa_cons (pe_op op_sub (pv 1) pe_int) pa_nil)))) (pe_one (pe_cmpR op_eq (pe_callB cr_len (by rfl) T.n_len bt_len (pa_cons (pv 0) pa_nil)) pe_int (nomark _)))))
  pss_nil)
theorem c_is_pair (T : Top K mg) : C8.Cal P w K mg base 3 "is_pair" sp_is_pair [] := by
  refine cal_of T.f_is_pair sc_is_pair (t_is_pair K) (fun zs z h => ?_) (fun f cdv A outer s H E hr => d_is_pair T f cdv A outer s H E hr) (fun dr B E zs z hp hB hR hN => ?_)
  · obtain ⟨_, _, rfl, _⟩ := h; rfl
  obtain ⟨p, n, rfl, rfl⟩ := hp
  refine w_ret hB (Ev.is (ev_andV (e_is_rising (ns := [p.1, p.2]) (ea_cons (ev_var rfl) (ea_cons ev_int (ea_cons (ev_op (ev_var rfl) ev_int (rr_I0 fun _ => .int _)) ea_nil)))) fun _ => (ev_op (ev_cb (ea_cons (ev_var rfl) ea_nil) rc_lenT) ev_int rr_eqI)) ?_) hR
  simp [pairB]

/-! told_rows -/
def okT : Nat → PyData → Prop
  | n + 1, .tuple ds => ds.length < 1000000 ∧ ∀ e ∈ ds, okT n e
  | _, .tuple _ => False
  | _, .list _ => False
  | _, .dict _ => False
  | _, _ => True
def q_told (n : Nat) : List Vd → Vd → Prop := fun a z => ∃ d, a = [.d d] ∧ okT n d ∧ z = .d d
abbrev sp_told_rows : Sp := spP (q_told 5)
theorem e_told_rows {d : PyData} (h : EvA dr ta δ [.d d]) (hd : okT 5 d) : Ev dr (tCall sp_told_rows [] C8.E0 ta) δ (.d d) := ev_call h ⟨_, rfl, hd, rfl⟩
abbrev s_told_rows : Stmt := Hd.top 8
abbrev N_told_rows : List Str := ["thing", "one"]
theorem nd_told_rows : N_told_rows.Nodup := by decide +kernel
theorem sc_told_rows : C8.scC N_told_rows ["thing"] (C8.fnScope s_told_rows) = true := by decide +kernel
def t_told_rows (K : PySem.W.Frag) (sp : Sp) : TS :=
  (tSeq (tIfS (tB (tCall sp_is_row [] C8.E0 (tCons (tVar 0) tNil))) (tSeq (tRet (tCB (rTupOf K) (tCons (tLc (iTup K (tVar 0)) (gName 1) tYes (tCall sp [] C8.E0 (tCons (tVar 1) tNil)) [1]) tNil)))
  tNext) tNext)
  (tSeq (tRet (tVar 0))
  tNext))
theorem d_told_rows {P : Program} {w : World} {K : PySem.W.Frag} {mg : Str → Option Value} {base : Heap} (T : Top K mg) {k : Nat} {sp : Sp} (hk : 1 ≤ k) (c : C8.Cal P w K mg base k "told_rows" sp []) (f : Addr) (cdv : Value) (A : Around) (outer : List Env) (s : Shared) (H : Hp) (E : XK)
    (hr : Room k (A.deeper (PyProof.Rows.envOfC "told_rows" (C8.fnScope s_told_rows) s.heap.objs.size f cdv))) :
    PSs (cxOf C8.CX0 P w K mg base N_told_rows "told_rows" (C8.fnScope s_told_rows) f cdv A outer s H E).nox (C8.fnBody s_told_rows) (t_told_rows K sp) :=
  (pss_cons (ps_if (pt_val (C8.pe_c (c_is_row T) hr hk rfl (pa_cons (pv 0) pa_nil))) (pss_cons (ps_ret (pe_callTy cr_tuple (by rfl) T.n_tuple bt_tuple (pa_cons (pe_lc (own := [("one", 1)]) (g := gName 1) rfl nd_told_rows (pi_tup (pv 0)) (blkOk_by (N := N_told_rows) (sc := C8.fnScope s_told_rows) (by decide +kernel)) (fun _ _ _ _ _ => pg_name (i := 1) nd_told_rows rfl (by first | exact Or.inl rfl | exact Or.inr rfl)) (fun _ _ _ _ _ => pts_nil) (fun _ _ _ _ _ => (C8.pe_c c hr (Nat.le_refl _) rfl (pa_cons (pv 1) pa_nil)))) pa_nil)))
  pss_nil) pss_nil)
  (pss_cons (ps_ret (pv 0))
  pss_nil))
theorem told_bot (T : Top K mg) : C8.Cal P w K mg base 1 "told_rows" (spP fun _ _ => False) [] :=
  cal_of T.f_told_rows sc_told_rows tNever (fun zs z h => h.elim) (fun f cdv A outer s H E hr => pss_never) (fun dr B E zs z hp hB hR hN => hp.elim)
theorem told_step (T : Top K mg) {k n : Nat} {pre : List Vd → Vd → Prop} (hk : 1 ≤ k) (c : C8.Cal P w K mg base k "told_rows" (spP pre) []) (hc : ∀ ds, okT n (.tuple ds) → ∀ d ∈ ds, pre [.d d] (.d d)) : C8.Cal P w K mg base (k + 1) "told_rows" (spP (q_told n)) [] := by
  refine cal_of T.f_told_rows sc_told_rows (t_told_rows K (spP pre)) (fun zs z h => ?_) (fun f cdv A outer s H E hr => d_told_rows T hk c f cdv A outer s H E hr) (fun dr B E zs z hp hB hR hN => ?_)
  · obtain ⟨_, rfl, _⟩ := h; rfl
  obtain ⟨d, rfl, hd, rfl⟩ := hp
  have hf : flatD d := by cases d <;> first | trivial | (cases n <;> exact hd)
  refine w_if hB (et_B (e_is_row (ea_cons (ev_var rfl) ea_nil) hf)) (fun hb => ?_) (fun hb => ?_)
  · cases d with
    | tuple ds =>
      have hl : ds.length < 1000000 := by cases n with
        | zero => exact hd.elim
        | succ n => exact hd.1
      refine w_ret hB (Ev.is (ev_cb (ea_cons (en_lcT ds (fun d => d) _ (fun d => d) (Ev.is (ev_var (d := .tuple ds) rfl) (by rw [List.map_id'])) hl (by simp) (fun a ha => et_yes) (fun a ha hf => (ev_call (ea_cons (ev_var rfl) ea_nil) (hc ds hd a ha)))).ev ea_nil) rc_tupL) ?_) hR
      simp
    | list ds => cases n <;> exact hd.elim
    | _ => simp [rowB] at hb
  · exact w_nx (w_ret hB (ev_var rfl) hR)
theorem told_at (T : Top K mg) : ∀ n, C8.Cal P w K mg base (n + 2) "told_rows" (spP (q_told n)) []
  | 0 => told_step T (by decide) (told_bot T) fun ds hd => hd.elim
  | n + 1 => told_step T (by omega) (told_at T n) fun ds hd d hm => ⟨d, rfl, hd.2 d hm, rfl⟩
theorem c_told_rows (T : Top K mg) : C8.Cal P w K mg base 7 "told_rows" sp_told_rows [] := told_at T 5
theorem okT_dI (n : Nat) (ns : List Int) (h : ns.length < 1000000) : okT (n + 1) (dI ns) := ⟨by rw [List.length_map]; exact h, fun e he => by
  obtain ⟨x, _, rfl⟩ := List.mem_map.mp he
  cases n <;> trivial⟩
theorem okT_map {α : Type} {n : Nat} {xs : List α} {f : α → PyData} (h : xs.length < 1000000) (hf : ∀ x ∈ xs, okT n (f x)) : okT (n + 1) (.tuple (xs.map f)) := ⟨by rw [List.length_map]; exact h, fun e he => by
  obtain ⟨x, hx, rfl⟩ := List.mem_map.mp he
  exact hf x hx⟩
end
end Ed
end
section
set_option maxHeartbeats 4000000
namespace Ed
open PySem L2
local macro_rules | `(tactic| nested_key) => `(tactic| first
  | rfl
  | assumption
  | omega
  | exact Nat.le_of_ble_eq_true rfl
  | decide
  | (simp only [List.length_map, small]; omega)
  | (simp [small]; done)
  | (simp only [Vd.sd, setAll, List.set, mutAll, okm, Fr] at *; simp_all; done))

section
variable {P : Program} {w : World} {K : PySem.W.Frag} {mg : Str → Option Value} {base : Heap} {dr : Option Addr} {δ : List Sd} {ta : TA}
theorem filt_true {α : Type} {xs : List α} {f : α → PyData} : ((xs.filter fun _ => true).map f) = xs.map f := by rw [List.filter_eq_self.mpr (fun _ _ => rfl)]
theorem getI {α : Type} {xs : List α} {i : Int} (h0 : 0 ≤ i) (h : i < xs.length) : xs[i.toNat]? = some (xs[i.toNat]'(by omega)) := by simp

/-! are_pairs -/
def pairsP (ps : List (Int × Int)) (n : Int) : Prop := ps.length ≤ 1000 ∧ (∀ p ∈ ps, pairB n p = true) ∧ ∀ (k : Nat) (p q : Int × Int), ps[k]? = some p → ps[k + 1]? = some q → geP p q = false
def q_are_pairs : List Vd → Vd → Prop := fun a z => ∃ ps n, a = [.d (.tuple (ps.map pr)), .d (.int n)] ∧ pairsP ps n ∧ z = .d (.bool true)
abbrev sp_are_pairs : Sp := spP q_are_pairs
theorem e_are_pairs {ps : List (Int × Int)} {n : Int} (h : EvA dr ta δ [.d (.tuple (ps.map pr)), .d (.int n)]) (hp : pairsP ps n) : Ev dr (tCall sp_are_pairs [] C8.E0 ta) δ (.d (.bool true)) := ev_call h ⟨_, _, rfl, hp, rfl⟩
theorem sh_prs (ps : List (Int × Int)) : SeqAt.shaped (.list (ps.map pr)) = true := (Sh.lst (n := 1) (Sh.map fun i => sh_dI _)).ok (by omega)
theorem okT_pr (p : Int × Int) (n : Nat) : okT (n + 1) (pr p) := okT_dI n _ (by show 2 < 1000000; decide)
abbrev s_are_pairs : Stmt := Hd.top 25
abbrev N_are_pairs : List Str := ["thing", "many", "pairs", "one", "k"]
theorem nd_are_pairs : N_are_pairs.Nodup := by decide +kernel
theorem sc_are_pairs : C8.scC N_are_pairs ["thing", "many"] (C8.fnScope s_are_pairs) = true := by decide +kernel
def t_are_pairs (K : PySem.W.Frag) : TS :=
  (tSeq (tIfS (tOr (tNot (tB (tCall sp_is_row [] C8.E0 (tCons (tVar 0) tNil)))) (tTest (tOp (rNeD K) (tLc (iTup K (tVar 0)) (gName 3) (tNot (tB (tCall sp_is_pair [] C8.E0 (tCons (tVar 3) (tCons (tVar 1) tNil))))) (tVar 3) [3]) (tLst tNil)))) (tSeq (tRet (tC (.bl false)))
  tNext) tNext)
  (tSeq (tAsg (tCall sp_told_rows [] C8.E0 (tCons (tVar 0) tNil)) (gName 2))
  (tSeq (tRet (tOp (rEqD K) (tLc (iRng2 (tCons (tC (.int 1)) (tCons (tCB (rLen K) (tCons (tVar 2) tNil)) tNil))) (gName 4) (tTest (tOp (rGeT K) (tOp (rIxT K) (tVar 2) (tOp oSub (tVar 4) (tC (.int 1)))) (tOp (rIxT K) (tVar 2) (tVar 4)))) (tVar 4) [4]) (tLst tNil)))
  tNext)))
theorem d_are_pairs {P : Program} {w : World} {K : PySem.W.Frag} {mg : Str → Option Value} {base : Heap} (T : Top K mg) (f : Addr) (cdv : Value) (A : Around) (outer : List Env) (s : Shared) (H : Hp) (E : XK)
    (hr : Room 7 (A.deeper (PyProof.Rows.envOfC "are_pairs" (C8.fnScope s_are_pairs) s.heap.objs.size f cdv))) :
    PSs (cxOf C8.CX0 P w K mg base N_are_pairs "are_pairs" (C8.fnScope s_are_pairs) f cdv A outer s H E).nox (C8.fnBody s_are_pairs) (t_are_pairs K) :=
  (pss_cons (ps_if (PW.pt (pw_or (pt_not (pt_val (C8.pe_c (c_is_row T) hr (by decide) rfl (pa_cons (pv 0) pa_nil)))) (pw_or1 (pt_cmpR (op_neD hr.units) (pe_lc (own := [("one", 3)]) (g := gName 3) rfl nd_are_pairs (pi_tup (pv 0)) (blkOk_by (N := N_are_pairs) (sc := C8.fnScope s_are_pairs) (by decide +kernel)) (fun _ _ _ _ _ => pg_name (i := 3) nd_are_pairs rfl (by first | exact Or.inl rfl | exact Or.inr rfl)) (fun _ _ _ _ _ => pts_one (pt_not (pt_val (C8.pe_c (c_is_pair T) hr (by decide) rfl (pa_cons (pv 3) (pa_cons (pv 1) pa_nil)))))) (fun _ _ _ _ _ => (pv 3))) (pe_lst pa_nil) (nomark _))))) (pss_cons (ps_ret pe_bl)
  pss_nil) pss_nil)
  (pss_cons (ps_set (i := 2) nd_are_pairs rfl (by first | exact Or.inl rfl | exact Or.inr rfl) (C8.pe_c (c_told_rows T) hr (by decide) rfl (pa_cons (pv 0) pa_nil)))
  (pss_cons (ps_ret (pe_cmpR (op_eqD hr.units) (pe_lc (own := [("k", 4)]) (g := gName 4) rfl nd_are_pairs (pi_range2 rfl T.n_range (pa_cons pe_int (pa_cons (pe_callB cr_len (by rfl) T.n_len bt_len (pa_cons (pv 2) pa_nil)) pa_nil))) (blkOk_by (N := N_are_pairs) (sc := C8.fnScope s_are_pairs) (by decide +kernel)) (fun _ _ _ _ _ => pg_name (i := 4) nd_are_pairs rfl (by first | exact Or.inl rfl | exact Or.inr rfl)) (fun _ _ _ _ _ => pts_one (pt_cmpR (op_geT hr.units0) (pe_ix ix_tup (pv 2) (pe_op op_sub (pv 4) pe_int) (fun _ _ => rfl)) (pe_ix ix_tup (pv 2) (pv 4) (fun _ _ => rfl)) (nomark _))) (fun _ _ _ _ _ => (pv 4))) (pe_lst pa_nil) (nomark _)))
  pss_nil)))
theorem c_are_pairs (T : Top K mg) : C8.Cal P w K mg base 8 "are_pairs" sp_are_pairs [] := by
  refine cal_of T.f_are_pairs sc_are_pairs (t_are_pairs K) (fun zs z h => ?_) (fun f cdv A outer s H E hr => d_are_pairs T f cdv A outer s H E hr) (fun dr B E zs z hp hB hR hN => ?_)
  · obtain ⟨_, _, rfl, _⟩ := h; rfl
  obtain ⟨ps, n, rfl, ⟨hl, h1, h2⟩, rfl⟩ := hp
  refine w_if hB (et_or (et_not (et_B (e_is_row (ea_cons (ev_var rfl) ea_nil)))) fun _ => (et_test (ev_op (en_lcT ps pr (fun p => !pairB n p) _ (ev_var rfl) (by omega) (by simp) (fun a ha => (et_not (et_B (e_is_pair (ea_cons (ev_var rfl) (ea_cons (ev_var rfl) ea_nil)))))) (fun a ha hf => (ev_var rfl))).ev (en_lst ead_nil (by nested_key)).ev (rr_neNil (sh_prs _))))) (fun hb => ?_) (fun hb => ?_)
  · rw [isEmpty_filter] at hb
    simp only [rowB, Bool.not_true, Bool.false_or, Bool.not_not, Bool.not_eq_true', List.all_eq_false, Bool.not_eq_true] at hb
    obtain ⟨p, hp, e⟩ := hb
    rw [h1 p hp] at e; simp at e
  refine w_nx ?_
  refine w_asg hB (e_told_rows (d := .tuple (ps.map pr)) (ea_cons (ev_var rfl) ea_nil) (okT_map (n := 4) (by omega) fun p _ => okT_pr p 3)) ?_
  refine w_ret hB (Ev.is (ev_op (en_lcR2 (fun _ => false) PyData.int (ea_cons ev_int (ea_cons (ev_cb (ea_cons (ev_var rfl) ea_nil) rc_lenT) ea_nil)) (by simp; omega) (by omega) (by decide) (by decide) (by simp) (fun i hi1 hi2 => ?_) (fun i hi1 hi2 hf => (ev_var rfl))).ev (en_lst ead_nil (by nested_key)).ev (rr_eqNil ?_)) ?_) hR
  · simp only [List.length_map] at hi2
    have g1 := getI (xs := ps) (i := i - 1) (by omega) (by omega)
    have g2 := getI (xs := ps) (i := i) (by omega) (by omega)
    refine (et_test (ev_op (ev_op (ev_var rfl) (ev_op (ev_var rfl) ev_int (rr_I0 fun _ => .int _)) (rr_ixT (at_map (f := pr) (by omega) g1))) (ev_op (ev_var rfl) (ev_var rfl) (rr_ixT (at_map (f := pr) (by omega) g2))) rr_geP)).is ?_
    have e : i.toNat = (i - 1).toNat + 1 := by omega
    exact h2 _ _ _ g1 (by rw [← e]; exact g2)
  · exact shaped_li _
  · simp

/-! is_task -/
structure TaskOk (t : Task) : Prop where
  num : numsP t.num
  hands : t.hands = 1 ∨ t.hands = 2
  off : offP t.off
  long : riseB (t.num.length - 1) 0 t.long = true
  ll : t.long.length ≤ 1000
  tied : pairsP t.tied t.num.length
def q_is_task : List Vd → Vd → Prop := fun a z => ∃ t : Task, a = [.d t.enc] ∧ TaskOk t ∧ z = .d (.bool true)
abbrev sp_is_task : Sp := spP q_is_task
theorem e_is_task {t : Task} (h : EvA dr ta δ [.d t.enc]) (hp : TaskOk t) : Ev dr (tCall sp_is_task [] C8.E0 ta) δ (.d (.bool true)) := ev_call h ⟨_, rfl, hp, rfl⟩
abbrev s_is_task : Stmt := Hd.top 26
abbrev N_is_task : List Str := ["thing", "numbers", "hands", "off", "long", "tied"]
theorem nd_is_task : N_is_task.Nodup := by decide +kernel
theorem sc_is_task : C8.scC N_is_task ["thing"] (C8.fnScope s_is_task) = true := by decide +kernel
def t_is_task (K : PySem.W.Frag) : TS :=
  (tSeq (tIfS (tOr (tNot (tB (tCall sp_is_row [] C8.E0 (tCons (tVar 0) tNil)))) (tTest (tOp rNe (tCB (rLen K) (tCons (tVar 0) tNil)) (tC (.int 5))))) (tSeq (tRet (tC (.bl false)))
  tNext) tNext)
  (tSeq (tAsg (tVar 0) (gTup K 5 (unp [1, 2, 3, 4, 5])))
  (tSeq (tIfS (tOr (tNot (tB (tCall sp_is_numbers [] C8.E0 (tCons (tVar 1) tNil)))) (tOr (tNot (tB (tCall sp_is_whole [] C8.E0 (tCons (tVar 2) (tCons (tC (.int 1)) (tCons (tC (.int 2)) tNil)))))) (tNot (tB (tCall sp_is_off [] C8.E0 (tCons (tVar 3) tNil)))))) (tSeq (tRet (tC (.bl false)))
  tNext) tNext)
  (tSeq (tRet (tAndV (tCall sp_is_rising [] C8.E0 (tCons (tVar 4) (tCons (tC (.int 0)) (tCons (tOp oSub (tCB (rLen K) (tCons (tVar 1) tNil)) (tC (.int 1))) tNil)))) (tCall sp_are_pairs [] C8.E0 (tCons (tVar 5) (tCons (tCB (rLen K) (tCons (tVar 1) tNil)) tNil)))))
  tNext))))
theorem d_is_task {P : Program} {w : World} {K : PySem.W.Frag} {mg : Str → Option Value} {base : Heap} (T : Top K mg) (f : Addr) (cdv : Value) (A : Around) (outer : List Env) (s : Shared) (H : Hp) (E : XK)
    (hr : Room 8 (A.deeper (PyProof.Rows.envOfC "is_task" (C8.fnScope s_is_task) s.heap.objs.size f cdv))) :
    PSs (cxOf C8.CX0 P w K mg base N_is_task "is_task" (C8.fnScope s_is_task) f cdv A outer s H E).nox (C8.fnBody s_is_task) (t_is_task K) :=
  (pss_cons (ps_if (PW.pt (pw_or (pt_not (pt_val (C8.pe_c (c_is_row T) hr (by decide) rfl (pa_cons (pv 0) pa_nil)))) (pw_or1 (pt_cmpR op_ne (pe_callB cr_len (by rfl) T.n_len bt_len (pa_cons (pv 0) pa_nil)) (C8.pe_gc (v := .int 5) rfl T.c_PARTS) (nomark _))))) (pss_cons (ps_ret pe_bl)
  pss_nil) pss_nil)
  (pss_cons (ps_asg (pv 0) (pg_tup (by rfl) (pgs_cons (pg_name (i := 1) nd_is_task rfl (by first | exact Or.inl rfl | exact Or.inr rfl)) (pgs_cons (pg_name (i := 2) nd_is_task rfl (by first | exact Or.inl rfl | exact Or.inr rfl)) (pgs_cons (pg_name (i := 3) nd_is_task rfl (by first | exact Or.inl rfl | exact Or.inr rfl)) (pgs_cons (pg_name (i := 4) nd_is_task rfl (by first | exact Or.inl rfl | exact Or.inr rfl)) (pgs_cons (pg_name (i := 5) nd_is_task rfl (by first | exact Or.inl rfl | exact Or.inr rfl)) pgs_nil)))))))
  (pss_cons (ps_if (PW.pt (pw_or (pt_not (pt_val (C8.pe_c (c_is_numbers T) hr (by decide) rfl (pa_cons (pv 1) pa_nil)))) (pw_or (pt_not (pt_val (C8.pe_c (c_is_whole T) hr (by decide) rfl (pa_cons (pv 2) (pa_cons pe_int (pa_cons (C8.pe_gc (v := .int 2) rfl T.c_MOST_HANDS) pa_nil)))))) (pw_or1 (pt_not (pt_val (C8.pe_c (c_is_off T) hr (by decide) rfl (pa_cons (pv 3) pa_nil)))))))) (pss_cons (ps_ret pe_bl)
  pss_nil) pss_nil)
  (pss_cons (ps_ret (pe_and (C8.pe_c (c_is_rising T) hr (by decide) rfl (pa_cons (pv 4) (pa_cons pe_int (pa_cons (pe_op op_sub (pe_callB cr_len (by rfl) T.n_len bt_len (pa_cons (pv 1) pa_nil)) pe_int) pa_nil)))) (pe_one (C8.pe_c (c_are_pairs T) hr (by decide) rfl (pa_cons (pv 5) (pa_cons (pe_callB cr_len (by rfl) T.n_len bt_len (pa_cons (pv 1) pa_nil)) pa_nil))))))
  pss_nil))))
theorem c_is_task (T : Top K mg) : C8.Cal P w K mg base 9 "is_task" sp_is_task [] := by
  refine cal_of T.f_is_task sc_is_task (t_is_task K) (fun zs z h => ?_) (fun f cdv A outer s H E hr => d_is_task T f cdv A outer s H E hr) (fun dr B E zs z hp hB hR hN => ?_)
  · obtain ⟨_, rfl, _⟩ := h; rfl
  obtain ⟨t, rfl, ht, rfl⟩ := hp
  refine w_if hB (et_or (et_not (et_B (e_is_row (ea_cons (ev_var rfl) ea_nil)))) fun _ => (et_test (ev_op (ev_cb (ea_cons (ev_var (d := t.enc) rfl) ea_nil) rc_lenT) ev_int rr_neI))) (fun hb => ?_) (fun hb => ?_)
  · simp [rowB, Task.enc] at hb
  refine w_nx ?_
  refine w_unp hB (ev_var (d := t.enc) rfl) rfl rfl ?_
  refine w_if hB (et_or (et_not (et_B (e_is_numbers (ea_cons (ev_var rfl) ea_nil) ht.num))) fun _ => (et_or (et_not (et_B (e_is_whole (ea_cons (ev_var rfl) (ea_cons ev_int (ea_cons ev_int ea_nil)))))) fun _ => (et_not (et_B (e_is_off (ea_cons (ev_var rfl) ea_nil) ht.off))))) (fun hb => ?_) (fun hb => ?_)
  · rcases ht.hands with e | e <;> simp [wholeB, e] at hb
  refine w_nx ?_
  refine w_ret hB (Ev.is (ev_andV (e_is_rising (ea_cons (ev_var rfl) (ea_cons ev_int (ea_cons (ev_op (ev_cb (ea_cons (ev_var rfl) ea_nil) rc_lenT) ev_int (rr_I0 fun _ => .int _)) ea_nil)))) fun _ => (e_are_pairs (ea_cons (ev_var rfl) (ea_cons (ev_cb (ea_cons (ev_var rfl) ea_nil) rc_lenT) ea_nil)) (by rw [List.length_map]; exact ht.tied))) ?_) hR
  have e := ht.long
  simp only [List.length_map, Bool.and_true, e]

/-! asked_task -/
theorem okT_task {t : Task} (h : TaskOk t) : okT 5 t.enc := by
  refine ⟨by show 5 < 1000000; decide, fun e he => ?_⟩
  have h1 := h.num.1
  have h2 := h.off.2.1
  have h3 := h.ll
  have h4 := h.tied.1
  simp only [List.mem_cons, List.not_mem_nil, or_false] at he
  rcases he with rfl | rfl | rfl | rfl | rfl
  · exact okT_dI 3 _ (by omega)
  · trivial
  · exact okT_dI 3 _ (by omega)
  · exact okT_dI 3 _ (by omega)
  · exact okT_map (n := 3) (by omega) fun p _ => okT_pr p 2
def q_asked_task : List Vd → Vd → Prop := fun a z => ∃ t : Task, a = [.d t.enc] ∧ TaskOk t ∧ z = .d t.enc
abbrev sp_asked_task : Sp := spP q_asked_task
theorem e_asked_task {t : Task} (h : EvA dr ta δ [.d t.enc]) (hp : TaskOk t) : Ev dr (tCall sp_asked_task [] C8.E0 ta) δ (.d t.enc) := ev_call h ⟨_, rfl, hp, rfl⟩
abbrev s_asked_task : Stmt := Hd.top 27
abbrev N_asked_task : List Str := ["thing"]
theorem nd_asked_task : N_asked_task.Nodup := by decide +kernel
theorem sc_asked_task : C8.scC N_asked_task ["thing"] (C8.fnScope s_asked_task) = true := by decide +kernel
def t_asked_task (K : PySem.W.Frag) : TS :=
  (tSeq (tIfS (tNot (tB (tCall sp_is_task [] C8.E0 (tCons (tVar 0) tNil)))) (tSeq tNever
  tNext) tNext)
  (tSeq (tRet (tCall sp_told_rows [] C8.E0 (tCons (tVar 0) tNil)))
  tNext))
theorem d_asked_task {P : Program} {w : World} {K : PySem.W.Frag} {mg : Str → Option Value} {base : Heap} (T : Top K mg) (f : Addr) (cdv : Value) (A : Around) (outer : List Env) (s : Shared) (H : Hp) (E : XK)
    (hr : Room 9 (A.deeper (PyProof.Rows.envOfC "asked_task" (C8.fnScope s_asked_task) s.heap.objs.size f cdv))) :
    PSs (cxOf C8.CX0 P w K mg base N_asked_task "asked_task" (C8.fnScope s_asked_task) f cdv A outer s H E).nox (C8.fnBody s_asked_task) (t_asked_task K) :=
  (pss_cons (ps_if (pt_not (pt_val (C8.pe_c (c_is_task T) hr (by decide) rfl (pa_cons (pv 0) pa_nil)))) (pss_cons ps_never
  pss_nil) pss_nil)
  (pss_cons (ps_ret (C8.pe_c (c_told_rows T) hr (by decide) rfl (pa_cons (pv 0) pa_nil)))
  pss_nil))
theorem c_asked_task (T : Top K mg) : C8.Cal P w K mg base 10 "asked_task" sp_asked_task [] := by
  refine cal_of T.f_asked_task sc_asked_task (t_asked_task K) (fun zs z h => ?_) (fun f cdv A outer s H E hr => d_asked_task T f cdv A outer s H E hr) (fun dr B E zs z hp hB hR hN => ?_)
  · obtain ⟨_, rfl, _⟩ := h; rfl
  obtain ⟨t, rfl, ht, rfl⟩ := hp
  refine w_if hB (et_not (et_B (e_is_task (ea_cons (ev_var rfl) ea_nil) ht))) (fun hb => ?_) (fun hb => ?_)
  · simp at hb
  exact w_nx (w_ret hB (e_told_rows (ea_cons (ev_var rfl) ea_nil) (okT_task ht)) hR)

/-! in_ties -/
def endStep (acc : List Int) (p : Int × Int) : List Int := acc ++ [p.1, p.2].filter fun i => !decide (i ∈ acc)
def endsOf (ps : List (Int × Int)) : List Int := ps.foldl endStep []
def q_in_ties : List Vd → Vd → Prop := fun a z => ∃ t : Task, a = [.d t.enc] ∧ t.tied.length ≤ 1000 ∧ z = .l ((endsOf t.tied).map PyData.int)
abbrev sp_in_ties : Sp := spP q_in_ties
theorem e_in_ties {t : Task} (h : EvA dr ta δ [.d t.enc]) (hl : t.tied.length ≤ 1000) : Ev dr (tCall sp_in_ties [] C8.E0 ta) δ (.l ((endsOf t.tied).map PyData.int)) := ev_call h ⟨_, rfl, hl, rfl⟩
theorem ends_len : ∀ (ps : List (Int × Int)), (endsOf ps).length ≤ 2 * ps.length := by
  have go : ∀ (ps : List (Int × Int)) (acc : List Int), (ps.foldl endStep acc).length ≤ acc.length + 2 * ps.length := by
    intro ps
    induction ps with
    | nil => intro acc; simp
    | cons p ps ih =>
      intro acc
      have h := ih (endStep acc p)
      have h2 : (endStep acc p).length ≤ acc.length + 2 := by
        unfold endStep
        rw [List.length_append]
        have := List.length_filter_le (fun i => !decide (i ∈ acc)) [p.1, p.2]
        simp only [List.length_cons, List.length_nil] at this
        omega
      simp only [List.foldl_cons, List.length_cons]
      omega
  intro ps
  have := go ps []
  simpa [endsOf] using this
abbrev s_in_ties : Stmt := Hd.top 33
abbrev N_in_ties : List Str := ["task", "found", "pair", "i"]
theorem nd_in_ties : N_in_ties.Nodup := by decide +kernel
theorem sc_in_ties : C8.scC N_in_ties ["task"] (C8.fnScope s_in_ties) = true := by decide +kernel
def t_in_ties (K : PySem.W.Frag) : TS :=
  (tSeq (tAsg (tLst tNil) (gName 1))
  (tSeq (tFor (iTup K (tOp (rIxT K) (tVar 0) (tC (.int 4)))) (gName 2) (tSeq (tAsg (tOp rCat (tVar 1) (tLc (iTup K (tVar 2)) (gName 3) (tTest (tOp (rIn K true) (tVar 3) (tVar 1))) (tVar 3) [3])) (gName 1))
  tNext))
  (tSeq (tRet (tVar 1))
  tNext)))
theorem d_in_ties {P : Program} {w : World} {K : PySem.W.Frag} {mg : Str → Option Value} {base : Heap} (T : Top K mg) (f : Addr) (cdv : Value) (A : Around) (outer : List Env) (s : Shared) (H : Hp) (E : XK)
    (hr : Room 0 (A.deeper (PyProof.Rows.envOfC "in_ties" (C8.fnScope s_in_ties) s.heap.objs.size f cdv))) :
    PSs (cxOf C8.CX0 P w K mg base N_in_ties "in_ties" (C8.fnScope s_in_ties) f cdv A outer s H E).nox (C8.fnBody s_in_ties) (t_in_ties K) :=
  (pss_cons (ps_set (i := 1) nd_in_ties rfl (by first | exact Or.inl rfl | exact Or.inr rfl) (pe_lst pa_nil))
  (pss_cons (ps_for PassesOwn.never rfl (pi_tup (pe_ix ix_tup (pv 0) pe_int (fun _ _ => rfl))) (pg_name (i := 2) nd_in_ties rfl (by first | exact Or.inl rfl | exact Or.inr rfl)) (pss_cons (ps_set (i := 1) nd_in_ties rfl (by first | exact Or.inl rfl | exact Or.inr rfl) (pe_op op_cat (pv 1) (pe_lc (own := [("i", 3)]) (g := gName 3) rfl nd_in_ties (pi_tup (pv 2)) (blkOk_by (N := N_in_ties) (sc := C8.fnScope s_in_ties) (by decide +kernel)) (fun _ _ _ _ _ => pg_name (i := 3) nd_in_ties rfl (by first | exact Or.inl rfl | exact Or.inr rfl)) (fun _ _ _ _ _ => pts_one (pt_cmpR op_notIn_seq (pv 3) (pv 1) (by rfl))) (fun _ _ _ _ _ => (pv 3)))))
  pss_nil))
  (pss_cons (ps_ret (pv 1))
  pss_nil)))
theorem c_in_ties (T : Top K mg) : C8.Cal P w K mg base 1 "in_ties" sp_in_ties [] := by
  refine cal_of T.f_in_ties sc_in_ties (t_in_ties K) (fun zs z h => ?_) (fun f cdv A outer s H E hr => d_in_ties T f cdv A outer s H E hr) (fun dr B E zs z hp hB hR hN => ?_)
  · obtain ⟨_, rfl, _⟩ := h; rfl
  obtain ⟨t, rfl, ht, rfl⟩ := hp
  refine w_asgN hB (en_lst ead_nil (by nested_key)) fun p np mp fr => ?_
  refine w_forT t.tied pr (fun i δ' => ∃ q c, δ' = [.d t.enc, .l q ((endsOf (t.tied.take i)).map PyData.int), c, .x]) hB (ev_op (ev_var (d := t.enc) rfl) ev_int (rr_ixT at4)) ⟨_, _, rfl⟩ (fun B' hB' hb mu i a δ' ha hI => ?_) (fun δ' hI => ?_)
  · obtain ⟨q, c, rfl⟩ := hI
    have e : endsOf (t.tied.take (i + 1)) = endStep (endsOf (t.tied.take i)) a := by
      unfold endsOf
      rw [take_succ' ha, List.foldl_append]; rfl
    have hl := ends_len (t.tied.take i)
    rw [List.length_take] at hl
    refine w_asgN hB' (en_op (ev_varL rfl) (en_lcT [a.1, a.2] PyData.int (fun x => !decide (x ∈ endsOf (t.tied.take i))) PyData.int (ev_var rfl) (by show 2 < 1000000; decide) (by simp) (fun a ha => (et_test (ev_op (ev_var rfl) (ev_varL rfl) rr_niLi))) (fun a ha hf => (ev_var rfl))).ev (rn_cat ?_)) fun p np mp fr => ?_
    · unfold small
      have := List.length_filter_le (fun i_1 => !decide (i_1 ∈ endsOf (List.take i t.tied))) [a.1, a.2]
      simp only [List.length_map, List.length_cons, List.length_nil] at this ⊢
      omega
    · refine w_end ⟨p, .d (pr a), ?_⟩
      rw [e]
      simp only [endStep, List.map_append]
      rfl
  · obtain ⟨q, c, rfl⟩ := hI
    rw [List.take_length]
    exact w_ret hB (ev_varL rfl) hR
end
end Ed
end
section
set_option maxHeartbeats 4000000
namespace Ed
open PySem L2
local macro_rules | `(tactic| nested_key) => `(tactic| first
  | rfl
  | assumption
  | omega
  | exact Nat.le_of_ble_eq_true rfl
  | decide
  | (simp only [List.length_map, small]; omega)
  | (simp [small]; done)
  | (simp only [Vd.sd, setAll, List.set, mutAll, okm, Fr] at *; simp_all; done))

section
variable {P : Program} {w : World} {K : PySem.W.Frag} {mg : Str → Option Value} {base : Heap} {dr : Option Addr} {δ : List Sd} {ta : TA}

/-! are_waits -/
def waitsP (ns ws : List Int) : Prop := ws.length = ns.length ∧ ns.length ≤ 1000 ∧ ∀ (i : Nat) (x n : Int), ws[i]? = some x → ns[i]? = some n → 1 ≤ x ∧ x ≤ n
def q_are_waits : List Vd → Vd → Prop := fun a z => ∃ ns ws, a = [.d (dI ns), .d (dI ws)] ∧ waitsP ns ws ∧ z = .d (.bool true)
abbrev sp_are_waits : Sp := spP q_are_waits
theorem e_are_waits {ns ws : List Int} (h : EvA dr ta δ [.d (dI ns), .d (dI ws)]) (hp : waitsP ns ws) : Ev dr (tCall sp_are_waits [] C8.E0 ta) δ (.d (.bool true)) := ev_call h ⟨_, _, rfl, hp, rfl⟩
abbrev s_are_waits : Stmt := Hd.top 34
abbrev N_are_waits : List Str := ["numbers", "waits", "i"]
theorem nd_are_waits : N_are_waits.Nodup := by decide +kernel
theorem sc_are_waits : C8.scC N_are_waits ["numbers", "waits"] (C8.fnScope s_are_waits) = true := by decide +kernel
def t_are_waits (K : PySem.W.Frag) : TS :=
  (tSeq (tIfS (tOr (tNot (tB (tCall sp_is_row [] C8.E0 (tCons (tVar 1) tNil)))) (tTest (tOp rNe (tCB (rLen K) (tCons (tVar 1) tNil)) (tCB (rLen K) (tCons (tVar 0) tNil))))) (tSeq (tRet (tC (.bl false)))
  tNext) tNext)
  (tSeq (tRet (tOp (rEqD K) (tLc (iRng1 (tCons (tCB (rLen K) (tCons (tVar 0) tNil)) tNil)) (gName 2) (tNot (tB (tCall sp_is_whole [] C8.E0 (tCons (tOp (rIxT K) (tVar 1) (tVar 2)) (tCons (tC (.int 1)) (tCons (tOp (rIxT K) (tVar 0) (tVar 2)) tNil)))))) (tVar 2) [2]) (tLst tNil)))
  tNext))
theorem d_are_waits {P : Program} {w : World} {K : PySem.W.Frag} {mg : Str → Option Value} {base : Heap} (T : Top K mg) (f : Addr) (cdv : Value) (A : Around) (outer : List Env) (s : Shared) (H : Hp) (E : XK)
    (hr : Room 1 (A.deeper (PyProof.Rows.envOfC "are_waits" (C8.fnScope s_are_waits) s.heap.objs.size f cdv))) :
    PSs (cxOf C8.CX0 P w K mg base N_are_waits "are_waits" (C8.fnScope s_are_waits) f cdv A outer s H E).nox (C8.fnBody s_are_waits) (t_are_waits K) :=
  (pss_cons (ps_if (PW.pt (pw_or (pt_not (pt_val (C8.pe_c (c_is_row T) hr (by decide) rfl (pa_cons (pv 1) pa_nil)))) (pw_or1 (pt_cmpR op_ne (pe_callB cr_len (by rfl) T.n_len bt_len (pa_cons (pv 1) pa_nil)) (pe_callB cr_len (by rfl) T.n_len bt_len (pa_cons (pv 0) pa_nil)) (nomark _))))) (pss_cons (ps_ret pe_bl)
  pss_nil) pss_nil)
  (pss_cons (ps_ret (pe_cmpR (op_eqD hr.units) (pe_lc (own := [("i", 2)]) (g := gName 2) rfl nd_are_waits (pi_range1 rfl T.n_range (pa_cons (pe_callB cr_len (by rfl) T.n_len bt_len (pa_cons (pv 0) pa_nil)) pa_nil)) (blkOk_by (N := N_are_waits) (sc := C8.fnScope s_are_waits) (by decide +kernel)) (fun _ _ _ _ _ => pg_name (i := 2) nd_are_waits rfl (by first | exact Or.inl rfl | exact Or.inr rfl)) (fun _ _ _ _ _ => pts_one (pt_not (pt_val (C8.pe_c (c_is_whole T) hr (by decide) rfl (pa_cons (pe_ix ix_tup (pv 1) (pv 2) (fun _ _ => rfl)) (pa_cons pe_int (pa_cons (pe_ix ix_tup (pv 0) (pv 2) (fun _ _ => rfl)) pa_nil))))))) (fun _ _ _ _ _ => (pv 2))) (pe_lst pa_nil) (nomark _)))
  pss_nil))
theorem c_are_waits (T : Top K mg) : C8.Cal P w K mg base 2 "are_waits" sp_are_waits [] := by
  refine cal_of T.f_are_waits sc_are_waits (t_are_waits K) (fun zs z h => ?_) (fun f cdv A outer s H E hr => d_are_waits T f cdv A outer s H E hr) (fun dr B E zs z hp hB hR hN => ?_)
  · obtain ⟨_, _, rfl, _⟩ := h; rfl
  obtain ⟨ns, ws, rfl, ⟨hl, hz, hw⟩, rfl⟩ := hp
  refine w_if hB (et_or (et_not (et_B (e_is_row (ea_cons (ev_var rfl) ea_nil)))) fun _ => (et_test (ev_op (ev_cb (ea_cons (ev_var rfl) ea_nil) rc_lenT) (ev_cb (ea_cons (ev_var rfl) ea_nil) rc_lenT) rr_neI))) (fun hb => ?_) (fun hb => ?_)
  · simp [rowB, dI, hl] at hb
  refine w_nx ?_
  refine w_ret hB (Ev.is (ev_op (en_lcR1 (fun _ => false) PyData.int (ea_cons (ev_cb (ea_cons (ev_var rfl) ea_nil) rc_lenT) ea_nil) (by simp; omega) (by omega) (by simp) (fun i hi1 hi2 => ?_) (fun i hi1 hi2 hf => (ev_var rfl))).ev (en_lst ead_nil (by nested_key)).ev (rr_eqNil (shaped_li _))) ?_) hR
  · simp only [List.length_map] at hi2
    have g1 := getI (xs := ns) (i := i) hi1 hi2
    have g2 := getI (xs := ws) (i := i) hi1 (by omega)
    refine (et_not (et_B (e_is_whole (ea_cons (ev_op (ev_var rfl) (ev_var rfl) (rr_ixT (at_map hi1 g2))) (ea_cons ev_int (ea_cons (ev_op (ev_var rfl) (ev_var rfl) (rr_ixT (at_map hi1 g1))) ea_nil)))))).is ?_
    have := hw _ _ _ g2 g1
    simp [wholeB, this]
  · simp

/-! is_some_of -/
def q_is_some_of : List Vd → Vd → Prop := fun a z => ∃ th row most y, a = [y, .d (dI row), .d (.int most)] ∧ (y = .d (dI th) ∨ y = .l (th.map PyData.int)) ∧ riseB 7 0 row = true ∧ (row.length : Int) ≤ most ∧ row.length ≤ 1000 ∧ (∀ i ∈ row, i ∈ th) ∧ z = .d (.bool true)
abbrev sp_is_some_of : Sp := spP q_is_some_of
theorem e_is_some_of {th row : List Int} {most : Int} {y : Vd} (h : EvA dr ta δ [y, .d (dI row), .d (.int most)]) (hy : y = .d (dI th) ∨ y = .l (th.map PyData.int)) (h1 : riseB 7 0 row = true) (h2 : (row.length : Int) ≤ most) (h3 : row.length ≤ 1000) (h4 : ∀ i ∈ row, i ∈ th) :
    Ev dr (tCall sp_is_some_of [] C8.E0 ta) δ (.d (.bool true)) := ev_call h ⟨_, _, _, _, rfl, hy, h1, h2, h3, h4, rfl⟩
abbrev s_is_some_of : Stmt := Hd.top 35
abbrev N_is_some_of : List Str := ["things", "row", "most", "i"]
theorem nd_is_some_of : N_is_some_of.Nodup := by decide +kernel
theorem sc_is_some_of : C8.scC N_is_some_of ["things", "row", "most"] (C8.fnScope s_is_some_of) = true := by decide +kernel
def t_is_some_of (K : PySem.W.Frag) : TS :=
  (tSeq (tIfS (tOr (tNot (tB (tCall sp_is_rising [] C8.E0 (tCons (tVar 1) (tCons (tC (.int 0)) (tCons (tC (.int 7)) tNil)))))) (tTest (tOp oGt (tCB (rLen K) (tCons (tVar 1) tNil)) (tVar 2)))) (tSeq (tRet (tC (.bl false)))
  tNext) tNext)
  (tSeq (tRet (tOp (rEqD K) (tLc (iTup K (tVar 1)) (gName 3) (tTest (tOp (rIn K true) (tVar 3) (tVar 0))) (tVar 3) [3]) (tLst tNil)))
  tNext))
theorem d_is_some_of {P : Program} {w : World} {K : PySem.W.Frag} {mg : Str → Option Value} {base : Heap} (T : Top K mg) (f : Addr) (cdv : Value) (A : Around) (outer : List Env) (s : Shared) (H : Hp) (E : XK)
    (hr : Room 2 (A.deeper (PyProof.Rows.envOfC "is_some_of" (C8.fnScope s_is_some_of) s.heap.objs.size f cdv))) :
    PSs (cxOf C8.CX0 P w K mg base N_is_some_of "is_some_of" (C8.fnScope s_is_some_of) f cdv A outer s H E).nox (C8.fnBody s_is_some_of) (t_is_some_of K) :=
  (pss_cons (ps_if (PW.pt (pw_or (pt_not (pt_val (C8.pe_c (c_is_rising T) hr (by decide) rfl (pa_cons (pv 1) (pa_cons pe_int (pa_cons pe_int pa_nil)))))) (pw_or1 (pt_cmpR op_gt (pe_callB cr_len (by rfl) T.n_len bt_len (pa_cons (pv 1) pa_nil)) (pv 2) (nomark _))))) (pss_cons (ps_ret pe_bl)
  pss_nil) pss_nil)
  (pss_cons (ps_ret (pe_cmpR (op_eqD hr.units) (pe_lc (own := [("i", 3)]) (g := gName 3) rfl nd_is_some_of (pi_tup (pv 1)) (blkOk_by (N := N_is_some_of) (sc := C8.fnScope s_is_some_of) (by decide +kernel)) (fun _ _ _ _ _ => pg_name (i := 3) nd_is_some_of rfl (by first | exact Or.inl rfl | exact Or.inr rfl)) (fun _ _ _ _ _ => pts_one (pt_cmpR op_notIn_seq (pv 3) (pv 0) (by rfl))) (fun _ _ _ _ _ => (pv 3))) (pe_lst pa_nil) (nomark _)))
  pss_nil))
theorem c_is_some_of (T : Top K mg) : C8.Cal P w K mg base 3 "is_some_of" sp_is_some_of [] := by
  refine cal_of T.f_is_some_of sc_is_some_of (t_is_some_of K) (fun zs z h => ?_) (fun f cdv A outer s H E hr => d_is_some_of T f cdv A outer s H E hr) (fun dr B E zs z hp hB hR hN => ?_)
  · obtain ⟨_, _, _, _, rfl, _⟩ := h; rfl
  obtain ⟨th, row, most, y, rfl, hy, h1, h2, h3, h4, rfl⟩ := hp
  have test : ∀ a ∈ row, EvT dr (tTest (tOp (rIn K true) (tVar 3) (tVar 0))) ((wipeD (startD N_is_some_of.length [y, .d (dI row), .d (.int most)]) [3]).set 3 (.d (.int a))) false := fun a ha => by
    have e : (!decide (a ∈ th)) = false := by simp [h4 a ha]
    rcases hy with rfl | rfl
    · exact (et_test (ev_op (ev_var rfl) (ev_var rfl) rr_niT)).is e
    · exact (et_test (ev_op (ev_var rfl) (ev_varV rfl) rr_niLi)).is e
  refine w_if hB (et_or (et_not (et_B (e_is_rising (ea_cons (ev_var rfl) (ea_cons ev_int (ea_cons ev_int ea_nil)))))) fun _ => (et_test (ev_op (ev_cb (ea_cons (ev_var rfl) ea_nil) rc_lenT) (ev_var rfl) (rr_I0 fun _ => .bl _)))) (fun hb => ?_) (fun hb => ?_)
  · simp [h1] at hb; omega
  refine w_nx ?_
  refine w_ret hB (Ev.is (ev_op (en_lcT row PyData.int (fun _ => false) PyData.int (ev_var rfl) (by omega) (by simp) test (fun a ha hf => (ev_var rfl))).ev (en_lst ead_nil (by nested_key)).ev (rr_eqNil (shaped_li _))) ?_) hR
  simp

/-! is_stand_of -/
structure StandOk (t : Task) (s : Stand) : Prop where
  ph0 : 0 ≤ s.ph
  ph1 : s.ph < t.off.length
  wl : s.wt.length = t.num.length
  wt : ∀ (i : Nat) (x n : Int), s.wt[i]? = some x → t.num[i]? = some n → 1 ≤ x ∧ x ≤ n
  bz : riseB 7 0 s.bz = true
  bl : (s.bz.length : Int) ≤ t.hands
  bm : ∀ i ∈ s.bz, i ∈ t.long
  ls : riseB 7 0 s.ls = true
  ll : (s.ls.length : Int) ≤ t.hands
  lm : ∀ i ∈ s.ls, i ∈ endsOf t.tied
  both : ((s.bz.length + (s.ls.filter fun i => !decide (i ∈ s.bz)).length : Nat) : Int) ≤ t.hands
  be : ∀ i ∈ s.bz, i ∈ endsOf t.tied → i ∈ s.ls
theorem StandOk.waits {t : Task} {s : Stand} (h : StandOk t s) (ht : TaskOk t) : waitsP t.num s.wt := ⟨h.wl, by have := ht.num.1; omega, h.wt⟩
theorem StandOk.few {t : Task} {s : Stand} (h : StandOk t s) (ht : TaskOk t) : s.bz.length ≤ 2 ∧ s.ls.length ≤ 2 ∧ s.wt.length ≤ 8 := by
  have h1 := h.bl
  have h2 := h.ll
  have h3 := h.wl
  have h4 := ht.num.1
  rcases ht.hands with e | e <;> omega
def q_is_stand_of : List Vd → Vd → Prop := fun a z => ∃ (t : Task) (s : Stand), a = [.d t.enc, .d s.enc] ∧ TaskOk t ∧ StandOk t s ∧ z = .d (.bool true)
abbrev sp_is_stand_of : Sp := spP q_is_stand_of
theorem e_is_stand_of {t : Task} {s : Stand} (h : EvA dr ta δ [.d t.enc, .d s.enc]) (ht : TaskOk t) (hs : StandOk t s) : Ev dr (tCall sp_is_stand_of [] C8.E0 ta) δ (.d (.bool true)) := ev_call h ⟨_, _, rfl, ht, hs, rfl⟩
abbrev s_is_stand_of : Stmt := Hd.top 36
abbrev N_is_stand_of : List Str := ["task", "thing", "phase", "waits", "busy", "last", "ends", "i"]
theorem nd_is_stand_of : N_is_stand_of.Nodup := by decide +kernel
theorem sc_is_stand_of : C8.scC N_is_stand_of ["task", "thing"] (C8.fnScope s_is_stand_of) = true := by decide +kernel
def t_is_stand_of (K : PySem.W.Frag) : TS :=
  (tSeq (tIfS (tOr (tNot (tB (tCall sp_is_row [] C8.E0 (tCons (tVar 1) tNil)))) (tTest (tOp rNe (tCB (rLen K) (tCons (tVar 1) tNil)) (tC (.int 4))))) (tSeq (tRet (tC (.bl false)))
  tNext) tNext)
  (tSeq (tAsg (tVar 1) (gTup K 4 (unp [2, 3, 4, 5])))
  (tSeq (tIfS (tOr (tNot (tB (tCall sp_is_whole [] C8.E0 (tCons (tVar 2) (tCons (tC (.int 0)) (tCons (tOp oSub (tCB (rLen K) (tCons (tOp (rIxT K) (tVar 0) (tC (.int 2))) tNil)) (tC (.int 1))) tNil)))))) (tNot (tB (tCall sp_are_waits [] C8.E0 (tCons (tOp (rIxT K) (tVar 0) (tC (.int 0))) (tCons (tVar 3) tNil)))))) (tSeq (tRet (tC (.bl false)))
  tNext) tNext)
  (tSeq (tAsg (tCall sp_in_ties [] C8.E0 (tCons (tVar 0) tNil)) (gName 6))
  (tSeq (tIfS (tOr (tNot (tB (tCall sp_is_some_of [] C8.E0 (tCons (tOp (rIxT K) (tVar 0) (tC (.int 3))) (tCons (tVar 4) (tCons (tOp (rIxT K) (tVar 0) (tC (.int 1))) tNil)))))) (tNot (tB (tCall sp_is_some_of [] C8.E0 (tCons (tVar 6) (tCons (tVar 5) (tCons (tOp (rIxT K) (tVar 0) (tC (.int 1))) tNil))))))) (tSeq (tRet (tC (.bl false)))
  tNext) tNext)
  (tSeq (tIfS (tTest (tOp oGt (tOp oAdd (tCB (rLen K) (tCons (tVar 4) tNil)) (tCB (rLen K) (tCons (tLc (iTup K (tVar 5)) (gName 7) (tTest (tOp (rIn K true) (tVar 7) (tVar 4))) (tVar 7) [7]) tNil))) (tOp (rIxT K) (tVar 0) (tC (.int 1))))) (tSeq (tRet (tC (.bl false)))
  tNext) tNext)
  (tSeq (tRet (tOp (rEqD K) (tLc (iTup K (tVar 4)) (gName 7) (tAnd (tTest (tOp (rIn K false) (tVar 7) (tVar 6))) (tTest (tOp (rIn K true) (tVar 7) (tVar 5)))) (tVar 7) [7]) (tLst tNil)))
  tNext)))))))
theorem d_is_stand_of {P : Program} {w : World} {K : PySem.W.Frag} {mg : Str → Option Value} {base : Heap} (T : Top K mg) (f : Addr) (cdv : Value) (A : Around) (outer : List Env) (s : Shared) (H : Hp) (E : XK)
    (hr : Room 3 (A.deeper (PyProof.Rows.envOfC "is_stand_of" (C8.fnScope s_is_stand_of) s.heap.objs.size f cdv))) :
    PSs (cxOf C8.CX0 P w K mg base N_is_stand_of "is_stand_of" (C8.fnScope s_is_stand_of) f cdv A outer s H E).nox (C8.fnBody s_is_stand_of) (t_is_stand_of K) :=
  (pss_cons (ps_if (PW.pt (pw_or (pt_not (pt_val (C8.pe_c (c_is_row T) hr (by decide) rfl (pa_cons (pv 1) pa_nil)))) (pw_or1 (pt_cmpR op_ne (pe_callB cr_len (by rfl) T.n_len bt_len (pa_cons (pv 1) pa_nil)) pe_int (nomark _))))) (pss_cons (ps_ret pe_bl)
  pss_nil) pss_nil)
  (pss_cons (ps_asg (pv 1) (pg_tup (by rfl) (pgs_cons (pg_name (i := 2) nd_is_stand_of rfl (by first | exact Or.inl rfl | exact Or.inr rfl)) (pgs_cons (pg_name (i := 3) nd_is_stand_of rfl (by first | exact Or.inl rfl | exact Or.inr rfl)) (pgs_cons (pg_name (i := 4) nd_is_stand_of rfl (by first | exact Or.inl rfl | exact Or.inr rfl)) (pgs_cons (pg_name (i := 5) nd_is_stand_of rfl (by first | exact Or.inl rfl | exact Or.inr rfl)) pgs_nil))))))
  (pss_cons (ps_if (PW.pt (pw_or (pt_not (pt_val (C8.pe_c (c_is_whole T) hr (by decide) rfl (pa_cons (pv 2) (pa_cons pe_int (pa_cons (pe_op op_sub (pe_callB cr_len (by rfl) T.n_len bt_len (pa_cons (pe_ix ix_tup (pv 0) pe_int (fun _ _ => rfl)) pa_nil)) pe_int) pa_nil)))))) (pw_or1 (pt_not (pt_val (C8.pe_c (c_are_waits T) hr (by decide) rfl (pa_cons (pe_ix ix_tup (pv 0) pe_int (fun _ _ => rfl)) (pa_cons (pv 3) pa_nil)))))))) (pss_cons (ps_ret pe_bl)
  pss_nil) pss_nil)
  (pss_cons (ps_set (i := 6) nd_is_stand_of rfl (by first | exact Or.inl rfl | exact Or.inr rfl) (C8.pe_c (c_in_ties T) hr (by decide) rfl (pa_cons (pv 0) pa_nil)))
  (pss_cons (ps_if (PW.pt (pw_or (pt_not (pt_val (C8.pe_c (c_is_some_of T) hr (by decide) rfl (pa_cons (pe_ix ix_tup (pv 0) pe_int (fun _ _ => rfl)) (pa_cons (pv 4) (pa_cons (pe_ix ix_tup (pv 0) pe_int (fun _ _ => rfl)) pa_nil)))))) (pw_or1 (pt_not (pt_val (C8.pe_c (c_is_some_of T) hr (by decide) rfl (pa_cons (pv 6) (pa_cons (pv 5) (pa_cons (pe_ix ix_tup (pv 0) pe_int (fun _ _ => rfl)) pa_nil))))))))) (pss_cons (ps_ret pe_bl)
  pss_nil) pss_nil)
  (pss_cons (ps_if (pt_cmpR op_gt (pe_op op_add (pe_callB cr_len (by rfl) T.n_len bt_len (pa_cons (pv 4) pa_nil)) (pe_callB cr_len (by rfl) T.n_len bt_len (pa_cons (pe_lc (own := [("i", 7)]) (g := gName 7) rfl nd_is_stand_of (pi_tup (pv 5)) (blkOk_by (N := N_is_stand_of) (sc := C8.fnScope s_is_stand_of) (by decide +kernel)) (fun _ _ _ _ _ => pg_name (i := 7) nd_is_stand_of rfl (by first | exact Or.inl rfl | exact Or.inr rfl)) (fun _ _ _ _ _ => pts_one (pt_cmpR op_notIn_seq (pv 7) (pv 4) (by rfl))) (fun _ _ _ _ _ => (pv 7))) pa_nil))) (pe_ix ix_tup (pv 0) pe_int (fun _ _ => rfl)) (nomark _)) (pss_cons (ps_ret pe_bl)
  pss_nil) pss_nil)
  (pss_cons (ps_ret (pe_cmpR (op_eqD hr.units) (pe_lc (own := [("i", 7)]) (g := gName 7) rfl nd_is_stand_of (pi_tup (pv 4)) (blkOk_by (N := N_is_stand_of) (sc := C8.fnScope s_is_stand_of) (by decide +kernel)) (fun _ _ _ _ _ => pg_name (i := 7) nd_is_stand_of rfl (by first | exact Or.inl rfl | exact Or.inr rfl)) (fun _ _ _ _ _ => pts_one (PW.pt (pw_and (pt_cmpR op_in_seq (pv 7) (pv 6) (by rfl)) (pw_and1 (pt_cmpR op_notIn_seq (pv 7) (pv 5) (by rfl)))))) (fun _ _ _ _ _ => (pv 7))) (pe_lst pa_nil) (nomark _)))
  pss_nil)))))))
theorem c_is_stand_of (T : Top K mg) : C8.Cal P w K mg base 4 "is_stand_of" sp_is_stand_of [] := by
  refine cal_of T.f_is_stand_of sc_is_stand_of (t_is_stand_of K) (fun zs z h => ?_) (fun f cdv A outer s H E hr => d_is_stand_of T f cdv A outer s H E hr) (fun dr B E zs z hp hB hR hN => ?_)
  · obtain ⟨_, _, rfl, _⟩ := h; rfl
  obtain ⟨t, s, rfl, ht, hs, rfl⟩ := hp
  obtain ⟨f1, f2, f3⟩ := hs.few ht
  refine w_if hB (et_or (et_not (et_B (e_is_row (ea_cons (ev_var rfl) ea_nil)))) fun _ => (et_test (ev_op (ev_cb (ea_cons (ev_var (d := s.enc) rfl) ea_nil) rc_lenT) ev_int rr_neI))) (fun hb => ?_) (fun hb => ?_)
  · simp [rowB, Stand.enc] at hb
  refine w_nx ?_
  refine w_unp hB (ev_var (d := s.enc) rfl) rfl rfl ?_
  refine w_if hB (et_or (et_not (et_B (e_is_whole (ea_cons (ev_var rfl) (ea_cons ev_int (ea_cons (ev_op (ev_cb (ea_cons (ev_op (ev_var (d := t.enc) rfl) ev_int (rr_ixT at2)) ea_nil) rc_lenT) ev_int (rr_I0 fun _ => .int _)) ea_nil)))))) fun _ => (et_not (et_B (e_are_waits (ea_cons (ev_op (ev_var (d := t.enc) rfl) ev_int (rr_ixT at0)) (ea_cons (ev_var rfl) ea_nil)) (hs.waits ht))))) (fun hb => ?_) (fun hb => ?_)
  · have h0 := hs.ph0
    have h1 := hs.ph1
    simp [wholeB] at hb
    omega
  refine w_nx ?_
  refine w_asg hB (e_in_ties (ea_cons (ev_var rfl) ea_nil) ht.tied.1) ?_
  refine w_if hB (et_or (et_not (et_B (e_is_some_of (th := t.long) (ea_cons (ev_op (ev_var (d := t.enc) rfl) ev_int (rr_ixT at3)) (ea_cons (ev_var rfl) (ea_cons (ev_op (ev_var (d := t.enc) rfl) ev_int (rr_ixT at1)) ea_nil))) (.inl rfl) hs.bz hs.bl (by omega) hs.bm))) fun _ => (et_not (et_B (e_is_some_of (th := endsOf t.tied) (ea_cons (ev_varV rfl) (ea_cons (ev_var rfl) (ea_cons (ev_op (ev_var (d := t.enc) rfl) ev_int (rr_ixT at1)) ea_nil))) (.inr rfl) hs.ls hs.ll (by omega) hs.lm)))) (fun hb => ?_) (fun hb => ?_)
  · simp at hb
  refine w_nx ?_
  refine w_if hB (et_test (ev_op (ev_op (ev_cb (ea_cons (ev_var rfl) ea_nil) rc_lenT) (ev_cb (ea_cons (en_lcT s.ls PyData.int (fun i => !decide (i ∈ s.bz)) PyData.int (ev_var rfl) (by omega) (by simp) (fun a ha => (et_test (ev_op (ev_var rfl) (ev_var rfl) rr_niT))) (fun a ha hf => (ev_var rfl))).ev ea_nil) rc_lenL) (rr_I0 fun _ => .int _)) (ev_op (ev_var (d := t.enc) rfl) ev_int (rr_ixT at1)) (rr_I0 fun _ => .bl _))) (fun hb => ?_) (fun hb => ?_)
  · have h1 := hs.both
    simp only [List.length_map, decide_eq_true_eq] at hb
    omega
  refine w_nx ?_
  refine w_ret hB (Ev.is (ev_op (en_lcT s.bz PyData.int (fun i => decide (i ∈ endsOf t.tied) && !decide (i ∈ s.ls)) PyData.int (ev_var rfl) (by omega) (by simp) (fun a ha => (et_and (et_test (ev_op (ev_var rfl) (ev_varV rfl) rr_inLi)) fun _ => (et_test (ev_op (ev_var rfl) (ev_var rfl) rr_niT)))) (fun a ha hf => (ev_var rfl))).ev (en_lst ead_nil (by nested_key)).ev (rr_eqNil (shaped_li _))) ?_) hR
  rw [isEmpty_filter]
  simp only [Vd.d.injEq, PyData.bool.injEq, List.all_eq_true]
  intro a ha
  by_cases h : a ∈ endsOf t.tied
  · simp [hs.be a ha h]
  · simp [h]

/-! asked_stand -/
theorem okT_stand (n : Nat) {t : Task} {s : Stand} (ht : TaskOk t) (h : StandOk t s) : okT (n + 3) s.enc := by
  obtain ⟨f1, f2, f3⟩ := h.few ht
  refine ⟨by show 4 < 1000000; decide, fun e he => ?_⟩
  simp only [List.mem_cons, List.not_mem_nil, or_false] at he
  rcases he with rfl | rfl | rfl | rfl
  · trivial
  · exact okT_dI _ _ (by omega)
  · exact okT_dI _ _ (by omega)
  · exact okT_dI _ _ (by omega)
def q_asked_stand : List Vd → Vd → Prop := fun a z => ∃ (t : Task) (s : Stand), a = [.d t.enc, .d s.enc] ∧ TaskOk t ∧ StandOk t s ∧ z = .d s.enc
abbrev sp_asked_stand : Sp := spP q_asked_stand
theorem e_asked_stand {t : Task} {s : Stand} (h : EvA dr ta δ [.d t.enc, .d s.enc]) (ht : TaskOk t) (hs : StandOk t s) : Ev dr (tCall sp_asked_stand [] C8.E0 ta) δ (.d s.enc) := ev_call h ⟨_, _, rfl, ht, hs, rfl⟩
abbrev s_asked_stand : Stmt := Hd.top 37
abbrev N_asked_stand : List Str := ["task", "thing"]
theorem nd_asked_stand : N_asked_stand.Nodup := by decide +kernel
theorem sc_asked_stand : C8.scC N_asked_stand ["task", "thing"] (C8.fnScope s_asked_stand) = true := by decide +kernel
def t_asked_stand (K : PySem.W.Frag) : TS :=
  (tSeq (tIfS (tNot (tB (tCall sp_is_stand_of [] C8.E0 (tCons (tVar 0) (tCons (tVar 1) tNil))))) (tSeq tNever
  tNext) tNext)
  (tSeq (tRet (tCall sp_told_rows [] C8.E0 (tCons (tVar 1) tNil)))
  tNext))
theorem d_asked_stand {P : Program} {w : World} {K : PySem.W.Frag} {mg : Str → Option Value} {base : Heap} (T : Top K mg) (f : Addr) (cdv : Value) (A : Around) (outer : List Env) (s : Shared) (H : Hp) (E : XK)
    (hr : Room 7 (A.deeper (PyProof.Rows.envOfC "asked_stand" (C8.fnScope s_asked_stand) s.heap.objs.size f cdv))) :
    PSs (cxOf C8.CX0 P w K mg base N_asked_stand "asked_stand" (C8.fnScope s_asked_stand) f cdv A outer s H E).nox (C8.fnBody s_asked_stand) (t_asked_stand K) :=
  (pss_cons (ps_if (pt_not (pt_val (C8.pe_c (c_is_stand_of T) hr (by decide) rfl (pa_cons (pv 0) (pa_cons (pv 1) pa_nil))))) (pss_cons ps_never
  pss_nil) pss_nil)
  (pss_cons (ps_ret (C8.pe_c (c_told_rows T) hr (by decide) rfl (pa_cons (pv 1) pa_nil)))
  pss_nil))
theorem c_asked_stand (T : Top K mg) : C8.Cal P w K mg base 8 "asked_stand" sp_asked_stand [] := by
  refine cal_of T.f_asked_stand sc_asked_stand (t_asked_stand K) (fun zs z h => ?_) (fun f cdv A outer s H E hr => d_asked_stand T f cdv A outer s H E hr) (fun dr B E zs z hp hB hR hN => ?_)
  · obtain ⟨_, _, rfl, _⟩ := h; rfl
  obtain ⟨t, s, rfl, ht, hs, rfl⟩ := hp
  refine w_if hB (et_not (et_B (e_is_stand_of (ea_cons (ev_var rfl) (ea_cons (ev_var rfl) ea_nil)) ht hs))) (fun hb => ?_) (fun hb => ?_)
  · simp at hb
  exact w_nx (w_ret hB (e_told_rows (ea_cons (ev_var rfl) ea_nil) (okT_stand 2 ht hs)) hR)

/-! lies_under -/
def leB : List Int → List Int → Bool
  | a :: as, b :: bs => decide (a ≤ b) && leB as bs
  | _, _ => true
theorem leB_iff : ∀ {xs ys : List Int}, xs.length = ys.length → (leB xs ys = true ↔ ∀ i, i < xs.length → xs.getD i 0 ≤ ys.getD i 0)
  | [], [], _ => by simp [leB]
  | x :: xs, y :: ys, h => by
    have ih := leB_iff (xs := xs) (ys := ys) (by simpa using h)
    simp only [leB, Bool.and_eq_true, decide_eq_true_eq, ih]
    constructor
    · rintro ⟨h1, h2⟩ i hi
      cases i with
      | zero => simpa using h1
      | succ i => simpa using h2 i (by simpa using hi)
    · intro h
      refine ⟨by simpa using h 0 (by simp), fun i hi => ?_⟩
      simpa using h (i + 1) (by simpa using hi)
  | [], _ :: _, h => by simp at h
  | _ :: _, [], h => by simp at h
def underB (s s' : Stand) : Bool := (decide (s.ph = s'.ph) && decide (s.bz = s'.bz)) && (leB s.wt s'.wt && s'.ls.all fun i => decide (i ∈ s.ls))
theorem leB_upto {xs ys : List Int} (h : xs.length = ys.length) : ((upto 0 xs.length).all fun i => !decide (ys.getD i.toNat 0 < xs.getD i.toNat 0)) = leB xs ys := by
  rw [Bool.eq_iff_iff, leB_iff h, List.all_eq_true]
  constructor
  · intro hh i hi
    have := hh (i : Int) (mem_upto.mpr ⟨by omega, by omega⟩)
    simpa using this
  · intro hh i hi
    obtain ⟨a, b⟩ := mem_upto.mp hi
    have := hh i.toNat (by omega)
    simp only [Bool.not_eq_true', decide_eq_false_iff_not, Int.not_lt]
    exact this
def q_lies_under : List Vd → Vd → Prop := fun a z => ∃ (s s' : Stand), a = [.d s.enc, .d s'.enc] ∧ s.wt.length = s'.wt.length ∧ s.wt.length ≤ 1000 ∧ s'.ls.length ≤ 1000 ∧ z = .d (.bool (underB s s'))
abbrev sp_lies_under : Sp := spP q_lies_under
theorem e_lies_under {s s' : Stand} (h : EvA dr ta δ [.d s.enc, .d s'.enc]) (h1 : s.wt.length = s'.wt.length) (h2 : s.wt.length ≤ 1000) (h3 : s'.ls.length ≤ 1000) : Ev dr (tCall sp_lies_under [] C8.E0 ta) δ (.d (.bool (underB s s'))) := ev_call h ⟨_, _, rfl, h1, h2, h3, rfl⟩
abbrev s_lies_under : Stmt := Hd.top 38
abbrev N_lies_under : List Str := ["one", "other", "i"]
theorem nd_lies_under : N_lies_under.Nodup := by decide +kernel
theorem sc_lies_under : C8.scC N_lies_under ["one", "other"] (C8.fnScope s_lies_under) = true := by decide +kernel
def t_lies_under (K : PySem.W.Frag) : TS :=
  (tSeq (tIfS (tOr (tTest (tOp rNe (tOp (rIxT K) (tVar 0) (tC (.int 0))) (tOp (rIxT K) (tVar 1) (tC (.int 0))))) (tTest (tOp (rNeD K) (tOp (rIxT K) (tVar 0) (tC (.int 2))) (tOp (rIxT K) (tVar 1) (tC (.int 2)))))) (tSeq (tRet (tC (.bl false)))
  tNext) tNext)
  (tSeq (tIfS (tTest (tOp (rNeD K) (tLc (iRng1 (tCons (tCB (rLen K) (tCons (tOp (rIxT K) (tVar 0) (tC (.int 1))) tNil)) tNil)) (gName 2) (tTest (tOp oGt (tOp (rIxT K) (tOp (rIxT K) (tVar 0) (tC (.int 1))) (tVar 2)) (tOp (rIxT K) (tOp (rIxT K) (tVar 1) (tC (.int 1))) (tVar 2)))) (tVar 2) [2]) (tLst tNil))) (tSeq (tRet (tC (.bl false)))
  tNext) tNext)
  (tSeq (tRet (tOp (rEqD K) (tLc (iTup K (tOp (rIxT K) (tVar 1) (tC (.int 3)))) (gName 2) (tTest (tOp (rIn K true) (tVar 2) (tOp (rIxT K) (tVar 0) (tC (.int 3))))) (tVar 2) [2]) (tLst tNil)))
  tNext)))
theorem d_lies_under {P : Program} {w : World} {K : PySem.W.Frag} {mg : Str → Option Value} {base : Heap} (T : Top K mg) (f : Addr) (cdv : Value) (A : Around) (outer : List Env) (s : Shared) (H : Hp) (E : XK)
    (hr : Room 0 (A.deeper (PyProof.Rows.envOfC "lies_under" (C8.fnScope s_lies_under) s.heap.objs.size f cdv))) :
    PSs (cxOf C8.CX0 P w K mg base N_lies_under "lies_under" (C8.fnScope s_lies_under) f cdv A outer s H E).nox (C8.fnBody s_lies_under) (t_lies_under K) :=
  (pss_cons (ps_if (PW.pt (pw_or (pt_cmpR op_ne (pe_ix ix_tup (pv 0) pe_int (fun _ _ => rfl)) (pe_ix ix_tup (pv 1) pe_int (fun _ _ => rfl)) (nomark _)) (pw_or1 (pt_cmpR (op_neD hr.units) (pe_ix ix_tup (pv 0) pe_int (fun _ _ => rfl)) (pe_ix ix_tup (pv 1) pe_int (fun _ _ => rfl)) (nomark _))))) (pss_cons (ps_ret pe_bl)
  pss_nil) pss_nil)
  (pss_cons (ps_if (pt_cmpR (op_neD hr.units) (pe_lc (own := [("i", 2)]) (g := gName 2) rfl nd_lies_under (pi_range1 rfl T.n_range (pa_cons (pe_callB cr_len (by rfl) T.n_len bt_len (pa_cons (pe_ix ix_tup (pv 0) pe_int (fun _ _ => rfl)) pa_nil)) pa_nil)) (blkOk_by (N := N_lies_under) (sc := C8.fnScope s_lies_under) (by decide +kernel)) (fun _ _ _ _ _ => pg_name (i := 2) nd_lies_under rfl (by first | exact Or.inl rfl | exact Or.inr rfl)) (fun _ _ _ _ _ => pts_one (pt_cmpR op_gt (pe_ix ix_tup (pe_ix ix_tup (pv 0) pe_int (fun _ _ => rfl)) (pv 2) (fun _ _ => rfl)) (pe_ix ix_tup (pe_ix ix_tup (pv 1) pe_int (fun _ _ => rfl)) (pv 2) (fun _ _ => rfl)) (nomark _))) (fun _ _ _ _ _ => (pv 2))) (pe_lst pa_nil) (nomark _)) (pss_cons (ps_ret pe_bl)
  pss_nil) pss_nil)
  (pss_cons (ps_ret (pe_cmpR (op_eqD hr.units) (pe_lc (own := [("i", 2)]) (g := gName 2) rfl nd_lies_under (pi_tup (pe_ix ix_tup (pv 1) pe_int (fun _ _ => rfl))) (blkOk_by (N := N_lies_under) (sc := C8.fnScope s_lies_under) (by decide +kernel)) (fun _ _ _ _ _ => pg_name (i := 2) nd_lies_under rfl (by first | exact Or.inl rfl | exact Or.inr rfl)) (fun _ _ _ _ _ => pts_one (pt_cmpR op_notIn_seq (pv 2) (pe_ix ix_tup (pv 0) pe_int (fun _ _ => rfl)) (by rfl))) (fun _ _ _ _ _ => (pv 2))) (pe_lst pa_nil) (nomark _)))
  pss_nil)))
theorem getDI {xs : List Int} {i : Int} (h0 : 0 ≤ i) (h : i < xs.length) : xs[i.toNat]? = some (xs.getD i.toNat 0) := by
  rw [List.getD_eq_getElem?_getD, getI h0 h]; rfl
theorem c_lies_under (T : Top K mg) : C8.Cal P w K mg base 1 "lies_under" sp_lies_under [] := by
  refine cal_of T.f_lies_under sc_lies_under (t_lies_under K) (fun zs z h => ?_) (fun f cdv A outer s H E hr => d_lies_under T f cdv A outer s H E hr) (fun dr B E zs z hp hB hR hN => ?_)
  · obtain ⟨_, _, rfl, _⟩ := h; rfl
  obtain ⟨s, s', rfl, hl, h2, h3, rfl⟩ := hp
  refine w_if hB (et_or (et_test (ev_op (ev_op (ev_var (d := s.enc) rfl) ev_int (rr_ixT at0)) (ev_op (ev_var (d := s'.enc) rfl) ev_int (rr_ixT at0)) rr_neI)) fun _ => (et_test (ev_op (ev_op (ev_var (d := s.enc) rfl) ev_int (rr_ixT at2)) (ev_op (ev_var (d := s'.enc) rfl) ev_int (rr_ixT at2)) (rr_neD ((sh_dI _).ok (by decide)) ((sh_dI _).ok (by decide)))))) (fun hb => ?_) (fun hb => ?_)
  · refine w_ret hB (Ev.is ev_bl ?_) hR
    rw [eqv_dI] at hb
    have e : (decide (s.ph = s'.ph) && decide (s.bz = s'.bz)) = false := by
      cases h : decide (s.ph = s'.ph) <;> cases h' : decide (s.bz = s'.bz) <;> simp [h, h'] at hb ⊢
    unfold underB; rw [e]; rfl
  have e : (decide (s.ph = s'.ph) && decide (s.bz = s'.bz)) = true := by
    rw [eqv_dI] at hb
    cases h : decide (s.ph = s'.ph) <;> cases h' : decide (s.bz = s'.bz) <;> simp [h, h'] at hb ⊢
  refine w_nx ?_
  refine w_if hB (et_test (ev_op (en_lcR1 (fun i => decide (s'.wt.getD i.toNat 0 < s.wt.getD i.toNat 0)) PyData.int (ea_cons (ev_cb (ea_cons (ev_op (ev_var (d := s.enc) rfl) ev_int (rr_ixT at1)) ea_nil) rc_lenT) ea_nil) (by simp; omega) (by omega) (by simp) (fun i hi1 hi2 => ?_) (fun i hi1 hi2 hf => (ev_var rfl))).ev (en_lst ead_nil (by nested_key)).ev (rr_neNil (shaped_li _)))) (fun hb => ?_) (fun hb => ?_)
  · simp only [List.length_map] at hi2
    exact (et_test (ev_op (ev_op (ev_op (ev_var (d := s.enc) rfl) ev_int (rr_ixT at1)) (ev_var rfl) (rr_ixT (at_map hi1 (getDI hi1 hi2)))) (ev_op (ev_op (ev_var (d := s'.enc) rfl) ev_int (rr_ixT at1)) (ev_var rfl) (rr_ixT (at_map hi1 (getDI hi1 (by omega))))) (rr_I0 fun _ => .bl _)))
  · refine w_ret hB (Ev.is ev_bl ?_) hR
    rw [isEmpty_filter] at hb
    simp only [List.length_map, Int.toNat_natCast] at hb
    rw [leB_upto hl] at hb
    have e2 : leB s.wt s'.wt = false := by simpa using hb
    unfold underB; rw [e, e2]; rfl
  refine w_nx ?_
  refine w_ret hB (Ev.is (ev_op (en_lcT s'.ls PyData.int (fun i => !decide (i ∈ s.ls)) PyData.int (ev_op (ev_var (d := s'.enc) rfl) ev_int (rr_ixT at3)) (by omega) (by simp) (fun a ha => (et_test (ev_op (ev_var rfl) (ev_op (ev_var (d := s.enc) rfl) ev_int (rr_ixT at3)) rr_niT))) (fun a ha hf => (ev_var rfl))).ev (en_lst ead_nil (by nested_key)).ev (rr_eqNil (shaped_li _))) ?_) hR
  rw [isEmpty_filter] at hb ⊢
  simp only [List.length_map, Int.toNat_natCast] at hb
  rw [leB_upto hl] at hb
  have e2 : leB s.wt s'.wt = true := by simpa using hb
  unfold underB; rw [e, e2]
  simp
end
end Ed
end
section
set_option maxHeartbeats 4000000
namespace Ed
open PySem L2
local macro_rules | `(tactic| nested_key) => `(tactic| first
  | rfl
  | assumption
  | omega
  | exact Nat.le_of_ble_eq_true rfl
  | decide
  | (simp only [List.length_map, small]; omega)
  | (simp [small]; done)
  | (simp only [Vd.sd, setAll, List.set, mutAll, okm, Fr] at *; simp_all; done))

section
variable {P : Program} {w : World} {K : PySem.W.Frag} {mg : Str → Option Value} {base : Heap} {dr : Option Addr} {δ : List Sd} {ta : TA}

/-! is_lead -/
def q_is_lead : List Vd → Vd → Prop := fun a z => ∃ m ds, a = [.d (.int m), .d (dII ds)] ∧ z = .d (.bool (daysB m ds))
abbrev sp_is_lead : Sp := spP q_is_lead
theorem e_is_lead {m : Int} {ds : List (List Int)} (h : EvA dr ta δ [.d (.int m), .d (dII ds)]) : Ev dr (tCall sp_is_lead [] C8.E0 ta) δ (.d (.bool (daysB m ds))) := ev_call h ⟨_, _, rfl, rfl⟩
abbrev s_is_lead : Stmt := Hd.top 42
abbrev N_is_lead : List Str := ["many", "thing", "day"]
theorem nd_is_lead : N_is_lead.Nodup := by decide +kernel
theorem sc_is_lead : C8.scC N_is_lead ["many", "thing"] (C8.fnScope s_is_lead) = true := by decide +kernel
def t_is_lead (K : PySem.W.Frag) : TS :=
  (tSeq (tRet (tAndV (tCall sp_is_row [] C8.E0 (tCons (tVar 1) tNil)) (tAndV (tOp oLe (tCB (rLen K) (tCons (tVar 1) tNil)) (tC (.int 4000))) (tCB (rAll K) (tCons (tLc (iTup K (tVar 1)) (gName 2) tYes (tCall sp_is_day [] C8.E0 (tCons (tVar 0) (tCons (tVar 2) tNil))) [2]) tNil)))))
  tNext)
theorem d_is_lead {P : Program} {w : World} {K : PySem.W.Frag} {mg : Str → Option Value} {base : Heap} (T : Top K mg) (f : Addr) (cdv : Value) (A : Around) (outer : List Env) (s : Shared) (H : Hp) (E : XK)
    (hr : Room 3 (A.deeper (PyProof.Rows.envOfC "is_lead" (C8.fnScope s_is_lead) s.heap.objs.size f cdv))) :
    PSs (cxOf C8.CX0 P w K mg base N_is_lead "is_lead" (C8.fnScope s_is_lead) f cdv A outer s H E).nox (C8.fnBody s_is_lead) (t_is_lead K) :=
  (pss_cons (ps_ret (pe_and (C8.pe_c (c_is_row T) hr (by decide) rfl (pa_cons (pv 1) pa_nil)) (pe_and (pe_cmpR op_le (pe_callB cr_len (by rfl) T.n_len bt_len (pa_cons (pv 1) pa_nil)) (C8.pe_gc (v := .int 4000) rfl T.c_MOST_LEAD) (nomark _)) (pe_one (pe_callB (cr_all rfl) (by rfl) T.n_all bt_all (pa_cons (pe_lc (own := [("day", 2)]) (g := gName 2) rfl nd_is_lead (pi_tup (pv 1)) (blkOk_by (N := N_is_lead) (sc := C8.fnScope s_is_lead) (by decide +kernel)) (fun _ _ _ _ _ => pg_name (i := 2) nd_is_lead rfl (by first | exact Or.inl rfl | exact Or.inr rfl)) (fun _ _ _ _ _ => pts_nil) (fun _ _ _ _ _ => (C8.pe_c (c_is_day T) hr (by decide) rfl (pa_cons (pv 0) (pa_cons (pv 2) pa_nil))))) pa_nil))))))
  pss_nil)
theorem all_id_map {α : Type} (f : α → Bool) (xs : List α) : (xs.map f).all id = xs.all f := by rw [List.all_map]; rfl
theorem c_is_lead (T : Top K mg) : C8.Cal P w K mg base 4 "is_lead" sp_is_lead [] := by
  refine cal_of T.f_is_lead sc_is_lead (t_is_lead K) (fun zs z h => ?_) (fun f cdv A outer s H E hr => d_is_lead T f cdv A outer s H E hr) (fun dr B E zs z hp hB hR hN => ?_)
  · obtain ⟨_, _, rfl, _⟩ := h; rfl
  obtain ⟨m, ds, rfl, rfl⟩ := hp
  refine w_ret hB (Ev.is (ev_andV (e_is_row (ea_cons (ev_var rfl) ea_nil)) fun _ => (ev_andV (ev_op (ev_cb (ea_cons (ev_var rfl) ea_nil) rc_lenT) ev_int (rr_I0 fun _ => .bl _)) fun hl => (ev_cb (ea_cons ((en_lcT ds dI (fun _ => true) (fun a => .bool (dayB m a)) (ev_var rfl) (by simp at hl; omega) (by simp) (fun a ha => et_yes) (fun a ha hf => (e_is_day (ea_cons (ev_var rfl) (ea_cons (ev_var rfl) ea_nil))))).is (show _ = (ds.map (dayB m)).map PyData.bool by rw [filt_true, List.map_map]; rfl)).ev ea_nil) rc_all))) ?_) hR
  rw [all_id_map]
  simp [daysB, rowB, dII]

/-! is_on -/
def onF (t : Task) (lead ring : List (List Int)) : Bool := daysB t.num.length lead && ringB t.num.length ring
def q_is_on : List Vd → Vd → Prop := fun a z => ∃ (t : Task) (lead ring : List (List Int)), a = [.d t.enc, .d (Ans.on lead ring).enc] ∧ z = .d (.bool (onF t lead ring))
abbrev sp_is_on : Sp := spP q_is_on
theorem e_is_on {t : Task} {lead ring : List (List Int)} (h : EvA dr ta δ [.d t.enc, .d (Ans.on lead ring).enc]) : Ev dr (tCall sp_is_on [] C8.E0 ta) δ (.d (.bool (onF t lead ring))) := ev_call h ⟨_, _, _, rfl, rfl⟩
abbrev s_is_on : Stmt := Hd.top 43
abbrev N_is_on : List Str := ["task", "thing", "many"]
theorem nd_is_on : N_is_on.Nodup := by decide +kernel
theorem sc_is_on : C8.scC N_is_on ["task", "thing"] (C8.fnScope s_is_on) = true := by decide +kernel
def t_is_on (K : PySem.W.Frag) : TS :=
  (tSeq (tAsg (tCB (rLen K) (tCons (tOp (rIxT K) (tVar 0) (tC (.int 0))) tNil)) (gName 2))
  (tSeq (tRet (tAndV (tOp rEq (tCB (rLen K) (tCons (tVar 1) tNil)) (tC (.int 3))) (tAndV (tCall sp_is_lead [] C8.E0 (tCons (tVar 2) (tCons (tOp (rIxT K) (tVar 1) (tC (.int 1))) tNil))) (tCall sp_is_ring [] C8.E0 (tCons (tVar 2) (tCons (tOp (rIxT K) (tVar 1) (tC (.int 2))) tNil))))))
  tNext))
theorem d_is_on {P : Program} {w : World} {K : PySem.W.Frag} {mg : Str → Option Value} {base : Heap} (T : Top K mg) (f : Addr) (cdv : Value) (A : Around) (outer : List Env) (s : Shared) (H : Hp) (E : XK)
    (hr : Room 5 (A.deeper (PyProof.Rows.envOfC "is_on" (C8.fnScope s_is_on) s.heap.objs.size f cdv))) :
    PSs (cxOf C8.CX0 P w K mg base N_is_on "is_on" (C8.fnScope s_is_on) f cdv A outer s H E).nox (C8.fnBody s_is_on) (t_is_on K) :=
  (pss_cons (ps_set (i := 2) nd_is_on rfl (by first | exact Or.inl rfl | exact Or.inr rfl) (pe_callB cr_len (by rfl) T.n_len bt_len (pa_cons (pe_ix ix_tup (pv 0) pe_int (fun _ _ => rfl)) pa_nil)))
  (pss_cons (ps_ret (pe_and (pe_cmpR op_eq (pe_callB cr_len (by rfl) T.n_len bt_len (pa_cons (pv 1) pa_nil)) pe_int (nomark _)) (pe_and (C8.pe_c (c_is_lead T) hr (by decide) rfl (pa_cons (pv 2) (pa_cons (pe_ix ix_tup (pv 1) pe_int (fun _ _ => rfl)) pa_nil))) (pe_one (C8.pe_c (c_is_ring T) hr (by decide) rfl (pa_cons (pv 2) (pa_cons (pe_ix ix_tup (pv 1) pe_int (fun _ _ => rfl)) pa_nil)))))))
  pss_nil))
theorem c_is_on (T : Top K mg) : C8.Cal P w K mg base 6 "is_on" sp_is_on [] := by
  refine cal_of T.f_is_on sc_is_on (t_is_on K) (fun zs z h => ?_) (fun f cdv A outer s H E hr => d_is_on T f cdv A outer s H E hr) (fun dr B E zs z hp hB hR hN => ?_)
  · obtain ⟨_, _, _, rfl, _⟩ := h; rfl
  obtain ⟨t, lead, ring, rfl, rfl⟩ := hp
  refine w_asg hB (ev_cb (ea_cons (ev_op (ev_var (d := t.enc) rfl) ev_int (rr_ixT at0)) ea_nil) rc_lenT) ?_
  refine w_ret hB (Ev.is (ev_andV (ev_op (ev_cb (ea_cons (ev_var (d := (Ans.on lead ring).enc) rfl) ea_nil) rc_lenT) ev_int rr_eqI) fun _ => (ev_andV (e_is_lead (ea_cons (ev_var rfl) (ea_cons (ev_op (ev_var (d := (Ans.on lead ring).enc) rfl) ev_int (rr_ixT at1)) ea_nil))) fun _ => (e_is_ring (ea_cons (ev_var rfl) (ea_cons (ev_op (ev_var (d := (Ans.on lead ring).enc) rfl) ev_int (rr_ixT at2)) ea_nil))))) ?_) hR
  simp [onF]

/-! is_count -/
def countP (t : Task) (d p : Int) : Prop := 1 ≤ d ∧ d ≤ 1000000 ∧ 0 ≤ p ∧ p < t.off.length
def q_is_count : List Vd → Vd → Prop := fun a z => ∃ (t : Task) (d p : Int), a = [.d t.enc, .d (Ans.count d p).enc] ∧ countP t d p ∧ z = .d (.bool true)
abbrev sp_is_count : Sp := spP q_is_count
theorem e_is_count {t : Task} {d p : Int} (h : EvA dr ta δ [.d t.enc, .d (Ans.count d p).enc]) (hc : countP t d p) : Ev dr (tCall sp_is_count [] C8.E0 ta) δ (.d (.bool true)) := ev_call h ⟨_, _, _, rfl, hc, rfl⟩
abbrev s_is_count : Stmt := Hd.top 44
abbrev N_is_count : List Str := ["task", "thing"]
theorem nd_is_count : N_is_count.Nodup := by decide +kernel
theorem sc_is_count : C8.scC N_is_count ["task", "thing"] (C8.fnScope s_is_count) = true := by decide +kernel
def t_is_count (K : PySem.W.Frag) : TS :=
  (tSeq (tIfS (tOr (tTest (tOp rNe (tCB (rLen K) (tCons (tVar 1) tNil)) (tC (.int 3)))) (tNot (tB (tCall sp_is_whole [] C8.E0 (tCons (tOp (rIxT K) (tVar 1) (tC (.int 1))) (tCons (tC (.int 1)) (tCons (tC (.int 1000000)) tNil))))))) (tSeq (tRet (tC (.bl false)))
  tNext) tNext)
  (tSeq (tRet (tCall sp_is_whole [] C8.E0 (tCons (tOp (rIxT K) (tVar 1) (tC (.int 2))) (tCons (tC (.int 0)) (tCons (tOp oSub (tCB (rLen K) (tCons (tOp (rIxT K) (tVar 0) (tC (.int 2))) tNil)) (tC (.int 1))) tNil)))))
  tNext))
theorem d_is_count {P : Program} {w : World} {K : PySem.W.Frag} {mg : Str → Option Value} {base : Heap} (T : Top K mg) (f : Addr) (cdv : Value) (A : Around) (outer : List Env) (s : Shared) (H : Hp) (E : XK)
    (hr : Room 1 (A.deeper (PyProof.Rows.envOfC "is_count" (C8.fnScope s_is_count) s.heap.objs.size f cdv))) :
    PSs (cxOf C8.CX0 P w K mg base N_is_count "is_count" (C8.fnScope s_is_count) f cdv A outer s H E).nox (C8.fnBody s_is_count) (t_is_count K) :=
  (pss_cons (ps_if (PW.pt (pw_or (pt_cmpR op_ne (pe_callB cr_len (by rfl) T.n_len bt_len (pa_cons (pv 1) pa_nil)) pe_int (nomark _)) (pw_or1 (pt_not (pt_val (C8.pe_c (c_is_whole T) hr (by decide) rfl (pa_cons (pe_ix ix_tup (pv 1) pe_int (fun _ _ => rfl)) (pa_cons pe_int (pa_cons (C8.pe_gc (v := .int 1000000) rfl T.c_MOST_DAYS) pa_nil))))))))) (pss_cons (ps_ret pe_bl)
  pss_nil) pss_nil)
  (pss_cons (ps_ret (C8.pe_c (c_is_whole T) hr (by decide) rfl (pa_cons (pe_ix ix_tup (pv 1) pe_int (fun _ _ => rfl)) (pa_cons pe_int (pa_cons (pe_op op_sub (pe_callB cr_len (by rfl) T.n_len bt_len (pa_cons (pe_ix ix_tup (pv 0) pe_int (fun _ _ => rfl)) pa_nil)) pe_int) pa_nil)))))
  pss_nil))
theorem c_is_count (T : Top K mg) : C8.Cal P w K mg base 2 "is_count" sp_is_count [] := by
  refine cal_of T.f_is_count sc_is_count (t_is_count K) (fun zs z h => ?_) (fun f cdv A outer s H E hr => d_is_count T f cdv A outer s H E hr) (fun dr B E zs z hp hB hR hN => ?_)
  · obtain ⟨_, _, _, rfl, _⟩ := h; rfl
  obtain ⟨t, d, p, rfl, ⟨h1, h2, h3, h4⟩, rfl⟩ := hp
  refine w_if hB (et_or (et_test (ev_op (ev_cb (ea_cons (ev_var (d := (Ans.count d p).enc) rfl) ea_nil) rc_lenT) ev_int rr_neI)) fun _ => (et_not (et_B (e_is_whole (ea_cons (ev_op (ev_var (d := (Ans.count d p).enc) rfl) ev_int (rr_ixT at1)) (ea_cons ev_int (ea_cons ev_int ea_nil))))))) (fun hb => ?_) (fun hb => ?_)
  · simp [wholeB] at hb; omega
  refine w_nx ?_
  refine w_ret hB (Ev.is (e_is_whole (ea_cons (ev_op (ev_var (d := (Ans.count d p).enc) rfl) ev_int (rr_ixT at2)) (ea_cons ev_int (ea_cons (ev_op (ev_cb (ea_cons (ev_op (ev_var (d := t.enc) rfl) ev_int (rr_ixT at2)) ea_nil) rc_lenT) ev_int (rr_I0 fun _ => .int _)) ea_nil)))) ?_) hR
  simp only [wholeB, List.length_map, Vd.d.injEq, PyData.bool.injEq, Bool.and_eq_true, decide_eq_true_eq]
  omega

/-! is_walk -/
def walkP (t : Task) (st : List Stand) : Prop := 1 ≤ st.length ∧ st.length ≤ 4000 ∧ ∀ s ∈ st, StandOk t s
def q_is_walk : List Vd → Vd → Prop := fun a z => ∃ (t : Task) (st : List Stand), a = [.d t.enc, .d (Ans.walk st).enc] ∧ TaskOk t ∧ walkP t st ∧ z = .d (.bool true)
abbrev sp_is_walk : Sp := spP q_is_walk
theorem e_is_walk {t : Task} {st : List Stand} (h : EvA dr ta δ [.d t.enc, .d (Ans.walk st).enc]) (ht : TaskOk t) (hc : walkP t st) : Ev dr (tCall sp_is_walk [] C8.E0 ta) δ (.d (.bool true)) := ev_call h ⟨_, _, rfl, ht, hc, rfl⟩
abbrev s_is_walk : Stmt := Hd.top 45
abbrev N_is_walk : List Str := ["task", "thing", "stand"]
theorem nd_is_walk : N_is_walk.Nodup := by decide +kernel
theorem sc_is_walk : C8.scC N_is_walk ["task", "thing"] (C8.fnScope s_is_walk) = true := by decide +kernel
def t_is_walk (K : PySem.W.Frag) : TS :=
  (tSeq (tIfS (tOr (tTest (tOp rNe (tCB (rLen K) (tCons (tVar 1) tNil)) (tC (.int 2)))) (tOr (tNot (tB (tCall sp_is_row [] C8.E0 (tCons (tOp (rIxT K) (tVar 1) (tC (.int 1))) tNil)))) (tNot (tTest (tChain oLe oLe (tC (.int 1)) (tCB (rLen K) (tCons (tOp (rIxT K) (tVar 1) (tC (.int 1))) tNil)) (tC (.int 4000))))))) (tSeq (tRet (tC (.bl false)))
  tNext) tNext)
  (tSeq (tRet (tCB (rAll K) (tCons (tLc (iTup K (tOp (rIxT K) (tVar 1) (tC (.int 1)))) (gName 2) tYes (tCall sp_is_stand_of [] C8.E0 (tCons (tVar 0) (tCons (tVar 2) tNil))) [2]) tNil)))
  tNext))
theorem d_is_walk {P : Program} {w : World} {K : PySem.W.Frag} {mg : Str → Option Value} {base : Heap} (T : Top K mg) (f : Addr) (cdv : Value) (A : Around) (outer : List Env) (s : Shared) (H : Hp) (E : XK)
    (hr : Room 4 (A.deeper (PyProof.Rows.envOfC "is_walk" (C8.fnScope s_is_walk) s.heap.objs.size f cdv))) :
    PSs (cxOf C8.CX0 P w K mg base N_is_walk "is_walk" (C8.fnScope s_is_walk) f cdv A outer s H E).nox (C8.fnBody s_is_walk) (t_is_walk K) :=
  (pss_cons (ps_if (PW.pt (pw_or (pt_cmpR op_ne (pe_callB cr_len (by rfl) T.n_len bt_len (pa_cons (pv 1) pa_nil)) pe_int (nomark _)) (pw_or (pt_not (pt_val (C8.pe_c (c_is_row T) hr (by decide) rfl (pa_cons (pe_ix ix_tup (pv 1) pe_int (fun _ _ => rfl)) pa_nil)))) (pw_or1 (pt_not (pt_chain op_le op_le pe_int (pe_callB cr_len (by rfl) T.n_len bt_len (pa_cons (pe_ix ix_tup (pv 1) pe_int (fun _ _ => rfl)) pa_nil)) (C8.pe_gc (v := .int 4000) rfl T.c_MOST_STANDS))))))) (pss_cons (ps_ret pe_bl)
  pss_nil) pss_nil)
  (pss_cons (ps_ret (pe_callB (cr_all rfl) (by rfl) T.n_all bt_all (pa_cons (pe_lc (own := [("stand", 2)]) (g := gName 2) rfl nd_is_walk (pi_tup (pe_ix ix_tup (pv 1) pe_int (fun _ _ => rfl))) (blkOk_by (N := N_is_walk) (sc := C8.fnScope s_is_walk) (by decide +kernel)) (fun _ _ _ _ _ => pg_name (i := 2) nd_is_walk rfl (by first | exact Or.inl rfl | exact Or.inr rfl)) (fun _ _ _ _ _ => pts_nil) (fun _ _ _ _ _ => (C8.pe_c (c_is_stand_of T) hr (by decide) rfl (pa_cons (pv 0) (pa_cons (pv 2) pa_nil))))) pa_nil)))
  pss_nil))
theorem c_is_walk (T : Top K mg) : C8.Cal P w K mg base 5 "is_walk" sp_is_walk [] := by
  refine cal_of T.f_is_walk sc_is_walk (t_is_walk K) (fun zs z h => ?_) (fun f cdv A outer s H E hr => d_is_walk T f cdv A outer s H E hr) (fun dr B E zs z hp hB hR hN => ?_)
  · obtain ⟨_, _, rfl, _⟩ := h; rfl
  obtain ⟨t, st, rfl, ht, ⟨h1, h2, h3⟩, rfl⟩ := hp
  refine w_if hB (et_or (et_test (ev_op (ev_cb (ea_cons (ev_var (d := (Ans.walk st).enc) rfl) ea_nil) rc_lenT) ev_int rr_neI)) fun _ => (et_or (et_not (et_B (e_is_row (ea_cons (ev_op (ev_var (d := (Ans.walk st).enc) rfl) ev_int (rr_ixT at1)) ea_nil)))) fun _ => (et_not (et_test (ev_chain ev_int (ev_cb (ea_cons (ev_op (ev_var (d := (Ans.walk st).enc) rfl) ev_int (rr_ixT at1)) ea_nil) rc_lenT) ev_int (rr_I0 fun _ => .bl _) (rr_I0 fun _ => .bl _)))))) (fun hb => ?_) (fun hb => ?_)
  · simp [rowB] at hb; omega
  refine w_nx ?_
  refine w_ret hB (Ev.is (ev_cb (ea_cons ((en_lcT st Stand.enc (fun _ => true) (fun _ => .bool true) (ev_op (ev_var (d := (Ans.walk st).enc) rfl) ev_int (rr_ixT at1)) (by omega) (by simp) (fun a ha => et_yes) (fun a ha hf => (e_is_stand_of (ea_cons (ev_var rfl) (ea_cons (ev_var rfl) ea_nil)) ht (h3 a ha)))).is (show _ = (st.map (fun _ => true)).map PyData.bool by rw [filt_true, List.map_map]; rfl)).ev ea_nil) rc_all) ?_) hR
  rw [all_id_map]
  simp

/-! is_answer_of -/
def AnsP (t : Task) : Ans → Prop
  | .on _ _ => True
  | .count d p => countP t d p
  | .walk st => walkP t st
def ansB (t : Task) : Ans → Bool
  | .on lead ring => onF t lead ring
  | _ => true
def q_is_answer_of : List Vd → Vd → Prop := fun a z => ∃ (t : Task) (x : Ans), a = [.d t.enc, .d x.enc] ∧ TaskOk t ∧ AnsP t x ∧ z = .d (.bool (ansB t x))
abbrev sp_is_answer_of : Sp := spP q_is_answer_of
theorem e_is_answer_of {t : Task} {x : Ans} (h : EvA dr ta δ [.d t.enc, .d x.enc]) (ht : TaskOk t) (hx : AnsP t x) : Ev dr (tCall sp_is_answer_of [] C8.E0 ta) δ (.d (.bool (ansB t x))) := ev_call h ⟨_, _, rfl, ht, hx, rfl⟩
abbrev s_is_answer_of : Stmt := Hd.top 46
abbrev N_is_answer_of : List Str := ["task", "thing"]
theorem nd_is_answer_of : N_is_answer_of.Nodup := by decide +kernel
theorem sc_is_answer_of : C8.scC N_is_answer_of ["task", "thing"] (C8.fnScope s_is_answer_of) = true := by decide +kernel
def t_is_answer_of (K : PySem.W.Frag) : TS :=
  (tSeq (tIfS (tOr (tNot (tB (tCall sp_is_row [] C8.E0 (tCons (tVar 1) tNil)))) (tOr (tTest (tOp rEq (tCB (rLen K) (tCons (tVar 1) tNil)) (tC (.int 0)))) (tNot (tB (tCB (rIsi K) (tCons (tOp (rIxT K) (tVar 1) (tC (.int 0))) (tCons (tC (.ty "str")) tNil))))))) (tSeq (tRet (tC (.bl false)))
  tNext) tNext)
  (tSeq (tIfS (tTest (tOp rEq (tOp (rIxT K) (tVar 1) (tC (.int 0))) (tC (.str "on")))) (tSeq (tRet (tCall sp_is_on [] C8.E0 (tCons (tVar 0) (tCons (tVar 1) tNil))))
  tNext) tNext)
  (tSeq (tIfS (tTest (tOp rEq (tOp (rIxT K) (tVar 1) (tC (.int 0))) (tC (.str "count")))) (tSeq (tRet (tCall sp_is_count [] C8.E0 (tCons (tVar 0) (tCons (tVar 1) tNil))))
  tNext) tNext)
  (tSeq (tRet (tAndV (tOp rEq (tOp (rIxT K) (tVar 1) (tC (.int 0))) (tC (.str "walk"))) (tCall sp_is_walk [] C8.E0 (tCons (tVar 0) (tCons (tVar 1) tNil)))))
  tNext))))
theorem d_is_answer_of {P : Program} {w : World} {K : PySem.W.Frag} {mg : Str → Option Value} {base : Heap} (T : Top K mg) (f : Addr) (cdv : Value) (A : Around) (outer : List Env) (s : Shared) (H : Hp) (E : XK)
    (hr : Room 6 (A.deeper (PyProof.Rows.envOfC "is_answer_of" (C8.fnScope s_is_answer_of) s.heap.objs.size f cdv))) :
    PSs (cxOf C8.CX0 P w K mg base N_is_answer_of "is_answer_of" (C8.fnScope s_is_answer_of) f cdv A outer s H E).nox (C8.fnBody s_is_answer_of) (t_is_answer_of K) :=
  (pss_cons (ps_if (PW.pt (pw_or (pt_not (pt_val (C8.pe_c (c_is_row T) hr (by decide) rfl (pa_cons (pv 1) pa_nil)))) (pw_or (pt_cmpR op_eq (pe_callB cr_len (by rfl) T.n_len bt_len (pa_cons (pv 1) pa_nil)) pe_int (nomark _)) (pw_or1 (pt_not (pt_val (pe_callB call_isi (by rfl) T.n_isinstance bt_isinstance (pa_cons (pe_ix ix_tup (pv 1) pe_int (fun _ _ => rfl)) (pa_cons (pe_bltn (v := .ty "str") (by rfl) T.n_str bt_str rfl) pa_nil))))))))) (pss_cons (ps_ret pe_bl)
  pss_nil) pss_nil)
  (pss_cons (ps_if (pt_cmpR op_eq (pe_ix ix_tup (pv 1) pe_int (fun _ _ => rfl)) pe_str (nomark _)) (pss_cons (ps_ret (C8.pe_c (c_is_on T) hr (by decide) rfl (pa_cons (pv 0) (pa_cons (pv 1) pa_nil))))
  pss_nil) pss_nil)
  (pss_cons (ps_if (pt_cmpR op_eq (pe_ix ix_tup (pv 1) pe_int (fun _ _ => rfl)) pe_str (nomark _)) (pss_cons (ps_ret (C8.pe_c (c_is_count T) hr (by decide) rfl (pa_cons (pv 0) (pa_cons (pv 1) pa_nil))))
  pss_nil) pss_nil)
  (pss_cons (ps_ret (pe_and (pe_cmpR op_eq (pe_ix ix_tup (pv 1) pe_int (fun _ _ => rfl)) pe_str (nomark _)) (pe_one (C8.pe_c (c_is_walk T) hr (by decide) rfl (pa_cons (pv 0) (pa_cons (pv 1) pa_nil))))))
  pss_nil))))
theorem s_oc : decide (("on" : Str) = "on") = true ∧ decide (("count" : Str) = "on") = false ∧ decide (("walk" : Str) = "on") = false ∧ decide (("count" : Str) = "count") = true ∧ decide (("walk" : Str) = "count") = false ∧ decide (("walk" : Str) = "walk") = true := by decide +kernel
theorem c_is_answer_of (T : Top K mg) : C8.Cal P w K mg base 7 "is_answer_of" sp_is_answer_of [] := by
  refine cal_of T.f_is_answer_of sc_is_answer_of (t_is_answer_of K) (fun zs z h => ?_) (fun f cdv A outer s H E hr => d_is_answer_of T f cdv A outer s H E hr) (fun dr B E zs z hp hB hR hN => ?_)
  · obtain ⟨_, _, rfl, _⟩ := h; rfl
  obtain ⟨t, x, rfl, ht, hx, rfl⟩ := hp
  obtain ⟨s1, s2, s3, s4, s5, s6⟩ := s_oc
  cases x with
  | on lead ring =>
    refine w_if hB (et_or (et_not (et_B (e_is_row (ea_cons (ev_var (d := (Ans.on lead ring).enc) rfl) ea_nil)))) fun _ => (et_or (et_test (ev_op (ev_cb (ea_cons (ev_var (d := (Ans.on lead ring).enc) rfl) ea_nil) rc_lenT) ev_int rr_eqI)) fun _ => (et_not (et_B (ev_isi (ev_op (ev_var (d := (Ans.on lead ring).enc) rfl) ev_int (rr_ixT at0)) kit_str_str))))) (fun hb => ?_) (fun hb => w_nx ?_)
    · simp [rowB, Ans.enc] at hb
    refine w_if hB (et_test (ev_op (ev_op (ev_var (d := (Ans.on lead ring).enc) rfl) ev_int (rr_ixT at0)) ev_str rr_eqS)) (fun hb => ?_) (fun hb => ?_)
    · exact w_ret hB (e_is_on (ea_cons (ev_var rfl) (ea_cons (ev_var rfl) ea_nil))) hR
    · rw [s1] at hb; simp at hb
  | count d p =>
    refine w_if hB (et_or (et_not (et_B (e_is_row (ea_cons (ev_var (d := (Ans.count d p).enc) rfl) ea_nil)))) fun _ => (et_or (et_test (ev_op (ev_cb (ea_cons (ev_var (d := (Ans.count d p).enc) rfl) ea_nil) rc_lenT) ev_int rr_eqI)) fun _ => (et_not (et_B (ev_isi (ev_op (ev_var (d := (Ans.count d p).enc) rfl) ev_int (rr_ixT at0)) kit_str_str))))) (fun hb => ?_) (fun hb => w_nx ?_)
    · simp [rowB, Ans.enc] at hb
    refine w_if hB (et_test (ev_op (ev_op (ev_var (d := (Ans.count d p).enc) rfl) ev_int (rr_ixT at0)) ev_str rr_eqS)) (fun hb => ?_) (fun hb => w_nx ?_)
    · rw [s2] at hb; simp at hb
    refine w_if hB (et_test (ev_op (ev_op (ev_var (d := (Ans.count d p).enc) rfl) ev_int (rr_ixT at0)) ev_str rr_eqS)) (fun hb => ?_) (fun hb => ?_)
    · exact w_ret hB (e_is_count (ea_cons (ev_var rfl) (ea_cons (ev_var rfl) ea_nil)) hx) hR
    · rw [s4] at hb; simp at hb
  | walk st =>
    refine w_if hB (et_or (et_not (et_B (e_is_row (ea_cons (ev_var (d := (Ans.walk st).enc) rfl) ea_nil)))) fun _ => (et_or (et_test (ev_op (ev_cb (ea_cons (ev_var (d := (Ans.walk st).enc) rfl) ea_nil) rc_lenT) ev_int rr_eqI)) fun _ => (et_not (et_B (ev_isi (ev_op (ev_var (d := (Ans.walk st).enc) rfl) ev_int (rr_ixT at0)) kit_str_str))))) (fun hb => ?_) (fun hb => w_nx ?_)
    · simp [rowB, Ans.enc] at hb
    refine w_if hB (et_test (ev_op (ev_op (ev_var (d := (Ans.walk st).enc) rfl) ev_int (rr_ixT at0)) ev_str rr_eqS)) (fun hb => ?_) (fun hb => w_nx ?_)
    · rw [s3] at hb; simp at hb
    refine w_if hB (et_test (ev_op (ev_op (ev_var (d := (Ans.walk st).enc) rfl) ev_int (rr_ixT at0)) ev_str rr_eqS)) (fun hb => ?_) (fun hb => w_nx ?_)
    · rw [s5] at hb; simp at hb
    refine w_ret hB (Ev.is (ev_andV (ev_op (ev_op (ev_var (d := (Ans.walk st).enc) rfl) ev_int (rr_ixT at0)) ev_str rr_eqS) fun _ => (e_is_walk (ea_cons (ev_var rfl) (ea_cons (ev_var rfl) ea_nil)) ht hx)) ?_) hR
    rw [s6]; rfl

/-! asked_answer -/
theorem okT_dII {n : Nat} {ds : List (List Int)} (h : ds.length < 1000000) (h2 : ∀ d ∈ ds, d.length < 1000000) : okT (n + 2) (dII ds) := okT_map h fun d hd => okT_dI n d (h2 d hd)
theorem daysB_len {m : Int} {ds : List (List Int)} (h : daysB m ds = true) : ds.length ≤ 4000 ∧ ∀ d ∈ ds, dayB m d = true := by
  simp only [daysB, Bool.and_eq_true, decide_eq_true_eq, List.all_eq_true] at h
  exact ⟨by omega, h.2⟩
theorem dayB_len {m : Int} {d : List Int} (h : dayB m d = true) : d.length ≤ 2 := by
  simp only [dayB, Bool.and_eq_true, decide_eq_true_eq] at h
  omega
theorem okT_ans {t : Task} {x : Ans} (ht : TaskOk t) (hx : AnsP t x) (hb : ansB t x = true) : okT 5 x.enc := by
  cases x with
  | on lead ring =>
    simp only [ansB, onF, ringB, Bool.and_eq_true] at hb
    obtain ⟨a1, a2⟩ := daysB_len hb.1
    obtain ⟨b1, b2⟩ := daysB_len hb.2.1
    refine ⟨by show 3 < 1000000; decide, fun e he => ?_⟩
    simp only [List.mem_cons, List.not_mem_nil, or_false] at he
    rcases he with rfl | rfl | rfl
    · trivial
    · exact okT_dII (by omega) fun d hd => by have := dayB_len (a2 d hd); omega
    · exact okT_dII (by omega) fun d hd => by have := dayB_len (b2 d hd); omega
  | count d p =>
    refine ⟨by show 3 < 1000000; decide, fun e he => ?_⟩
    simp only [List.mem_cons, List.not_mem_nil, or_false] at he
    rcases he with rfl | rfl | rfl <;> trivial
  | walk st =>
    refine ⟨by show 2 < 1000000; decide, fun e he => ?_⟩
    simp only [List.mem_cons, List.not_mem_nil, or_false] at he
    rcases he with rfl | rfl
    · trivial
    · exact okT_map (n := 3) (by have := hx.2.1; omega) fun s hs => okT_stand 0 ht (hx.2.2 s hs)
def askD (t : Task) (x : Ans) : PyData := if ansB t x = true then x.enc else .none
def q_asked_answer : List Vd → Vd → Prop := fun a z => ∃ (t : Task) (x : Ans), a = [.d t.enc, .d x.enc] ∧ TaskOk t ∧ AnsP t x ∧ z = .d (askD t x)
abbrev sp_asked_answer : Sp := spP q_asked_answer
theorem e_asked_answer {t : Task} {x : Ans} (h : EvA dr ta δ [.d t.enc, .d x.enc]) (ht : TaskOk t) (hx : AnsP t x) : Ev dr (tCall sp_asked_answer [] C8.E0 ta) δ (.d (askD t x)) := ev_call h ⟨_, _, rfl, ht, hx, rfl⟩
abbrev s_asked_answer : Stmt := Hd.top 47
abbrev N_asked_answer : List Str := ["task", "thing"]
theorem nd_asked_answer : N_asked_answer.Nodup := by decide +kernel
theorem sc_asked_answer : C8.scC N_asked_answer ["task", "thing"] (C8.fnScope s_asked_answer) = true := by decide +kernel
def t_asked_answer (K : PySem.W.Frag) : TS :=
  (tSeq (tIfS (tNot (tB (tCall sp_is_answer_of [] C8.E0 (tCons (tVar 0) (tCons (tVar 1) tNil))))) (tSeq (tRet (tC .non))
  tNext) tNext)
  (tSeq (tRet (tCall sp_told_rows [] C8.E0 (tCons (tVar 1) tNil)))
  tNext))
theorem d_asked_answer {P : Program} {w : World} {K : PySem.W.Frag} {mg : Str → Option Value} {base : Heap} (T : Top K mg) (f : Addr) (cdv : Value) (A : Around) (outer : List Env) (s : Shared) (H : Hp) (E : XK)
    (hr : Room 7 (A.deeper (PyProof.Rows.envOfC "asked_answer" (C8.fnScope s_asked_answer) s.heap.objs.size f cdv))) :
    PSs (cxOf C8.CX0 P w K mg base N_asked_answer "asked_answer" (C8.fnScope s_asked_answer) f cdv A outer s H E).nox (C8.fnBody s_asked_answer) (t_asked_answer K) :=
  (pss_cons (ps_if (pt_not (pt_val (C8.pe_c (c_is_answer_of T) hr (by decide) rfl (pa_cons (pv 0) (pa_cons (pv 1) pa_nil))))) (pss_cons (ps_ret pe_non)
  pss_nil) pss_nil)
  (pss_cons (ps_ret (C8.pe_c (c_told_rows T) hr (by decide) rfl (pa_cons (pv 1) pa_nil)))
  pss_nil))
theorem c_asked_answer (T : Top K mg) : C8.Cal P w K mg base 8 "asked_answer" sp_asked_answer [] := by
  refine cal_of T.f_asked_answer sc_asked_answer (t_asked_answer K) (fun zs z h => ?_) (fun f cdv A outer s H E hr => d_asked_answer T f cdv A outer s H E hr) (fun dr B E zs z hp hB hR hN => ?_)
  · obtain ⟨_, _, rfl, _⟩ := h; rfl
  obtain ⟨t, x, rfl, ht, hx, rfl⟩ := hp
  refine w_if hB (et_not (et_B (e_is_answer_of (ea_cons (ev_var rfl) (ea_cons (ev_var rfl) ea_nil)) ht hx))) (fun hb => ?_) (fun hb => w_nx ?_)
  · refine w_ret hB (Ev.is ev_non ?_) hR
    have e : ansB t x = false := by simpa using hb
    simp [askD, e]
  · have e : ansB t x = true := by simpa using hb
    refine w_ret hB (Ev.is (e_told_rows (ea_cons (ev_var rfl) ea_nil) (okT_ans ht hx e)) ?_) hR
    simp [askD, e]
end
end Ed
end
section
set_option maxHeartbeats 4000000
namespace Ed
open PySem L2
local macro_rules | `(tactic| nested_key) => `(tactic| first
  | rfl
  | assumption
  | omega
  | exact Nat.le_of_ble_eq_true rfl
  | decide
  | (simp only [List.length_map, small]; omega)
  | (simp [small]; done)
  | (simp only [Vd.sd, setAll, List.set, mutAll, okm, Fr] at *; simp_all; done))

section
variable {P : Program} {w : World} {K : PySem.W.Frag} {mg : Str → Option Value} {base : Heap} {dr : Option Addr} {δ : List Sd} {ta : TA}
/-- what the steps ask of a stand -/
structure SW (t : Task) (s : Stand) : Prop where
  ph0 : 0 ≤ s.ph
  ph1 : s.ph < t.off.length
  wl : s.wt.length = t.num.length
  bz : s.bz.length ≤ 1000
  ls : s.ls.length ≤ 1000
theorem StandOk.sw {t : Task} {s : Stand} (ht : TaskOk t) (h : StandOk t s) : SW t s := by
  obtain ⟨f1, f2, f3⟩ := h.few ht
  exact ⟨h.ph0, h.ph1, h.wl, by omega, by omega⟩

/-! all_days -/
def adStep (n h : Int) (acc : List (List Int)) (i : Int) : List (List Int) :=
  if 1 < h then (acc ++ [[i]]) ++ (upto (i + 1) (n - (i + 1)).toNat).map (fun j => [i, j]) else acc ++ [[i]]
def allDays (n h : Int) : List (List Int) := (upto 0 n.toNat).foldl (adStep n h) [[]]
theorem ad_len {n h : Int} (hn : n ≤ 8) : ∀ (is : List Int) (acc : List (List Int)), (∀ i ∈ is, 0 ≤ i) → (is.foldl (adStep n h) acc).length ≤ acc.length + 9 * is.length := by
  intro is
  induction is with
  | nil => intro acc _; simp
  | cons i is ih =>
    intro acc hi
    have h1 := ih (adStep n h acc i) fun j hj => hi j (List.mem_cons_of_mem _ hj)
    have h0 := hi i List.mem_cons_self
    have h2 : (adStep n h acc i).length ≤ acc.length + 9 := by
      unfold adStep
      split
      · simp only [List.length_append, List.length_map, upto_len, List.length_cons, List.length_nil]; omega
      · simp
    simp only [List.foldl_cons, List.length_cons]
    omega
theorem upto_pos {n : Nat} : ∀ i ∈ upto 0 n, 0 ≤ i := fun i hi => (mem_upto.mp hi).1
theorem allDays_len {n h : Int} (hn : n ≤ 8) : (allDays n h).length ≤ 100 := by
  have := ad_len (h := h) hn (upto 0 n.toNat) [[]] upto_pos
  rw [upto_len] at this
  unfold allDays
  simp only [List.length_cons, List.length_nil] at this
  omega
theorem upto_take {n i : Nat} (h : i ≤ n) : (upto 0 n).take i = upto 0 i := by
  unfold upto
  rw [← List.map_take, List.take_range]
  congr 2; omega
theorem upto_succ (i : Nat) : upto 0 (i + 1) = upto 0 i ++ [(i : Int)] := by
  unfold upto
  rw [List.range_succ, List.map_append]
  simp
def q_all_days : List Vd → Vd → Prop := fun a z => ∃ n h, a = [.d (.int n), .d (.int h)] ∧ 0 ≤ n ∧ n ≤ 8 ∧ z = .l ((allDays n h).map dI)
abbrev sp_all_days : Sp := spP q_all_days
theorem e_all_days {n h : Int} (hh : EvA dr ta δ [.d (.int n), .d (.int h)]) (h0 : 0 ≤ n) (h8 : n ≤ 8) : Ev dr (tCall sp_all_days [] C8.E0 ta) δ (.l ((allDays n h).map dI)) := ev_call hh ⟨_, _, rfl, h0, h8, rfl⟩
abbrev s_all_days : Stmt := Hd.top 49
abbrev N_all_days : List Str := ["many", "hands", "found", "i", "j"]
theorem nd_all_days : N_all_days.Nodup := by decide +kernel
theorem sc_all_days : C8.scC N_all_days ["many", "hands"] (C8.fnScope s_all_days) = true := by decide +kernel
def t_all_days (K : PySem.W.Frag) : TS :=
  (tSeq (tAsg (tLst (tCons (tTup tNil) tNil)) (gName 2))
  (tSeq (tFor (iRng1 (tCons (tVar 0) tNil)) (gName 3) (tSeq (tDrop (tBM K "list" rAppend (tVar 2) (tCons (tTup (tCons (tVar 3) tNil)) tNil)))
  (tSeq (tIfS (tTest (tOp oGt (tVar 1) (tC (.int 1)))) (tSeq (tAsg (tOp rCat (tVar 2) (tLc (iRng2 (tCons (tOp oAdd (tVar 3) (tC (.int 1))) (tCons (tVar 0) tNil))) (gName 4) tYes (tTup (tCons (tVar 3) (tCons (tVar 4) tNil))) [4])) (gName 2))
  tNext) tNext)
  tNext)))
  (tSeq (tRet (tVar 2))
  tNext)))
theorem d_all_days {P : Program} {w : World} {K : PySem.W.Frag} {mg : Str → Option Value} {base : Heap} (T : Top K mg) (f : Addr) (cdv : Value) (A : Around) (outer : List Env) (s : Shared) (H : Hp) (E : XK)
    (hr : Room 0 (A.deeper (PyProof.Rows.envOfC "all_days" (C8.fnScope s_all_days) s.heap.objs.size f cdv))) :
    PSs (cxOf C8.CX0 P w K mg base N_all_days "all_days" (C8.fnScope s_all_days) f cdv A outer s H E).nox (C8.fnBody s_all_days) (t_all_days K) :=
  (pss_cons (ps_set (i := 2) nd_all_days rfl (by first | exact Or.inl rfl | exact Or.inr rfl) (pe_lst (pa_cons (pe_tup pa_nil) pa_nil)))
  (pss_cons (ps_for PassesOwn.never rfl (pi_range1 rfl T.n_range (pa_cons (pv 0) pa_nil)) (pg_name (i := 3) nd_all_days rfl (by first | exact Or.inl rfl | exact Or.inr rfl)) (pss_cons (ps_expr (pe_bm PySem.F.plainAttrs_list PySem.F.slot_list_append PySem.F.type_list_append mt_append (pv 2) (pa_cons (pe_tup (pa_cons (pv 3) pa_nil)) pa_nil)))
  (pss_cons (ps_if (pt_cmpR op_gt (pv 1) pe_int (nomark _)) (pss_cons (ps_set (i := 2) nd_all_days rfl (by first | exact Or.inl rfl | exact Or.inr rfl) (pe_op op_cat (pv 2) (pe_lc (own := [("j", 4)]) (g := gName 4) rfl nd_all_days (pi_range2 rfl T.n_range (pa_cons (pe_op op_add (pv 3) pe_int) (pa_cons (pv 0) pa_nil))) (blkOk_by (N := N_all_days) (sc := C8.fnScope s_all_days) (by decide +kernel)) (fun _ _ _ _ _ => pg_name (i := 4) nd_all_days rfl (by first | exact Or.inl rfl | exact Or.inr rfl)) (fun _ _ _ _ _ => pts_nil) (fun _ _ _ _ _ => (pe_tup (pa_cons (pv 3) (pa_cons (pv 4) pa_nil)))))))
  pss_nil) pss_nil)
  pss_nil)))
  (pss_cons (ps_ret (pv 2))
  pss_nil)))
theorem c_all_days (T : Top K mg) : C8.Cal P w K mg base 1 "all_days" sp_all_days [] := by
  refine cal_of T.f_all_days sc_all_days (t_all_days K) (fun zs z h => ?_) (fun f cdv A outer s H E hr => d_all_days T f cdv A outer s H E hr) (fun dr B E zs z hp hB hR hN => ?_)
  · obtain ⟨_, _, rfl, _⟩ := h; rfl
  obtain ⟨n, h, rfl, h0, h8, rfl⟩ := hp
  refine w_asgN hB (en_lst (ead_cons (ev_tup ead_nil (by nested_key)) ead_nil) (by nested_key)) fun p np mp fr => ?_
  refine w_forR1 (fun i δ' => ∃ q c, Mu B q ∧ δ' = [.d (.int n), .d (.int h), .l q (((upto 0 i).foldl (adStep n h) [[]]).map dI), c, .x]) hB (ea_cons (ev_var rfl) ea_nil) (by omega) (by omega) ⟨p, .x, mp, rfl⟩ (fun i δ' hi hI => ?_) (fun δ' hI => ?_)
  · obtain ⟨q, c, mq, rfl⟩ := hI
    have hl := ad_len (h := h) h8 (upto 0 i) [[]] upto_pos
    rw [upto_len] at hl
    simp only [List.length_cons, List.length_nil] at hl
    have es : (upto 0 (i + 1)).foldl (adStep n h) [[]] = adStep n h ((upto 0 i).foldl (adStep n h) [[]]) i := by
      rw [upto_succ, List.foldl_append]; rfl
    refine w_app hB rfl mq (ev_tup (ds := [.int (i : Int)]) (ead_cons (ev_var rfl) ead_nil) (by nested_key)) (by rw [List.length_map]; omega) ⟨trivial, trivial, trivial, trivial, trivial, trivial⟩ ?_
    refine w_if hB (et_test (ev_op (ev_var rfl) ev_int (rr_I0 fun _ => .bl _))) (fun hb => ?_) (fun hb => ?_)
    · have hh : 1 < h := by simpa using hb
      refine w_asgN hB (en_op (ev_varL rfl) (en_lcR2 (fun _ => true) (fun j => dI [(i : Int), j]) (ea_cons (ev_op (ev_var rfl) ev_int (rr_I0 fun _ => .int _)) (ea_cons (ev_var rfl) ea_nil)) (by omega) (by omega) (by omega) (by omega) (by simp) (fun i hi1 hi2 => et_yes) (fun i hi1 hi2 hf => (ev_tup (ead_cons (ev_var rfl) (ead_cons (ev_var rfl) ead_nil)) (by nested_key)))).ev (rn_cat ?_)) fun p' np' mp' fr' => ?_
      · unfold small
        rw [filt_true]
        simp only [List.length_append, List.length_map, upto_len, List.length_cons, List.length_nil]
        omega
      refine w_nx ?_
      refine w_end ⟨p', .d (.int i), mp', ?_⟩
      rw [es, filt_true]
      unfold adStep
      rw [if_pos hh]
      simp only [List.map_append, List.map_cons, List.map_nil, List.map_map]
      rfl
    · have hh : ¬ 1 < h := by simpa using hb
      refine w_nx ?_
      refine w_end ⟨q, .d (.int i), mq, ?_⟩
      rw [es]
      unfold adStep
      rw [if_neg hh]
      simp only [List.map_append, List.map_cons, List.map_nil]
      rfl
  · obtain ⟨q, c, mq, rfl⟩ := hI
    exact w_ret hB (ev_varL rfl) hR

/-! is_tied -/
def tiedB (ps : List (Int × Int)) (day last : List Int) : Bool := ps.any fun p => (decide (p.1 ∈ day) && decide (p.2 ∈ last)) || (decide (p.2 ∈ day) && decide (p.1 ∈ last))
def q_is_tied : List Vd → Vd → Prop := fun a z => ∃ (t : Task) (day last : List Int), a = [.d t.enc, .d (dI day), .d (dI last)] ∧ z = .d (.bool (tiedB t.tied day last))
abbrev sp_is_tied : Sp := spP q_is_tied
theorem e_is_tied {t : Task} {day last : List Int} (h : EvA dr ta δ [.d t.enc, .d (dI day), .d (dI last)]) : Ev dr (tCall sp_is_tied [] C8.E0 ta) δ (.d (.bool (tiedB t.tied day last))) := ev_call h ⟨_, _, _, rfl, rfl⟩
abbrev s_is_tied : Stmt := Hd.top 50
abbrev N_is_tied : List Str := ["task", "day", "last", "i", "j"]
theorem nd_is_tied : N_is_tied.Nodup := by decide +kernel
theorem sc_is_tied : C8.scC N_is_tied ["task", "day", "last"] (C8.fnScope s_is_tied) = true := by decide +kernel
def t_is_tied (K : PySem.W.Frag) : TS :=
  (tSeq (tFor (iTup K (tOp (rIxT K) (tVar 0) (tC (.int 4)))) (gTup K 2 (unp [3, 4])) (tSeq (tIfS (tOr (tAnd (tTest (tOp (rIn K false) (tVar 3) (tVar 1))) (tTest (tOp (rIn K false) (tVar 4) (tVar 2)))) (tAnd (tTest (tOp (rIn K false) (tVar 4) (tVar 1))) (tTest (tOp (rIn K false) (tVar 3) (tVar 2))))) (tSeq (tRet (tC (.bl true)))
  tNext) tNext)
  tNext))
  (tSeq (tRet (tC (.bl false)))
  tNext))
theorem d_is_tied {P : Program} {w : World} {K : PySem.W.Frag} {mg : Str → Option Value} {base : Heap} (T : Top K mg) (f : Addr) (cdv : Value) (A : Around) (outer : List Env) (s : Shared) (H : Hp) (E : XK)
    (hr : Room 0 (A.deeper (PyProof.Rows.envOfC "is_tied" (C8.fnScope s_is_tied) s.heap.objs.size f cdv))) :
    PSs (cxOf C8.CX0 P w K mg base N_is_tied "is_tied" (C8.fnScope s_is_tied) f cdv A outer s H E).nox (C8.fnBody s_is_tied) (t_is_tied K) :=
  (pss_cons (ps_for PassesOwn.never rfl (pi_tup (pe_ix ix_tup (pv 0) pe_int (fun _ _ => rfl))) (pg_tup (by rfl) (pgs_cons (pg_name (i := 3) nd_is_tied rfl (by first | exact Or.inl rfl | exact Or.inr rfl)) (pgs_cons (pg_name (i := 4) nd_is_tied rfl (by first | exact Or.inl rfl | exact Or.inr rfl)) pgs_nil))) (pss_cons (ps_if (PW.pt (pw_or (PW.pt (pw_and (pt_cmpR op_in_seq (pv 3) (pv 1) (by rfl)) (pw_and1 (pt_cmpR op_in_seq (pv 4) (pv 2) (by rfl))))) (pw_or1 (PW.pt (pw_and (pt_cmpR op_in_seq (pv 4) (pv 1) (by rfl)) (pw_and1 (pt_cmpR op_in_seq (pv 3) (pv 2) (by rfl)))))))) (pss_cons (ps_ret pe_bl)
  pss_nil) pss_nil)
  pss_nil))
  (pss_cons (ps_ret pe_bl)
  pss_nil))
theorem any_take {α : Type} {xs : List α} {i : Nat} {a : α} {f : α → Bool} (h : xs[i]? = some a) (hf : f a = true) : xs.any f = true := List.any_eq_true.mpr ⟨a, List.mem_of_getElem? h, hf⟩
theorem c_is_tied (T : Top K mg) : C8.Cal P w K mg base 1 "is_tied" sp_is_tied [] := by
  refine cal_of T.f_is_tied sc_is_tied (t_is_tied K) (fun zs z h => ?_) (fun f cdv A outer s H E hr => d_is_tied T f cdv A outer s H E hr) (fun dr B E zs z hp hB hR hN => ?_)
  · obtain ⟨_, _, _, rfl, _⟩ := h; rfl
  obtain ⟨t, day, last, rfl, rfl⟩ := hp
  refine w_forTu t.tied (fun p => [.int p.1, .int p.2]) (fun i δ' => ∃ c d, δ' = [.d t.enc, .d (dI day), .d (dI last), c, d] ∧ tiedB (t.tied.take i) day last = false) hB (ev_op (ev_var (d := t.enc) rfl) ev_int (rr_ixT at4)) (fun _ => rfl) rfl ⟨_, _, rfl, rfl⟩ (fun B' hB' hb mu i a δ' ha hI => ?_) (fun δ' hI => ?_)
  · obtain ⟨c, d, rfl, hf⟩ := hI
    refine w_if hB' (et_or (et_and (et_test (ev_op (ev_var rfl) (ev_var rfl) rr_inT)) fun _ => (et_test (ev_op (ev_var rfl) (ev_var rfl) rr_inT))) fun _ => (et_and (et_test (ev_op (ev_var rfl) (ev_var rfl) rr_inT)) fun _ => (et_test (ev_op (ev_var rfl) (ev_var rfl) rr_inT)))) (fun hb' => ?_) (fun hb' => ?_)
    · refine w_ret hB' ev_bl (fun v H' b j h => hR v H' (hb H' b) j ?_)
      rw [show tiedB t.tied day last = true from any_take ha hb']
      exact h
    · refine w_nx ?_
      refine w_end ⟨_, _, rfl, ?_⟩
      rw [take_succ' ha]
      unfold tiedB at hf ⊢
      rw [List.any_append, hf]
      simpa using hb'
  · obtain ⟨c, d, rfl, hf⟩ := hI
    rw [List.take_length] at hf
    refine w_ret hB (Ev.is ev_bl ?_) hR
    rw [hf]

/-! can_be_done -/
def canB (t : Task) (s : Stand) (day : List Int) : Bool :=
  !((decide (t.hands < (day.length : Int)) || (decide (t.off.getD s.ph.toNat 0 = 1) && decide (0 < (day.length : Int))))) && (s.bz.all (fun i => decide (i ∈ day)) && !tiedB t.tied day s.ls)
def q_can_be_done : List Vd → Vd → Prop := fun a z => ∃ (t : Task) (s : Stand) (day : List Int), a = [.d t.enc, .d s.enc, .d (dI day)] ∧ SW t s ∧ z = .d (.bool (canB t s day))
abbrev sp_can_be_done : Sp := spP q_can_be_done
theorem e_can_be_done {t : Task} {s : Stand} {day : List Int} (h : EvA dr ta δ [.d t.enc, .d s.enc, .d (dI day)]) (hs : SW t s) : Ev dr (tCall sp_can_be_done [] C8.E0 ta) δ (.d (.bool (canB t s day))) := ev_call h ⟨_, _, _, rfl, hs, rfl⟩
abbrev s_can_be_done : Stmt := Hd.top 51
abbrev N_can_be_done : List Str := ["task", "stand", "day", "phase", "waits", "busy", "last", "i"]
theorem nd_can_be_done : N_can_be_done.Nodup := by decide +kernel
theorem sc_can_be_done : C8.scC N_can_be_done ["task", "stand", "day"] (C8.fnScope s_can_be_done) = true := by decide +kernel
def t_can_be_done (K : PySem.W.Frag) : TS :=
  (tSeq (tAsg (tVar 1) (gTup K 4 (unp [3, 4, 5, 6])))
  (tSeq (tIfS (tOr (tTest (tOp oGt (tCB (rLen K) (tCons (tVar 2) tNil)) (tOp (rIxT K) (tVar 0) (tC (.int 1))))) (tAnd (tTest (tOp rEq (tOp (rIxT K) (tOp (rIxT K) (tVar 0) (tC (.int 2))) (tVar 3)) (tC (.int 1)))) (tTest (tOp oGt (tCB (rLen K) (tCons (tVar 2) tNil)) (tC (.int 0)))))) (tSeq (tRet (tC (.bl false)))
  tNext) tNext)
  (tSeq (tIfS (tTest (tOp (rNeD K) (tLc (iTup K (tVar 5)) (gName 7) (tTest (tOp (rIn K true) (tVar 7) (tVar 2))) (tVar 7) [7]) (tLst tNil))) (tSeq (tRet (tC (.bl false)))
  tNext) tNext)
  (tSeq (tRet (tNotV (tCall sp_is_tied [] C8.E0 (tCons (tVar 0) (tCons (tVar 2) (tCons (tVar 6) tNil))))))
  tNext))))
theorem d_can_be_done {P : Program} {w : World} {K : PySem.W.Frag} {mg : Str → Option Value} {base : Heap} (T : Top K mg) (f : Addr) (cdv : Value) (A : Around) (outer : List Env) (s : Shared) (H : Hp) (E : XK)
    (hr : Room 1 (A.deeper (PyProof.Rows.envOfC "can_be_done" (C8.fnScope s_can_be_done) s.heap.objs.size f cdv))) :
    PSs (cxOf C8.CX0 P w K mg base N_can_be_done "can_be_done" (C8.fnScope s_can_be_done) f cdv A outer s H E).nox (C8.fnBody s_can_be_done) (t_can_be_done K) :=
  (pss_cons (ps_asg (pv 1) (pg_tup (by rfl) (pgs_cons (pg_name (i := 3) nd_can_be_done rfl (by first | exact Or.inl rfl | exact Or.inr rfl)) (pgs_cons (pg_name (i := 4) nd_can_be_done rfl (by first | exact Or.inl rfl | exact Or.inr rfl)) (pgs_cons (pg_name (i := 5) nd_can_be_done rfl (by first | exact Or.inl rfl | exact Or.inr rfl)) (pgs_cons (pg_name (i := 6) nd_can_be_done rfl (by first | exact Or.inl rfl | exact Or.inr rfl)) pgs_nil))))))
  (pss_cons (ps_if (PW.pt (pw_or (pt_cmpR op_gt (pe_callB cr_len (by rfl) T.n_len bt_len (pa_cons (pv 2) pa_nil)) (pe_ix ix_tup (pv 0) pe_int (fun _ _ => rfl)) (nomark _)) (pw_or1 (PW.pt (pw_and (pt_cmpR op_eq (pe_ix ix_tup (pe_ix ix_tup (pv 0) pe_int (fun _ _ => rfl)) (pv 3) (fun _ _ => rfl)) pe_int (nomark _)) (pw_and1 (pt_cmpR op_gt (pe_callB cr_len (by rfl) T.n_len bt_len (pa_cons (pv 2) pa_nil)) pe_int (nomark _)))))))) (pss_cons (ps_ret pe_bl)
  pss_nil) pss_nil)
  (pss_cons (ps_if (pt_cmpR (op_neD hr.units) (pe_lc (own := [("i", 7)]) (g := gName 7) rfl nd_can_be_done (pi_tup (pv 5)) (blkOk_by (N := N_can_be_done) (sc := C8.fnScope s_can_be_done) (by decide +kernel)) (fun _ _ _ _ _ => pg_name (i := 7) nd_can_be_done rfl (by first | exact Or.inl rfl | exact Or.inr rfl)) (fun _ _ _ _ _ => pts_one (pt_cmpR op_notIn_seq (pv 7) (pv 2) (by rfl))) (fun _ _ _ _ _ => (pv 7))) (pe_lst pa_nil) (nomark _)) (pss_cons (ps_ret pe_bl)
  pss_nil) pss_nil)
  (pss_cons (ps_ret (pe_not (C8.pe_c (c_is_tied T) hr (by decide) rfl (pa_cons (pv 0) (pa_cons (pv 2) (pa_cons (pv 6) pa_nil))))))
  pss_nil))))
theorem c_can_be_done (T : Top K mg) : C8.Cal P w K mg base 2 "can_be_done" sp_can_be_done [] := by
  refine cal_of T.f_can_be_done sc_can_be_done (t_can_be_done K) (fun zs z h => ?_) (fun f cdv A outer s H E hr => d_can_be_done T f cdv A outer s H E hr) (fun dr B E zs z hp hB hR hN => ?_)
  · obtain ⟨_, _, _, rfl, _⟩ := h; rfl
  obtain ⟨t, s, day, rfl, hs, rfl⟩ := hp
  have hbz := hs.bz
  refine w_unp hB (ev_var (d := s.enc) rfl) rfl rfl ?_
  refine w_if hB (et_or (et_test (ev_op (ev_cb (ea_cons (ev_var rfl) ea_nil) rc_lenT) (ev_op (ev_var (d := t.enc) rfl) ev_int (rr_ixT at1)) (rr_I0 fun _ => .bl _))) fun _ => (et_and (et_test (ev_op (ev_op (ev_op (ev_var (d := t.enc) rfl) ev_int (rr_ixT at2)) (ev_var rfl) (rr_ixT (at_map hs.ph0 (getDI hs.ph0 hs.ph1)))) ev_int rr_eqI)) fun _ => (et_test (ev_op (ev_cb (ea_cons (ev_var rfl) ea_nil) rc_lenT) ev_int (rr_I0 fun _ => .bl _))))) (fun hb => ?_) (fun hb => ?_)
  · refine w_ret hB (Ev.is ev_bl ?_) hR
    simp only [List.length_map] at hb
    unfold canB
    rw [hb]; rfl
  refine w_nx ?_
  simp only [List.length_map] at hb
  refine w_if hB (et_test (ev_op (en_lcT s.bz PyData.int (fun i => !decide (i ∈ day)) PyData.int (ev_var rfl) (by omega) (by simp) (fun a ha => (et_test (ev_op (ev_var rfl) (ev_var rfl) rr_niT))) (fun a ha hf => (ev_var rfl))).ev (en_lst ead_nil (by nested_key)).ev (rr_neNil (shaped_li _)))) (fun hb' => ?_) (fun hb' => ?_)
  · refine w_ret hB (Ev.is ev_bl ?_) hR
    rw [isEmpty_filter] at hb'
    simp only [Bool.not_not, Bool.not_eq_true'] at hb'
    unfold canB
    rw [hb, hb']; rfl
  refine w_nx ?_
  rw [isEmpty_filter] at hb'
  simp only [Bool.not_not, Bool.not_eq_false'] at hb'
  refine w_ret hB (Ev.is (ev_notV (e_is_tied (ea_cons (ev_var rfl) (ea_cons (ev_var rfl) (ea_cons (ev_var rfl) ea_nil))))) ?_) hR
  unfold canB
  rw [hb, hb']; rfl

/-! later_days -/
def laterDays (t : Task) (s : Stand) : List (List Int) := (allDays t.num.length t.hands).filter (canB t s)
def q_later_days : List Vd → Vd → Prop := fun a z => ∃ (t : Task) (s : Stand), a = [.d t.enc, .d s.enc] ∧ TaskOk t ∧ SW t s ∧ z = .l ((laterDays t s).map dI)
abbrev sp_later_days : Sp := spP q_later_days
theorem e_later_days {t : Task} {s : Stand} (h : EvA dr ta δ [.d t.enc, .d s.enc]) (ht : TaskOk t) (hs : SW t s) : Ev dr (tCall sp_later_days [] C8.E0 ta) δ (.l ((laterDays t s).map dI)) := ev_call h ⟨_, _, rfl, ht, hs, rfl⟩
abbrev s_later_days : Stmt := Hd.top 52
abbrev N_later_days : List Str := ["task", "stand", "day"]
theorem nd_later_days : N_later_days.Nodup := by decide +kernel
theorem sc_later_days : C8.scC N_later_days ["task", "stand"] (C8.fnScope s_later_days) = true := by decide +kernel
def t_later_days (K : PySem.W.Frag) : TS :=
  (tSeq (tRet (tLc (iList K (tCall sp_all_days [] C8.E0 (tCons (tCB (rLen K) (tCons (tOp (rIxT K) (tVar 0) (tC (.int 0))) tNil)) (tCons (tOp (rIxT K) (tVar 0) (tC (.int 1))) tNil)))) (gName 2) (tB (tCall sp_can_be_done [] C8.E0 (tCons (tVar 0) (tCons (tVar 1) (tCons (tVar 2) tNil))))) (tVar 2) [2]))
  tNext)
theorem d_later_days {P : Program} {w : World} {K : PySem.W.Frag} {mg : Str → Option Value} {base : Heap} (T : Top K mg) (f : Addr) (cdv : Value) (A : Around) (outer : List Env) (s : Shared) (H : Hp) (E : XK)
    (hr : Room 2 (A.deeper (PyProof.Rows.envOfC "later_days" (C8.fnScope s_later_days) s.heap.objs.size f cdv))) :
    PSs (cxOf C8.CX0 P w K mg base N_later_days "later_days" (C8.fnScope s_later_days) f cdv A outer s H E).nox (C8.fnBody s_later_days) (t_later_days K) :=
  (pss_cons (ps_ret (pe_lc (own := [("day", 2)]) (g := gName 2) rfl nd_later_days (pi_list (C8.pe_c (c_all_days T) hr (by decide) rfl (pa_cons (pe_callB cr_len (by rfl) T.n_len bt_len (pa_cons (pe_ix ix_tup (pv 0) pe_int (fun _ _ => rfl)) pa_nil)) (pa_cons (pe_ix ix_tup (pv 0) pe_int (fun _ _ => rfl)) pa_nil)))) (blkOk_by (N := N_later_days) (sc := C8.fnScope s_later_days) (by decide +kernel)) (fun _ _ _ _ _ => pg_name (i := 2) nd_later_days rfl (by first | exact Or.inl rfl | exact Or.inr rfl)) (fun _ _ _ _ _ => pts_one (pt_val (C8.pe_c (c_can_be_done T) hr (by decide) rfl (pa_cons (pv 0) (pa_cons (pv 1) (pa_cons (pv 2) pa_nil)))))) (fun _ _ _ _ _ => (pv 2))))
  pss_nil)
theorem c_later_days (T : Top K mg) : C8.Cal P w K mg base 3 "later_days" sp_later_days [] := by
  refine cal_of T.f_later_days sc_later_days (t_later_days K) (fun zs z h => ?_) (fun f cdv A outer s H E hr => d_later_days T f cdv A outer s H E hr) (fun dr B E zs z hp hB hR hN => ?_)
  · obtain ⟨_, _, rfl, _⟩ := h; rfl
  obtain ⟨t, s, rfl, ht, hs, rfl⟩ := hp
  have hn := ht.num.1
  have hl : (allDays t.num.length t.hands).length ≤ 100 := allDays_len (by omega)
  refine w_ret hB (en_lcL (allDays t.num.length t.hands) dI (canB t s) dI (Ev.is (e_all_days (ea_cons (ev_cb (ea_cons (ev_op (ev_var (d := t.enc) rfl) ev_int (rr_ixT at0)) ea_nil) rc_lenT) (ea_cons (ev_op (ev_var (d := t.enc) rfl) ev_int (rr_ixT at1)) ea_nil)) (by omega) (by rw [List.length_map]; omega)) (by rw [List.length_map])) (by omega) (by simp) (fun a ha => (et_B (e_can_be_done (ea_cons (ev_var rfl) (ea_cons (ev_var rfl) (ea_cons (ev_var rfl) ea_nil))) hs))) (fun a ha hf => (ev_var rfl))).ev hR
end
end Ed
end
section
set_option maxHeartbeats 4000000
namespace Ed
open PySem L2
local macro_rules | `(tactic| nested_key) => `(tactic| first
  | rfl
  | assumption
  | omega
  | exact Nat.le_of_ble_eq_true rfl
  | decide
  | (simp only [List.length_map, small]; omega)
  | (simp [small]; done)
  | (simp only [Vd.sd, setAll, List.set, mutAll, okm, Fr] at *; simp_all; done))

section
variable {P : Program} {w : World} {K : PySem.W.Frag} {mg : Str → Option Value} {base : Heap} {dr : Option Addr} {δ : List Sd} {ta : TA}

/-! wait_behind -/
def doneB (t : Task) (s : Stand) (day : List Int) (i : Int) : Bool := decide (i ∈ day) && (!decide (i ∈ t.long) || decide (i ∈ s.bz))
def waitF (t : Task) (s : Stand) (day : List Int) (i : Int) : Int := if doneB t s day i = true then t.num.getD i.toNat 0 else s.wt.getD i.toNat 0 - 1
def q_wait_behind : List Vd → Vd → Prop := fun a z => ∃ (t : Task) (s : Stand) (day : List Int) (i : Int), a = [.d t.enc, .d s.enc, .d (dI day), .d (.int i)] ∧ SW t s ∧ 0 ≤ i ∧ i < t.num.length ∧ z = .d (.int (waitF t s day i))
abbrev sp_wait_behind : Sp := spP q_wait_behind
theorem e_wait_behind {t : Task} {s : Stand} {day : List Int} {i : Int} (h : EvA dr ta δ [.d t.enc, .d s.enc, .d (dI day), .d (.int i)]) (hs : SW t s) (h0 : 0 ≤ i) (h1 : i < t.num.length) : Ev dr (tCall sp_wait_behind [] C8.E0 ta) δ (.d (.int (waitF t s day i))) := ev_call h ⟨_, _, _, _, rfl, hs, h0, h1, rfl⟩
abbrev s_wait_behind : Stmt := Hd.top 53
abbrev N_wait_behind : List Str := ["task", "stand", "day", "i"]
theorem nd_wait_behind : N_wait_behind.Nodup := by decide +kernel
theorem sc_wait_behind : C8.scC N_wait_behind ["task", "stand", "day", "i"] (C8.fnScope s_wait_behind) = true := by decide +kernel
def t_wait_behind (K : PySem.W.Frag) : TS :=
  (tSeq (tIfS (tAnd (tTest (tOp (rIn K false) (tVar 3) (tVar 2))) (tOr (tTest (tOp (rIn K true) (tVar 3) (tOp (rIxT K) (tVar 0) (tC (.int 3))))) (tTest (tOp (rIn K false) (tVar 3) (tOp (rIxT K) (tVar 1) (tC (.int 2))))))) (tSeq (tRet (tOp (rIxT K) (tOp (rIxT K) (tVar 0) (tC (.int 0))) (tVar 3)))
  tNext) tNext)
  (tSeq (tRet (tOp oSub (tOp (rIxT K) (tOp (rIxT K) (tVar 1) (tC (.int 1))) (tVar 3)) (tC (.int 1))))
  tNext))
theorem d_wait_behind {P : Program} {w : World} {K : PySem.W.Frag} {mg : Str → Option Value} {base : Heap} (T : Top K mg) (f : Addr) (cdv : Value) (A : Around) (outer : List Env) (s : Shared) (H : Hp) (E : XK)
    (hr : Room 0 (A.deeper (PyProof.Rows.envOfC "wait_behind" (C8.fnScope s_wait_behind) s.heap.objs.size f cdv))) :
    PSs (cxOf C8.CX0 P w K mg base N_wait_behind "wait_behind" (C8.fnScope s_wait_behind) f cdv A outer s H E).nox (C8.fnBody s_wait_behind) (t_wait_behind K) :=
  (pss_cons (ps_if (PW.pt (pw_and (pt_cmpR op_in_seq (pv 3) (pv 2) (by rfl)) (pw_and1 (PW.pt (pw_or (pt_cmpR op_notIn_seq (pv 3) (pe_ix ix_tup (pv 0) pe_int (fun _ _ => rfl)) (by rfl)) (pw_or1 (pt_cmpR op_in_seq (pv 3) (pe_ix ix_tup (pv 1) pe_int (fun _ _ => rfl)) (by rfl)))))))) (pss_cons (ps_ret (pe_ix ix_tup (pe_ix ix_tup (pv 0) pe_int (fun _ _ => rfl)) (pv 3) (fun _ _ => rfl)))
  pss_nil) pss_nil)
  (pss_cons (ps_ret (pe_op op_sub (pe_ix ix_tup (pe_ix ix_tup (pv 1) pe_int (fun _ _ => rfl)) (pv 3) (fun _ _ => rfl)) pe_int))
  pss_nil))
theorem c_wait_behind (T : Top K mg) : C8.Cal P w K mg base 1 "wait_behind" sp_wait_behind [] := by
  refine cal_of T.f_wait_behind sc_wait_behind (t_wait_behind K) (fun zs z h => ?_) (fun f cdv A outer s H E hr => d_wait_behind T f cdv A outer s H E hr) (fun dr B E zs z hp hB hR hN => ?_)
  · obtain ⟨_, _, _, _, rfl, _⟩ := h; rfl
  obtain ⟨t, s, day, i, rfl, hs, h0, h1, rfl⟩ := hp
  refine w_if hB (b := doneB t s day i) (et_and (et_test (ev_op (ev_var rfl) (ev_var rfl) rr_inT)) fun _ => (et_or (et_test (ev_op (ev_var rfl) (ev_op (ev_var (d := t.enc) rfl) ev_int (rr_ixT at3)) rr_niT)) fun _ => (et_test (ev_op (ev_var rfl) (ev_op (ev_var (d := s.enc) rfl) ev_int (rr_ixT at2)) rr_inT)))) (fun hb => ?_) (fun hb => ?_)
  · refine w_ret hB (Ev.is (ev_op (ev_op (ev_var (d := t.enc) rfl) ev_int (rr_ixT at0)) (ev_var rfl) (rr_ixT (at_map h0 (getDI h0 h1)))) ?_) hR
    unfold waitF
    rw [if_pos hb]
  refine w_nx ?_
  refine w_ret hB (Ev.is (ev_op (ev_op (ev_op (ev_var (d := s.enc) rfl) ev_int (rr_ixT at1)) (ev_var rfl) (rr_ixT (at_map h0 (getDI h0 (by rw [hs.wl]; exact h1))))) ev_int (rr_I0 fun _ => .int _)) ?_) hR
  unfold waitF
  rw [if_neg (by rw [hb]; decide)]

/-! later_stand -/
def waitsF (t : Task) (s : Stand) (day : List Int) : List Int := (upto 0 t.num.length).map (waitF t s day)
def nextS (t : Task) (s : Stand) (day : List Int) : Option Stand :=
  if (0 : Int) ∈ waitsF t s day then none
  else some ⟨(s.ph + 1) % (t.off.length : Int), waitsF t s day, day.filter (fun i => decide (i ∈ t.long) && !decide (i ∈ s.bz)), day.filter fun i => decide (i ∈ endsOf t.tied)⟩
theorem nextS_sw {t : Task} {s s' : Stand} {day : List Int} (ht : TaskOk t) (hd : day.length ≤ 1000) (h : nextS t s day = some s') : SW t s' := by
  unfold nextS at h
  have ho := ht.off.1
  split at h
  · cases h
  · cases h
    refine ⟨Int.emod_nonneg _ (by omega), Int.emod_lt_of_pos _ (by omega), ?_, ?_, ?_⟩
    · simp [waitsF, upto_len]
    · exact Nat.le_trans (List.length_filter_le _ _) hd
    · exact Nat.le_trans (List.length_filter_le _ _) hd
def q_later_stand : List Vd → Vd → Prop := fun a z => ∃ (t : Task) (s : Stand) (day : List Int), a = [.d t.enc, .d s.enc, .d (dI day)] ∧ TaskOk t ∧ SW t s ∧ day.length ≤ 1000 ∧ z = .d (oenc (nextS t s day))
abbrev sp_later_stand : Sp := spP q_later_stand
theorem e_later_stand {t : Task} {s : Stand} {day : List Int} (h : EvA dr ta δ [.d t.enc, .d s.enc, .d (dI day)]) (ht : TaskOk t) (hs : SW t s) (hd : day.length ≤ 1000) : Ev dr (tCall sp_later_stand [] C8.E0 ta) δ (.d (oenc (nextS t s day))) := ev_call h ⟨_, _, _, rfl, ht, hs, hd, rfl⟩
abbrev s_later_stand : Stmt := Hd.top 54
abbrev N_later_stand : List Str := ["task", "stand", "day", "waits", "busy", "ends", "i"]
theorem nd_later_stand : N_later_stand.Nodup := by decide +kernel
theorem sc_later_stand : C8.scC N_later_stand ["task", "stand", "day"] (C8.fnScope s_later_stand) = true := by decide +kernel
def t_later_stand (K : PySem.W.Frag) : TS :=
  (tSeq (tAsg (tCB (rTupOf K) (tCons (tLc (iRng1 (tCons (tCB (rLen K) (tCons (tOp (rIxT K) (tVar 0) (tC (.int 0))) tNil)) tNil)) (gName 6) tYes (tCall sp_wait_behind [] C8.E0 (tCons (tVar 0) (tCons (tVar 1) (tCons (tVar 2) (tCons (tVar 6) tNil))))) [6]) tNil)) (gName 3))
  (tSeq (tIfS (tTest (tOp (rIn K false) (tC (.int 0)) (tVar 3))) (tSeq (tRet (tC .non))
  tNext) tNext)
  (tSeq (tAsg (tCB (rTupOf K) (tCons (tLc (iTup K (tVar 2)) (gName 6) (tAnd (tTest (tOp (rIn K false) (tVar 6) (tOp (rIxT K) (tVar 0) (tC (.int 3))))) (tTest (tOp (rIn K true) (tVar 6) (tOp (rIxT K) (tVar 1) (tC (.int 2)))))) (tVar 6) [6]) tNil)) (gName 4))
  (tSeq (tAsg (tCall sp_in_ties [] C8.E0 (tCons (tVar 0) tNil)) (gName 5))
  (tSeq (tRet (tTup (tCons (tOp oMod (tOp oAdd (tOp (rIxT K) (tVar 1) (tC (.int 0))) (tC (.int 1))) (tCB (rLen K) (tCons (tOp (rIxT K) (tVar 0) (tC (.int 2))) tNil))) (tCons (tVar 3) (tCons (tVar 4) (tCons (tCB (rTupOf K) (tCons (tLc (iTup K (tVar 2)) (gName 6) (tTest (tOp (rIn K false) (tVar 6) (tVar 5))) (tVar 6) [6]) tNil)) tNil))))))
  tNext)))))
theorem d_later_stand {P : Program} {w : World} {K : PySem.W.Frag} {mg : Str → Option Value} {base : Heap} (T : Top K mg) (f : Addr) (cdv : Value) (A : Around) (outer : List Env) (s : Shared) (H : Hp) (E : XK)
    (hr : Room 1 (A.deeper (PyProof.Rows.envOfC "later_stand" (C8.fnScope s_later_stand) s.heap.objs.size f cdv))) :
    PSs (cxOf C8.CX0 P w K mg base N_later_stand "later_stand" (C8.fnScope s_later_stand) f cdv A outer s H E).nox (C8.fnBody s_later_stand) (t_later_stand K) :=
  (pss_cons (ps_set (i := 3) nd_later_stand rfl (by first | exact Or.inl rfl | exact Or.inr rfl) (pe_callTy cr_tuple (by rfl) T.n_tuple bt_tuple (pa_cons (pe_lc (own := [("i", 6)]) (g := gName 6) rfl nd_later_stand (pi_range1 rfl T.n_range (pa_cons (pe_callB cr_len (by rfl) T.n_len bt_len (pa_cons (pe_ix ix_tup (pv 0) pe_int (fun _ _ => rfl)) pa_nil)) pa_nil)) (blkOk_by (N := N_later_stand) (sc := C8.fnScope s_later_stand) (by decide +kernel)) (fun _ _ _ _ _ => pg_name (i := 6) nd_later_stand rfl (by first | exact Or.inl rfl | exact Or.inr rfl)) (fun _ _ _ _ _ => pts_nil) (fun _ _ _ _ _ => (C8.pe_c (c_wait_behind T) hr (by decide) rfl (pa_cons (pv 0) (pa_cons (pv 1) (pa_cons (pv 2) (pa_cons (pv 6) pa_nil))))))) pa_nil)))
  (pss_cons (ps_if (pt_cmpR op_in_seq pe_int (pv 3) (by rfl)) (pss_cons (ps_ret pe_non)
  pss_nil) pss_nil)
  (pss_cons (ps_set (i := 4) nd_later_stand rfl (by first | exact Or.inl rfl | exact Or.inr rfl) (pe_callTy cr_tuple (by rfl) T.n_tuple bt_tuple (pa_cons (pe_lc (own := [("i", 6)]) (g := gName 6) rfl nd_later_stand (pi_tup (pv 2)) (blkOk_by (N := N_later_stand) (sc := C8.fnScope s_later_stand) (by decide +kernel)) (fun _ _ _ _ _ => pg_name (i := 6) nd_later_stand rfl (by first | exact Or.inl rfl | exact Or.inr rfl)) (fun _ _ _ _ _ => pts_one (PW.pt (pw_and (pt_cmpR op_in_seq (pv 6) (pe_ix ix_tup (pv 0) pe_int (fun _ _ => rfl)) (by rfl)) (pw_and1 (pt_cmpR op_notIn_seq (pv 6) (pe_ix ix_tup (pv 1) pe_int (fun _ _ => rfl)) (by rfl)))))) (fun _ _ _ _ _ => (pv 6))) pa_nil)))
  (pss_cons (ps_set (i := 5) nd_later_stand rfl (by first | exact Or.inl rfl | exact Or.inr rfl) (C8.pe_c (c_in_ties T) hr (by decide) rfl (pa_cons (pv 0) pa_nil)))
  (pss_cons (ps_ret (pe_tup (pa_cons (pe_op op_mod (pe_op op_add (pe_ix ix_tup (pv 1) pe_int (fun _ _ => rfl)) pe_int) (pe_callB cr_len (by rfl) T.n_len bt_len (pa_cons (pe_ix ix_tup (pv 0) pe_int (fun _ _ => rfl)) pa_nil))) (pa_cons (pv 3) (pa_cons (pv 4) (pa_cons (pe_callTy cr_tuple (by rfl) T.n_tuple bt_tuple (pa_cons (pe_lc (own := [("i", 6)]) (g := gName 6) rfl nd_later_stand (pi_tup (pv 2)) (blkOk_by (N := N_later_stand) (sc := C8.fnScope s_later_stand) (by decide +kernel)) (fun _ _ _ _ _ => pg_name (i := 6) nd_later_stand rfl (by first | exact Or.inl rfl | exact Or.inr rfl)) (fun _ _ _ _ _ => pts_one (pt_cmpR op_in_seq (pv 6) (pv 5) (by rfl))) (fun _ _ _ _ _ => (pv 6))) pa_nil)) pa_nil))))))
  pss_nil)))))
theorem c_later_stand (T : Top K mg) : C8.Cal P w K mg base 2 "later_stand" sp_later_stand [] := by
  refine cal_of T.f_later_stand sc_later_stand (t_later_stand K) (fun zs z h => ?_) (fun f cdv A outer s H E hr => d_later_stand T f cdv A outer s H E hr) (fun dr B E zs z hp hB hR hN => ?_)
  · obtain ⟨_, _, _, rfl, _⟩ := h; rfl
  obtain ⟨t, s, day, rfl, ht, hs, hd, rfl⟩ := hp
  have hn := ht.num.1
  have ho := ht.off.1
  have ho7 := ht.off.2.1
  refine w_asg hB (ev_cb (ea_cons ((en_lcR1 (fun _ => true) (fun i => .int (waitF t s day i)) (ea_cons (ev_cb (ea_cons (ev_op (ev_var (d := t.enc) rfl) ev_int (rr_ixT at0)) ea_nil) rc_lenT) ea_nil) (by rw [List.length_map]; omega) (by omega) (by simp) (fun i hi1 hi2 => et_yes) (fun i hi1 hi2 hf => (e_wait_behind (ea_cons (ev_var rfl) (ea_cons (ev_var rfl) (ea_cons (ev_var rfl) (ea_cons (ev_var rfl) ea_nil)))) hs hi1 (by rw [List.length_map] at hi2; exact hi2)))).is (show _ = (waitsF t s day).map PyData.int by rw [filt_true, waitsF, List.map_map, List.length_map]; rfl)).ev ea_nil) rc_tupL) ?_
  refine w_if hB (et_test (ev_op ev_int (ev_var rfl) rr_inT)) (fun hb => ?_) (fun hb => ?_)
  · refine w_ret hB (Ev.is ev_non ?_) hR
    unfold nextS
    rw [if_pos (by simpa using hb)]; rfl
  refine w_nx ?_
  refine w_asg hB (ev_cb (ea_cons (en_lcT day PyData.int (fun i => decide (i ∈ t.long) && !decide (i ∈ s.bz)) PyData.int (ev_var rfl) (by omega) (by simp) (fun a ha => (et_and (et_test (ev_op (ev_var rfl) (ev_op (ev_var (d := t.enc) rfl) ev_int (rr_ixT at3)) rr_inT)) fun _ => (et_test (ev_op (ev_var rfl) (ev_op (ev_var (d := s.enc) rfl) ev_int (rr_ixT at2)) rr_niT)))) (fun a ha hf => (ev_var rfl))).ev ea_nil) rc_tupL) ?_
  refine w_asg hB (e_in_ties (ea_cons (ev_var rfl) ea_nil) ht.tied.1) ?_
  refine w_ret hB (Ev.is (ev_tup (ead_cons (ev_op (ev_op (ev_op (ev_var (d := s.enc) rfl) ev_int (rr_ixT at0)) ev_int (rr_I0 fun _ => .int _)) (ev_cb (ea_cons (ev_op (ev_var (d := t.enc) rfl) ev_int (rr_ixT at2)) ea_nil) rc_lenT) (rr_I (by rw [List.length_map]; omega) fun _ => .int _)) (ead_cons (ev_var rfl) (ead_cons (ev_var rfl) (ead_cons (ev_cb (ea_cons (en_lcT day PyData.int (fun i => decide (i ∈ endsOf t.tied)) PyData.int (ev_var rfl) (by omega) (by simp) (fun a ha => (et_test (ev_op (ev_var rfl) (ev_varV rfl) rr_inLi))) (fun a ha hf => (ev_var rfl))).ev ea_nil) rc_tupL) ead_nil)))) (by nested_key)) ?_) hR
  unfold nextS
  rw [if_neg (by simpa using hb)]
  simp only [oenc, Stand.enc, List.length_map]
  rfl

/-! need_of -/
def oftenF (t : Task) (d : Int) (i : Nat) : Int := if (decide ((i : Int) ∈ t.long) && decide (0 < d / t.num.getD i 0)) = true then 2 * (d / t.num.getD i 0) - 1 else d / t.num.getD i 0
def needF (t : Task) (d : Int) : Int := ((List.range t.num.length).map (oftenF t d)).sum
def q_need_of : List Vd → Vd → Prop := fun a z => ∃ (t : Task) (d : Int), a = [.d t.enc, .d (.int d)] ∧ TaskOk t ∧ z = .d (.int (needF t d))
abbrev sp_need_of : Sp := spP q_need_of
theorem e_need_of {t : Task} {d : Int} (h : EvA dr ta δ [.d t.enc, .d (.int d)]) (ht : TaskOk t) : Ev dr (tCall sp_need_of [] C8.E0 ta) δ (.d (.int (needF t d))) := ev_call h ⟨_, _, rfl, ht, rfl⟩
abbrev s_need_of : Stmt := Hd.top 30
abbrev N_need_of : List Str := ["task", "days", "found", "i", "number", "often"]
theorem nd_need_of : N_need_of.Nodup := by decide +kernel
theorem sc_need_of : C8.scC N_need_of ["task", "days"] (C8.fnScope s_need_of) = true := by decide +kernel
def t_need_of (K : PySem.W.Frag) : TS :=
  (tSeq (tAsg (tC (.int 0)) (gName 2))
  (tSeq (tFor (iEnumT K (tCons (tOp (rIxT K) (tVar 0) (tC (.int 0))) tNil)) (gTup K 2 (unp [3, 4])) (tSeq (tAsg (tOp oDiv (tVar 1) (tVar 4)) (gName 5))
  (tSeq (tIfS (tAnd (tTest (tOp (rIn K false) (tVar 3) (tOp (rIxT K) (tVar 0) (tC (.int 3))))) (tTest (tOp oGt (tVar 5) (tC (.int 0))))) (tSeq (tAsg (tOp oSub (tOp oMul (tC (.int 2)) (tVar 5)) (tC (.int 1))) (gName 5))
  tNext) tNext)
  (tSeq (tAug 2 (tVar 5) (ipI fun i j => i + j))
  tNext))))
  (tSeq (tRet (tVar 2))
  tNext)))
theorem d_need_of {P : Program} {w : World} {K : PySem.W.Frag} {mg : Str → Option Value} {base : Heap} (T : Top K mg) (f : Addr) (cdv : Value) (A : Around) (outer : List Env) (s : Shared) (H : Hp) (E : XK)
    (hr : Room 0 (A.deeper (PyProof.Rows.envOfC "need_of" (C8.fnScope s_need_of) s.heap.objs.size f cdv))) :
    PSs (cxOf C8.CX0 P w K mg base N_need_of "need_of" (C8.fnScope s_need_of) f cdv A outer s H E).nox (C8.fnBody s_need_of) (t_need_of K) :=
  (pss_cons (ps_set (i := 2) nd_need_of rfl (by first | exact Or.inl rfl | exact Or.inr rfl) pe_int)
  (pss_cons (ps_for PassesOwn.never rfl (pi_enumT rfl T.n_enumerate (pa_cons (pe_ix ix_tup (pv 0) pe_int (fun _ _ => rfl)) pa_nil)) (pg_tup (by rfl) (pgs_cons (pg_name (i := 3) nd_need_of rfl (by first | exact Or.inl rfl | exact Or.inr rfl)) (pgs_cons (pg_name (i := 4) nd_need_of rfl (by first | exact Or.inl rfl | exact Or.inr rfl)) pgs_nil))) (pss_cons (ps_set (i := 5) nd_need_of rfl (by first | exact Or.inl rfl | exact Or.inr rfl) (pe_op op_fdiv (pv 1) (pv 4)))
  (pss_cons (ps_if (PW.pt (pw_and (pt_cmpR op_in_seq (pv 3) (pe_ix ix_tup (pv 0) pe_int (fun _ _ => rfl)) (by rfl)) (pw_and1 (pt_cmpR op_gt (pv 5) pe_int (nomark _))))) (pss_cons (ps_set (i := 5) nd_need_of rfl (by first | exact Or.inl rfl | exact Or.inr rfl) (pe_op op_sub (pe_op op_mul pe_int (pv 5)) pe_int))
  pss_nil) pss_nil)
  (pss_cons (ps_aug (i := 2) nd_need_of rfl (by first | exact Or.inl rfl | exact Or.inr rfl) (pv 5) ip_add)
  pss_nil))))
  (pss_cons (ps_ret (pv 2))
  pss_nil)))
theorem sum_succ (f : Nat → Int) (i : Nat) : ((List.range (i + 1)).map f).sum = ((List.range i).map f).sum + f i := by
  rw [List.range_succ, List.map_append, List.sum_append]; simp
theorem c_need_of (T : Top K mg) : C8.Cal P w K mg base 1 "need_of" sp_need_of [] := by
  refine cal_of T.f_need_of sc_need_of (t_need_of K) (fun zs z h => ?_) (fun f cdv A outer s H E hr => d_need_of T f cdv A outer s H E hr) (fun dr B E zs z hp hB hR hN => ?_)
  · obtain ⟨_, _, rfl, _⟩ := h; rfl
  obtain ⟨t, d, rfl, ht, rfl⟩ := hp
  refine w_asg hB ev_int ?_
  refine w_forE t.num PyData.int (fun i δ' => ∃ c1 c2 c3, δ' = [.d t.enc, .d (.int d), .d (.int ((List.range i).map (oftenF t d)).sum), c1, c2, c3]) hB (ea_cons (ev_op (ev_var (d := t.enc) rfl) ev_int (rr_ixT at0)) ea_nil) rfl ⟨_, _, _, rfl⟩ (fun B' hB' hb mu i a δ' ha hI => ?_) (fun δ' hI => ?_)
  · obtain ⟨c1, c2, c3, rfl⟩ := hI
    have hn := ht.num.2 a (List.mem_of_getElem? ha)
    have hg : t.num.getD i 0 = a := by rw [List.getD_eq_getElem?_getD, ha]; rfl
    refine w_asg hB' (ev_op (ev_var rfl) (ev_var rfl) (rr_I (⟨by omega, by omega⟩ : CDiv d a) fun _ => .int _)) ?_
    refine w_if hB' (et_and (et_test (ev_op (ev_var rfl) (ev_op (ev_var (d := t.enc) rfl) ev_int (rr_ixT at3)) rr_inT)) fun _ => (et_test (ev_op (ev_var rfl) ev_int (rr_I0 fun _ => .bl _)))) (fun hb' => ?_) (fun hb' => ?_)
    · refine w_asg hB' (ev_op (ev_op ev_int (ev_var rfl) (rr_I (.inl ⟨by decide, by decide⟩) fun _ => .int _)) ev_int (rr_I0 fun _ => .int _)) ?_
      refine w_nx ?_
      refine w_aug hB' rfl (ev_var rfl) ?_
      refine w_end ⟨.d (.int i), .d (.int a), .d (.int (2 * (d / a) - 1)), ?_⟩
      rw [sum_succ]
      have e : oftenF t d i = 2 * (d / a) - 1 := by
        unfold oftenF
        rw [hg, if_pos hb']
      rw [e]; rfl
    · refine w_nx ?_
      refine w_aug hB' rfl (ev_var rfl) ?_
      refine w_end ⟨.d (.int i), .d (.int a), .d (.int (d / a)), ?_⟩
      rw [sum_succ]
      have e : oftenF t d i = d / a := by
        unfold oftenF
        rw [hg, if_neg (by rw [hb']; decide)]
      rw [e]; rfl
  · obtain ⟨c1, c2, c3, rfl⟩ := hI
    exact w_ret hB (ev_var rfl) hR

/-! room_of -/
def freeF (t : Task) (p : Int) (k : Nat) : Int := 1 - t.off.getD ((p + (k : Int)) % (t.off.length : Int)).toNat 0
def roomF (t : Task) (d p : Int) : Int := t.hands * (d / (t.off.length : Int) * ((t.off.filter fun o => decide (o = 0)).length : Int) + ((List.range (d % (t.off.length : Int)).toNat).map (freeF t p)).sum)
def q_room_of : List Vd → Vd → Prop := fun a z => ∃ (t : Task) (d p : Int), a = [.d t.enc, .d (.int d), .d (.int p)] ∧ TaskOk t ∧ countP t d p ∧ z = .d (.int (roomF t d p))
abbrev sp_room_of : Sp := spP q_room_of
theorem e_room_of {t : Task} {d p : Int} (h : EvA dr ta δ [.d t.enc, .d (.int d), .d (.int p)]) (ht : TaskOk t) (hc : countP t d p) : Ev dr (tCall sp_room_of [] C8.E0 ta) δ (.d (.int (roomF t d p))) := ev_call h ⟨_, _, _, rfl, ht, hc, rfl⟩
abbrev s_room_of : Stmt := Hd.top 31
abbrev N_room_of : List Str := ["task", "days", "phase", "off", "found", "k", "place"]
theorem nd_room_of : N_room_of.Nodup := by decide +kernel
theorem sc_room_of : C8.scC N_room_of ["task", "days", "phase"] (C8.fnScope s_room_of) = true := by decide +kernel
def t_room_of (K : PySem.W.Frag) : TS :=
  (tSeq (tAsg (tOp (rIxT K) (tVar 0) (tC (.int 2))) (gName 3))
  (tSeq (tAsg (tOp oMul (tOp oDiv (tVar 1) (tCB (rLen K) (tCons (tVar 3) tNil))) (tCB (rLen K) (tCons (tLc (iTup K (tVar 3)) (gName 6) (tTest (tOp rEq (tVar 6) (tC (.int 0)))) (tVar 6) [6]) tNil))) (gName 4))
  (tSeq (tFor (iRng1 (tCons (tOp oMod (tVar 1) (tCB (rLen K) (tCons (tVar 3) tNil))) tNil)) (gName 5) (tSeq (tAug 4 (tOp oSub (tC (.int 1)) (tOp (rIxT K) (tVar 3) (tOp oMod (tOp oAdd (tVar 2) (tVar 5)) (tCB (rLen K) (tCons (tVar 3) tNil))))) (ipI fun i j => i + j))
  tNext))
  (tSeq (tRet (tOp oMul (tOp (rIxT K) (tVar 0) (tC (.int 1))) (tVar 4)))
  tNext))))
theorem d_room_of {P : Program} {w : World} {K : PySem.W.Frag} {mg : Str → Option Value} {base : Heap} (T : Top K mg) (f : Addr) (cdv : Value) (A : Around) (outer : List Env) (s : Shared) (H : Hp) (E : XK)
    (hr : Room 0 (A.deeper (PyProof.Rows.envOfC "room_of" (C8.fnScope s_room_of) s.heap.objs.size f cdv))) :
    PSs (cxOf C8.CX0 P w K mg base N_room_of "room_of" (C8.fnScope s_room_of) f cdv A outer s H E).nox (C8.fnBody s_room_of) (t_room_of K) :=
  (pss_cons (ps_set (i := 3) nd_room_of rfl (by first | exact Or.inl rfl | exact Or.inr rfl) (pe_ix ix_tup (pv 0) pe_int (fun _ _ => rfl)))
  (pss_cons (ps_set (i := 4) nd_room_of rfl (by first | exact Or.inl rfl | exact Or.inr rfl) (pe_op op_mul (pe_op op_fdiv (pv 1) (pe_callB cr_len (by rfl) T.n_len bt_len (pa_cons (pv 3) pa_nil))) (pe_callB cr_len (by rfl) T.n_len bt_len (pa_cons (pe_lc (own := [("place", 6)]) (g := gName 6) rfl nd_room_of (pi_tup (pv 3)) (blkOk_by (N := N_room_of) (sc := C8.fnScope s_room_of) (by decide +kernel)) (fun _ _ _ _ _ => pg_name (i := 6) nd_room_of rfl (by first | exact Or.inl rfl | exact Or.inr rfl)) (fun _ _ _ _ _ => pts_one (pt_cmpR op_eq (pv 6) pe_int (nomark _))) (fun _ _ _ _ _ => (pv 6))) pa_nil))))
  (pss_cons (ps_for PassesOwn.never rfl (pi_range1 rfl T.n_range (pa_cons (pe_op op_mod (pv 1) (pe_callB cr_len (by rfl) T.n_len bt_len (pa_cons (pv 3) pa_nil))) pa_nil)) (pg_name (i := 5) nd_room_of rfl (by first | exact Or.inl rfl | exact Or.inr rfl)) (pss_cons (ps_aug (i := 4) nd_room_of rfl (by first | exact Or.inl rfl | exact Or.inr rfl) (pe_op op_sub pe_int (pe_ix ix_tup (pv 3) (pe_op op_mod (pe_op op_add (pv 2) (pv 5)) (pe_callB cr_len (by rfl) T.n_len bt_len (pa_cons (pv 3) pa_nil))) (fun _ _ => rfl))) ip_add)
  pss_nil))
  (pss_cons (ps_ret (pe_op op_mul (pe_ix ix_tup (pv 0) pe_int (fun _ _ => rfl)) (pv 4)))
  pss_nil))))
theorem c_room_of (T : Top K mg) : C8.Cal P w K mg base 1 "room_of" sp_room_of [] := by
  refine cal_of T.f_room_of sc_room_of (t_room_of K) (fun zs z h => ?_) (fun f cdv A outer s H E hr => d_room_of T f cdv A outer s H E hr) (fun dr B E zs z hp hB hR hN => ?_)
  · obtain ⟨_, _, _, rfl, _⟩ := h; rfl
  obtain ⟨t, d, p, rfl, ht, ⟨h1, h2, h3, h4⟩, rfl⟩ := hp
  have ho := ht.off.1
  have ho7 := ht.off.2.1
  have hlen : (List.map PyData.int t.off).length = t.off.length := List.length_map ..
  have hd : d / (t.off.length : Int) ≤ 1000000 := Int.le_trans (Int.ediv_le_self _ (by omega)) h2
  have hd0 : 0 ≤ d / (t.off.length : Int) := Int.ediv_nonneg (by omega) (by omega)
  have hm0 : 0 ≤ d % (t.off.length : Int) := Int.emod_nonneg _ (by omega)
  have hm1 : d % (t.off.length : Int) < t.off.length := Int.emod_lt_of_pos _ (by omega)
  refine w_asg hB (ev_op (ev_var (d := t.enc) rfl) ev_int (rr_ixT at2)) ?_
  refine w_asg hB (ev_op (ev_op (ev_var rfl) (ev_cb (ea_cons (ev_var rfl) ea_nil) rc_lenT) (rr_I (by rw [hlen]; exact (⟨by omega, by omega⟩ : CDiv d t.off.length)) fun _ => .int _)) (ev_cb (ea_cons (en_lcT t.off PyData.int (fun o => decide (o = 0)) PyData.int (ev_var rfl) (by omega) (by simp) (fun a ha => (et_test (ev_op (ev_var rfl) ev_int rr_eqI))) (fun a ha hf => (ev_var rfl))).ev ea_nil) rc_lenL) (rr_I (by rw [hlen]; exact .inl ⟨by omega, by omega⟩) fun _ => .int _)) ?_
  rw [hlen]
  refine w_forR1 (n := d % (t.off.length : Int)) (fun i δ' => ∃ c1 c2, δ' = [.d t.enc, .d (.int d), .d (.int p), .d (dI t.off), .d (.int (d / (t.off.length : Int) * ((t.off.filter fun o => decide (o = 0)).length : Int) + ((List.range i).map (freeF t p)).sum)), c1, c2]) hB (ea_cons (Ev.is (ev_op (ev_var rfl) (ev_cb (ea_cons (ev_var rfl) ea_nil) rc_lenT) (rr_I (by rw [hlen]; omega) fun _ => .int _)) (by rw [hlen])) ea_nil) (by omega) (by omega) ⟨.x, .x, by simp only [List.range_zero, List.map_nil, List.sum_nil, Int.add_zero, List.length_map]; rfl⟩ (fun i δ' hi hI => ?_) (fun δ' hI => ?_)
  · obtain ⟨c1, c2, rfl⟩ := hI
    have hq0 : 0 ≤ (p + (i : Int)) % (t.off.length : Int) := Int.emod_nonneg _ (by omega)
    have hq1 : (p + (i : Int)) % (t.off.length : Int) < t.off.length := Int.emod_lt_of_pos _ (by omega)
    refine w_aug hB rfl (ev_op ev_int (ev_op (ev_var rfl) (ev_op (ev_op (ev_var rfl) (ev_var rfl) (rr_I0 fun _ => .int _)) (ev_cb (ea_cons (ev_var rfl) ea_nil) rc_lenT) (rr_I (by rw [hlen]; omega) fun _ => .int _)) (rr_ixT (by rw [hlen]; exact at_map hq0 (getDI hq0 hq1)))) (rr_I0 fun _ => .int _)) ?_
    refine w_end ⟨.d (.int i), c2, ?_⟩
    rw [sum_succ, ← Int.add_assoc]
    rfl
  · obtain ⟨c1, c2, rfl⟩ := hI
    refine w_ret hB (ev_op (ev_op (ev_var (d := t.enc) rfl) ev_int (rr_ixT at1)) (ev_var rfl) (rr_I (.inl ?_) fun _ => .int _)) hR
    rcases ht.hands with e | e <;> rw [e] <;> decide

/-! led -/
def ledF (t : Task) (s : Stand) : List (List Int) → Option Stand
  | [] => some s
  | d :: ds => if canB t s d = true then (nextS t s d).bind fun s' => ledF t s' ds else none
def q_led : List Vd → Vd → Prop := fun a z => ∃ (t : Task) (s : Stand) (ds : List (List Int)), a = [.d t.enc, .d s.enc, .d (dII ds)] ∧ TaskOk t ∧ SW t s ∧ ds.length ≤ 100000 ∧ (∀ d ∈ ds, d.length ≤ 1000) ∧ z = .d (oenc (ledF t s ds))
abbrev sp_led : Sp := spP q_led
theorem e_led {t : Task} {s : Stand} {ds : List (List Int)} (h : EvA dr ta δ [.d t.enc, .d s.enc, .d (dII ds)]) (ht : TaskOk t) (hs : SW t s) (hl : ds.length ≤ 100000) (hd : ∀ d ∈ ds, d.length ≤ 1000) : Ev dr (tCall sp_led [] C8.E0 ta) δ (.d (oenc (ledF t s ds))) := ev_call h ⟨_, _, _, rfl, ht, hs, hl, hd, rfl⟩
abbrev s_led : Stmt := Hd.top 56
abbrev N_led : List Str := ["task", "stand", "days", "day"]
theorem nd_led : N_led.Nodup := by decide +kernel
theorem sc_led : C8.scC N_led ["task", "stand", "days"] (C8.fnScope s_led) = true := by decide +kernel
def t_led (K : PySem.W.Frag) : TS :=
  (tSeq (tFor (iTup K (tVar 2)) (gName 3) (tSeq (tIfS (tNot (tB (tCall sp_can_be_done [] C8.E0 (tCons (tVar 0) (tCons (tVar 1) (tCons (tVar 3) tNil)))))) (tSeq (tRet (tC .non))
  tNext) tNext)
  (tSeq (tAsg (tCall sp_later_stand [] C8.E0 (tCons (tVar 0) (tCons (tVar 1) (tCons (tVar 3) tNil)))) (gName 1))
  (tSeq (tIfS (tTest (tOp rIsN (tVar 1) (tC .non))) (tSeq (tRet (tC .non))
  tNext) tNext)
  tNext))))
  (tSeq (tRet (tVar 1))
  tNext))
theorem d_led {P : Program} {w : World} {K : PySem.W.Frag} {mg : Str → Option Value} {base : Heap} (T : Top K mg) (f : Addr) (cdv : Value) (A : Around) (outer : List Env) (s : Shared) (H : Hp) (E : XK)
    (hr : Room 2 (A.deeper (PyProof.Rows.envOfC "led" (C8.fnScope s_led) s.heap.objs.size f cdv))) :
    PSs (cxOf C8.CX0 P w K mg base N_led "led" (C8.fnScope s_led) f cdv A outer s H E).nox (C8.fnBody s_led) (t_led K) :=
  (pss_cons (ps_for PassesOwn.never rfl (pi_tup (pv 2)) (pg_name (i := 3) nd_led rfl (by first | exact Or.inl rfl | exact Or.inr rfl)) (pss_cons (ps_if (pt_not (pt_val (C8.pe_c (c_can_be_done T) hr (by decide) rfl (pa_cons (pv 0) (pa_cons (pv 1) (pa_cons (pv 3) pa_nil)))))) (pss_cons (ps_ret pe_non)
  pss_nil) pss_nil)
  (pss_cons (ps_set (i := 1) nd_led rfl (by first | exact Or.inl rfl | exact Or.inr rfl) (C8.pe_c (c_later_stand T) hr (by decide) rfl (pa_cons (pv 0) (pa_cons (pv 1) (pa_cons (pv 3) pa_nil)))))
  (pss_cons (ps_if (pt_cmpR op_isN' (pv 1) pe_non (nomark _)) (pss_cons (ps_ret pe_non)
  pss_nil) pss_nil)
  pss_nil))))
  (pss_cons (ps_ret (pv 1))
  pss_nil))
theorem drop_at {α : Type} {xs : List α} {i : Nat} {a : α} (h : xs[i]? = some a) : xs.drop i = a :: xs.drop (i + 1) := by
  obtain ⟨h1, h2⟩ := List.getElem?_eq_some_iff.mp h
  rw [← h2, List.drop_eq_getElem_cons h1]
theorem c_led (T : Top K mg) : C8.Cal P w K mg base 3 "led" sp_led [] := by
  refine cal_of T.f_led sc_led (t_led K) (fun zs z h => ?_) (fun f cdv A outer s H E hr => d_led T f cdv A outer s H E hr) (fun dr B E zs z hp hB hR hN => ?_)
  · obtain ⟨_, _, _, rfl, _⟩ := h; rfl
  obtain ⟨t, s, ds, rfl, ht, hs, hl, hd, rfl⟩ := hp
  refine w_forT ds dI (fun i δ' => ∃ (s' : Stand) (c : Sd), δ' = [.d t.enc, .d s'.enc, .d (dII ds), c] ∧ SW t s' ∧ ledF t s ds = ledF t s' (ds.drop i)) hB (ev_var rfl) ⟨s, .x, rfl, hs, rfl⟩ (fun B' hB' hb mu i a δ' ha hI => ?_) (fun δ' hI => ?_)
  · obtain ⟨s', c, rfl, hs', he⟩ := hI
    rw [drop_at ha] at he
    have hda := hd a (List.mem_of_getElem? ha)
    have hR' : ∀ v H', B' H' → Jd dr H' → (Vd.d (oenc (ledF t s ds))).ok dr H' v → E.rt v H' := fun v H' b j h => hR v H' (hb H' b) j h
    refine w_if hB' (et_not (et_B (e_can_be_done (ea_cons (ev_var rfl) (ea_cons (ev_var rfl) (ea_cons (ev_var rfl) ea_nil))) hs'))) (fun hb' => ?_) (fun hb' => ?_)
    · refine w_ret hB' (Ev.is ev_non ?_) hR'
      have e : canB t s' a = false := by simpa using hb'
      rw [he]; simp [ledF, e, oenc]
    have e : canB t s' a = true := by simpa using hb'
    simp only [ledF, e, if_true] at he
    refine w_nx ?_
    refine w_asg hB' (e_later_stand (ea_cons (ev_var rfl) (ea_cons (ev_var rfl) (ea_cons (ev_var rfl) ea_nil))) ht hs' hda) ?_
    refine w_if hB' (et_test (ev_op (ev_var rfl) ev_non rr_isN)) (fun hb'' => ?_) (fun hb'' => ?_)
    · rw [isNon_oenc] at hb''
      refine w_ret hB' (Ev.is ev_non ?_) hR'
      have e2 : nextS t s' a = none := by simpa using hb''
      rw [he, e2]; rfl
    · rw [isNon_oenc] at hb''
      cases e2 : nextS t s' a with
      | none => rw [e2] at hb''; simp at hb''
      | some s2 =>
        rw [e2] at he
        refine w_nx ?_
        exact w_end ⟨s2, _, rfl, nextS_sw ht hda e2, he⟩
  · obtain ⟨s', c, rfl, hs', he⟩ := hI
    rw [List.drop_length] at he
    refine w_ret hB (Ev.is (ev_var rfl) ?_) hR
    rw [he]; rfl

/-! on_holds -/
def onH (t : Task) (s : Stand) (lead ring : List (List Int)) : Bool := match ledF t s (lead ++ ring) with
  | none => false
  | some one => match ledF t one ring with
    | none => false
    | some two => underB one two
theorem ledF_sw {t : Task} (ht : TaskOk t) : ∀ {ds : List (List Int)} {s s' : Stand}, SW t s → (∀ d ∈ ds, d.length ≤ 1000) → ledF t s ds = some s' → SW t s'
  | [], s, s', hs, _, h => by cases h; exact hs
  | d :: ds, s, s', hs, hd, h => by
    simp only [ledF] at h
    split at h
    · cases e : nextS t s d with
      | none => rw [e] at h; cases h
      | some s2 =>
        rw [e] at h
        exact ledF_sw ht (nextS_sw ht (hd d List.mem_cons_self) e) (fun x hx => hd x (List.mem_cons_of_mem _ hx)) h
    · cases h
def q_on_holds : List Vd → Vd → Prop := fun a z => ∃ (t : Task) (s : Stand) (lead ring : List (List Int)), a = [.d t.enc, .d s.enc, .d (dII lead), .d (dII ring)] ∧ TaskOk t ∧ SW t s ∧ lead.length ≤ 4000 ∧ ring.length ≤ 4000 ∧ (∀ d ∈ lead, d.length ≤ 1000) ∧ (∀ d ∈ ring, d.length ≤ 1000) ∧ z = .d (.bool (onH t s lead ring))
abbrev sp_on_holds : Sp := spP q_on_holds
theorem e_on_holds {t : Task} {s : Stand} {lead ring : List (List Int)} (h : EvA dr ta δ [.d t.enc, .d s.enc, .d (dII lead), .d (dII ring)]) (ht : TaskOk t) (hs : SW t s) (h1 : lead.length ≤ 4000) (h2 : ring.length ≤ 4000) (h3 : ∀ d ∈ lead, d.length ≤ 1000) (h4 : ∀ d ∈ ring, d.length ≤ 1000) :
    Ev dr (tCall sp_on_holds [] C8.E0 ta) δ (.d (.bool (onH t s lead ring))) := ev_call h ⟨_, _, _, _, rfl, ht, hs, h1, h2, h3, h4, rfl⟩
abbrev s_on_holds : Stmt := Hd.top 57
abbrev N_on_holds : List Str := ["task", "stand", "lead", "ring", "one", "two"]
theorem nd_on_holds : N_on_holds.Nodup := by decide +kernel
theorem sc_on_holds : C8.scC N_on_holds ["task", "stand", "lead", "ring"] (C8.fnScope s_on_holds) = true := by decide +kernel
def t_on_holds (K : PySem.W.Frag) : TS :=
  (tSeq (tAsg (tCall sp_led [] C8.E0 (tCons (tVar 0) (tCons (tVar 1) (tCons (tOp (rCatA K) (tVar 2) (tVar 3)) tNil)))) (gName 4))
  (tSeq (tIfS (tTest (tOp rIsN (tVar 4) (tC .non))) (tSeq (tRet (tC (.bl false)))
  tNext) tNext)
  (tSeq (tAsg (tCall sp_led [] C8.E0 (tCons (tVar 0) (tCons (tVar 4) (tCons (tVar 3) tNil)))) (gName 5))
  (tSeq (tRet (tAndV (tOp rNotN (tVar 5) (tC .non)) (tCall sp_lies_under [] C8.E0 (tCons (tVar 4) (tCons (tVar 5) tNil)))))
  tNext))))
theorem d_on_holds {P : Program} {w : World} {K : PySem.W.Frag} {mg : Str → Option Value} {base : Heap} (T : Top K mg) (f : Addr) (cdv : Value) (A : Around) (outer : List Env) (s : Shared) (H : Hp) (E : XK)
    (hr : Room 3 (A.deeper (PyProof.Rows.envOfC "on_holds" (C8.fnScope s_on_holds) s.heap.objs.size f cdv))) :
    PSs (cxOf C8.CX0 P w K mg base N_on_holds "on_holds" (C8.fnScope s_on_holds) f cdv A outer s H E).nox (C8.fnBody s_on_holds) (t_on_holds K) :=
  (pss_cons (ps_set (i := 4) nd_on_holds rfl (by first | exact Or.inl rfl | exact Or.inr rfl) (C8.pe_c (c_led T) hr (by decide) rfl (pa_cons (pv 0) (pa_cons (pv 1) (pa_cons (pe_op op_catA (pv 2) (pv 3)) pa_nil)))))
  (pss_cons (ps_if (pt_cmpR op_isN' (pv 4) pe_non (nomark _)) (pss_cons (ps_ret pe_bl)
  pss_nil) pss_nil)
  (pss_cons (ps_set (i := 5) nd_on_holds rfl (by first | exact Or.inl rfl | exact Or.inr rfl) (C8.pe_c (c_led T) hr (by decide) rfl (pa_cons (pv 0) (pa_cons (pv 4) (pa_cons (pv 3) pa_nil)))))
  (pss_cons (ps_ret (pe_and (pe_cmpR op_notN' (pv 5) pe_non (nomark _)) (pe_one (C8.pe_c (c_lies_under T) hr (by decide) rfl (pa_cons (pv 4) (pa_cons (pv 5) pa_nil))))))
  pss_nil))))
theorem c_on_holds (T : Top K mg) : C8.Cal P w K mg base 4 "on_holds" sp_on_holds [] := by
  refine cal_of T.f_on_holds sc_on_holds (t_on_holds K) (fun zs z h => ?_) (fun f cdv A outer s H E hr => d_on_holds T f cdv A outer s H E hr) (fun dr B E zs z hp hB hR hN => ?_)
  · obtain ⟨_, _, _, _, rfl, _⟩ := h; rfl
  obtain ⟨t, s, lead, ring, rfl, ht, hs, h1, h2, h3, h4, rfl⟩ := hp
  have h34 : ∀ d ∈ lead ++ ring, d.length ≤ 1000 := fun d hd => (List.mem_append.mp hd).elim (h3 d) (h4 d)
  refine w_asg hB (e_led (ea_cons (ev_var rfl) (ea_cons (ev_var rfl) (ea_cons (Ev.is (ev_op (ev_var rfl) (ev_var rfl) (rr_catT (by simp [small]; omega))) (show _ = Vd.d (dII (lead ++ ring)) by rw [dII, List.map_append])) ea_nil))) ht hs (by rw [List.length_append]; omega) h34) ?_
  refine w_if hB (et_test (ev_op (ev_var rfl) ev_non rr_isN)) (fun hb => ?_) (fun hb => ?_)
  · rw [isNon_oenc] at hb
    refine w_ret hB (Ev.is ev_bl ?_) hR
    have e : ledF t s (lead ++ ring) = none := by simpa using hb
    unfold onH; rw [e]
  rw [isNon_oenc] at hb
  cases e : ledF t s (lead ++ ring) with
  | none => rw [e] at hb; simp at hb
  | some one =>
    have sw1 := ledF_sw ht hs h34 e
    refine w_nx ?_
    refine w_asg hB (e_led (s := one) (ea_cons (ev_var rfl) (ea_cons (ev_var rfl) (ea_cons (ev_var rfl) ea_nil))) ht sw1 (by omega) h4) ?_
    cases e2 : ledF t one ring with
    | none =>
      refine w_ret hB (Ev.is (ev_andV (b := false) (ev_op (ev_var rfl) ev_non rr_notN) fun h => ?_) ?_) hR
      · simp [oenc, isNon] at h
      · unfold onH; rw [e]; simp [e2]
    | some two =>
      have sw2 := ledF_sw ht sw1 h4 e2
      have hn := ht.num.1
      refine w_ret hB (Ev.is (ev_andV (ev_op (ev_var (d := two.enc) rfl) ev_non rr_notN) fun _ => (e_lies_under (s := one) (s' := two) (ea_cons (ev_var rfl) (ea_cons (ev_var rfl) ea_nil)) (by rw [sw1.wl, sw2.wl]) (by rw [sw1.wl]; omega) sw2.ls)) ?_) hR
      unfold onH; rw [e]; simp [e2, Stand.enc, isNon]

/-! count_holds -/
def countH (t : Task) (d p : Int) : Bool := decide (roomF t d p < needF t d)
def q_count_holds : List Vd → Vd → Prop := fun a z => ∃ (t : Task) (d p : Int), a = [.d t.enc, .d (.int d), .d (.int p)] ∧ TaskOk t ∧ countP t d p ∧ z = .d (.bool (countH t d p))
abbrev sp_count_holds : Sp := spP q_count_holds
theorem e_count_holds {t : Task} {d p : Int} (h : EvA dr ta δ [.d t.enc, .d (.int d), .d (.int p)]) (ht : TaskOk t) (hc : countP t d p) : Ev dr (tCall sp_count_holds [] C8.E0 ta) δ (.d (.bool (countH t d p))) := ev_call h ⟨_, _, _, rfl, ht, hc, rfl⟩
abbrev s_count_holds : Stmt := Hd.top 58
abbrev N_count_holds : List Str := ["task", "days", "phase"]
theorem nd_count_holds : N_count_holds.Nodup := by decide +kernel
theorem sc_count_holds : C8.scC N_count_holds ["task", "days", "phase"] (C8.fnScope s_count_holds) = true := by decide +kernel
def t_count_holds (K : PySem.W.Frag) : TS :=
  (tSeq (tRet (tOp oGt (tCall sp_need_of [] C8.E0 (tCons (tVar 0) (tCons (tVar 1) tNil))) (tCall sp_room_of [] C8.E0 (tCons (tVar 0) (tCons (tVar 1) (tCons (tVar 2) tNil))))))
  tNext)
theorem d_count_holds {P : Program} {w : World} {K : PySem.W.Frag} {mg : Str → Option Value} {base : Heap} (T : Top K mg) (f : Addr) (cdv : Value) (A : Around) (outer : List Env) (s : Shared) (H : Hp) (E : XK)
    (hr : Room 1 (A.deeper (PyProof.Rows.envOfC "count_holds" (C8.fnScope s_count_holds) s.heap.objs.size f cdv))) :
    PSs (cxOf C8.CX0 P w K mg base N_count_holds "count_holds" (C8.fnScope s_count_holds) f cdv A outer s H E).nox (C8.fnBody s_count_holds) (t_count_holds K) :=
  (pss_cons (ps_ret (pe_cmpR op_gt (C8.pe_c (c_need_of T) hr (by decide) rfl (pa_cons (pv 0) (pa_cons (pv 1) pa_nil))) (C8.pe_c (c_room_of T) hr (by decide) rfl (pa_cons (pv 0) (pa_cons (pv 1) (pa_cons (pv 2) pa_nil)))) (nomark _)))
  pss_nil)
theorem c_count_holds (T : Top K mg) : C8.Cal P w K mg base 2 "count_holds" sp_count_holds [] := by
  refine cal_of T.f_count_holds sc_count_holds (t_count_holds K) (fun zs z h => ?_) (fun f cdv A outer s H E hr => d_count_holds T f cdv A outer s H E hr) (fun dr B E zs z hp hB hR hN => ?_)
  · obtain ⟨_, _, _, rfl, _⟩ := h; rfl
  obtain ⟨t, d, p, rfl, ht, hc, rfl⟩ := hp
  exact w_ret hB (ev_op (e_need_of (ea_cons (ev_var rfl) (ea_cons (ev_var rfl) ea_nil)) ht) (e_room_of (ea_cons (ev_var rfl) (ea_cons (ev_var rfl) (ea_cons (ev_var rfl) ea_nil))) ht hc) (rr_I0 fun _ => .bl _)) hR
end
end Ed
end
section
set_option maxHeartbeats 4000000
namespace Ed
open PySem L2
local macro_rules | `(tactic| nested_key) => `(tactic| first
  | rfl
  | assumption
  | omega
  | exact Nat.le_of_ble_eq_true rfl
  | decide
  | (simp only [List.length_map, small]; omega)
  | (simp [small]; done)
  | (simp only [Vd.sd, setAll, List.set, mutAll, okm, Fr] at *; simp_all; done))

section
variable {P : Program} {w : World} {K : PySem.W.Frag} {mg : Str → Option Value} {base : Heap} {dr : Option Addr} {δ : List Sd} {ta te : TA}
abbrev anyI (φ : Int → Prop) : Vd := .g (anyV (iZ φ))
/-! the script -/
def ScL (K : PySem.W.Frag) (H : Hp) (a : Addr) (xs : List V) : Prop :=
  (∃ o, H a = some (.frz o (.lst xs))) ∨ ∃ (o : Obj) (its : Array Value) (n : Nat), K.lookup a = some o ∧ o.cls = .type "list" ∧ o.dict = none ∧ o.data = .seq its n ∧ its.size ≤ sizeLine ∧ Vals xs its.toList
theorem ScL.sql {H : Hp} {a : Addr} {xs : List V} (h : ScL K H a xs) : SqL K H a xs := by
  rcases h with ⟨o, h⟩ | h
  · exact .inl (.inr ⟨o, h⟩)
  · exact .inr h
def scV (K : PySem.W.Frag) (ns : List Int) : Gv where
  ok := fun dr H v => ∃ a, v = .ref a ∧ dr ≠ some a ∧ ScL K H a (ns.map V.int)
  ext := fun {dr H H1 v} e j h => by
    obtain ⟨a, rfl, n, h⟩ := h
    refine ⟨a, rfl, n, ?_⟩
    rcases h with ⟨o, h⟩ | h
    · exact .inl ⟨o, e.rel _ _ n h⟩
    · exact .inr h
  st := true
  chg := fun _ dr H v p o n nf h => by
    obtain ⟨a, rfl, n', h⟩ := h
    refine ⟨a, rfl, n', ?_⟩
    rcases h with ⟨o', h⟩ | h
    · exact .inl ⟨o', by rw [upd_ne (fun z => nf _ _ (by rw [← z]; exact h))]; exact h⟩
    · exact .inr h
theorem rc_lenS {ns : List Int} : RC dr (rLen K) [.g (scV K ns)] (.d (.int ns.length)) := fun vs H h jd Q q => by
  obtain ⟨v, rfl, a, rfl, n, h⟩ := oks1 h
  exact ⟨a, _, rfl, Or.inl h.sql, q _ H (Ext.refl jd) (by rw [List.length_map]; exact .int _)⟩
theorem rr_ixS {ns : List Int} {i : Int} (h0 : 0 ≤ i) (h1 : i < ns.length) : RR dr (rIxL K) (.g (scV K ns)) (.d (.int i)) (.d (.int (ns.getD i.toNat 0))) := fun v w H hv hw jd Q q => by
  obtain ⟨a, rfl, n, h⟩ := hv
  cases int_of hw
  have hg : ns[i.toNat]? = some (ns.getD i.toNat 0) := by
    rw [List.getD_eq_getElem?_getD, List.getElem?_eq_getElem (by omega)]; rfl
  have e : atI (ns.map V.int) i = some (V.int (ns.getD i.toNat 0)) := by
    have e : i = (i.toNat : Int) := by omega
    rw [e]
    refine atI_nat ?_
    have e2 : ((i.toNat : Int)).toNat = i.toNat := by omega
    rw [List.getElem?_map, e2, hg]; rfl
  exact ⟨a, _, i, _, rfl, rfl, h.sql, e, q _ H (Ext.refl jd) (.int _)⟩
def q__law_cell (K : PySem.W.Frag) : List Vd → Vd → Prop := fun a z => ∃ (ns : List Int) (k : Int), a = [.g (scV K ns), .d (.int k)] ∧ 0 ≤ k ∧ k ≤ 1000 ∧ z = anyI fun _ => True
abbrev sp__law_cell (K : PySem.W.Frag) : Sp := spP (q__law_cell K)
theorem e__law_cell {ns : List Int} {k : Int} (h : EvA dr ta δ [.g (scV K ns), .d (.int k)]) (h0 : 0 ≤ k) (h1 : k ≤ 1000) : Ev dr (tCall (sp__law_cell K) [] C8.E0 ta) δ (anyI fun _ => True) := ev_call h ⟨_, _, rfl, h0, h1, rfl⟩
abbrev s__law_cell : Stmt := Hd.top 65
abbrev N__law_cell : List Str := ["_law_script", "_law_k", "_law_spare"]
theorem nd__law_cell : N__law_cell.Nodup := by decide +kernel
theorem sc__law_cell : C8.scC N__law_cell ["_law_script", "_law_k"] (C8.fnScope s__law_cell) = true := by decide +kernel
def t__law_cell (K : PySem.W.Frag) : TS :=
  (tSeq (tIfS (tTest (tOp oLt (tVar 1) (tCB (rLen K) (tCons (tVar 0) tNil)))) (tSeq (tRet (tOp (rIxL K) (tVar 0) (tVar 1)))
  tNext) tNext)
  (tSeq (tAsg (tOp oAdd (tC (.int 80021)) (tOp oMul (tOp oMul (tC (.int 941)) (tVar 1)) (tVar 1))) (gName 2))
  (tSeq (tIfS (tTest (tOp oGt (tCB (rLen K) (tCons (tVar 0) tNil)) (tC (.int 0)))) (tSeq (tAsg (tOp oAdd (tVar 2) (tOp oMul (tOp oMod (tOp (rIxL K) (tVar 0) (tC (.int 0))) (tC (.int 99991))) (tOp oAdd (tOp oMul (tC (.int 2)) (tVar 1)) (tC (.int 5))))) (gName 2))
  tNext) tNext)
  (tSeq (tRet (tVar 2))
  tNext))))
theorem d__law_cell {P : Program} {w : World} {K : PySem.W.Frag} {mg : Str → Option Value} {base : Heap} (T : Top K mg) (f : Addr) (cdv : Value) (A : Around) (outer : List Env) (s : Shared) (H : Hp) (E : XK)
    (hr : Room 0 (A.deeper (PyProof.Rows.envOfC "_law_cell" (C8.fnScope s__law_cell) s.heap.objs.size f cdv))) :
    PSs (cxOf C8.CX0 P w K mg base N__law_cell "_law_cell" (C8.fnScope s__law_cell) f cdv A outer s H E).nox (C8.fnBody s__law_cell) (t__law_cell K) :=
  (pss_cons (ps_if (pt_cmpR op_lt (pv 1) (pe_callB cr_len (by rfl) T.n_len bt_len (pa_cons (pv 0) pa_nil)) (nomark _)) (pss_cons (ps_ret (pe_ix ix_list (pv 0) (pv 1) (fun _ _ => rfl)))
  pss_nil) pss_nil)
  (pss_cons (ps_set (i := 2) nd__law_cell rfl (by first | exact Or.inl rfl | exact Or.inr rfl) (pe_op op_add pe_int (pe_op op_mul (pe_op op_mul pe_int (pv 1)) (pv 1))))
  (pss_cons (ps_if (pt_cmpR op_gt (pe_callB cr_len (by rfl) T.n_len bt_len (pa_cons (pv 0) pa_nil)) pe_int (nomark _)) (pss_cons (ps_set (i := 2) nd__law_cell rfl (by first | exact Or.inl rfl | exact Or.inr rfl) (pe_op op_add (pv 2) (pe_op op_mul (pe_op op_mod (pe_ix ix_list (pv 0) pe_int (fun _ _ => rfl)) pe_int) (pe_op op_add (pe_op op_mul pe_int (pv 1)) pe_int))))
  pss_nil) pss_nil)
  (pss_cons (ps_ret (pv 2))
  pss_nil))))
theorem c__law_cell (T : Top K mg) : C8.Cal P w K mg base 1 "_law_cell" (sp__law_cell K) [] := by
  refine cal_of T.f__law_cell sc__law_cell (t__law_cell K) (fun zs z h => ?_) (fun f cdv A outer s H E hr => d__law_cell T f cdv A outer s H E hr) (fun dr B E zs z hp hB hR hN => ?_)
  · obtain ⟨_, _, rfl, _⟩ := h; rfl
  obtain ⟨ns, k, rfl, h0, h1, rfl⟩ := hp
  have any : ∀ {te : TE} {δ : List Sd} {n : Int}, Ev dr te δ (.d (.int n)) → Ev dr te δ (anyI fun _ => True) := fun h => h.any ⟨_, trivial, rfl⟩
  refine w_if hB (et_test (ev_op (ev_var rfl) (ev_cb (ea_cons (ev_varV rfl) ea_nil) rc_lenS) (rr_I0 fun _ => .bl _))) (fun hb => ?_) (fun hb => ?_)
  · have hb' : k < (ns.length : Int) := by simpa using hb
    exact w_ret hB (any (ev_op (ev_varV rfl) (ev_var rfl) (rr_ixS h0 hb'))) hR
  refine w_nx ?_
  refine w_asg hB (ev_op ev_int (ev_op (ev_op ev_int (ev_var rfl) (rr_I (.inl (by decide)) fun _ => .int _)) (ev_var rfl) (rr_I (.inr (by omega)) fun _ => .int _)) (rr_I0 fun _ => .int _)) ?_
  refine w_if hB (et_test (ev_op (ev_cb (ea_cons (ev_varV rfl) ea_nil) rc_lenS) ev_int (rr_I0 fun _ => .bl _))) (fun hb => ?_) (fun hb => ?_)
  · have hb' : (0 : Int) < (ns.length : Int) := by simpa using hb
    refine w_asg hB (ev_op (ev_var rfl) (ev_op (ev_op (ev_op (ev_varV rfl) ev_int (rr_ixS (by decide) hb')) ev_int (rr_I (by decide) fun _ => .int _)) (ev_op (ev_op ev_int (ev_var rfl) (rr_I (.inl (by decide)) fun _ => .int _)) ev_int (rr_I0 fun _ => .int _)) (rr_I (.inr (by omega)) fun _ => .int _)) (rr_I0 fun _ => .int _)) ?_
    refine w_nx ?_
    exact w_ret hB (any (ev_var rfl)) hR
  · refine w_nx ?_
    exact w_ret hB (any (ev_var rfl)) hR
end
end Ed
end
section
set_option maxHeartbeats 4000000
namespace Ed
open PySem L2
local macro_rules | `(tactic| nested_key) => `(tactic| first
  | rfl
  | assumption
  | omega
  | exact Nat.le_of_ble_eq_true rfl
  | decide
  | (simp only [List.length_map, small]; omega)
  | (simp [small]; done)
  | (simp only [Vd.sd, setAll, List.set, mutAll, okm, Fr] at *; simp_all; done))

section
variable {P : Program} {w : World} {K : PySem.W.Frag} {mg : Str → Option Value} {base : Heap} {dr : Option Addr} {δ : List Sd} {ta : TA} {te : TE}
/-! _law_draws -/
def drawsZ : List PyData → Prop := fun ds => ∃ ms : List Int, ds = ms.map PyData.int ∧ (∀ n ∈ ms, 0 ≤ n) ∧ ms.length ≤ 400
def q__law_draws (K : PySem.W.Frag) : List Vd → Vd → Prop := fun a z => ∃ (ns : List Int), a = [.g (scV K ns), .d (.int 0), .d (.int 400)] ∧ z = .g (anyL drawsZ)
abbrev sp__law_draws (K : PySem.W.Frag) : Sp := spP (q__law_draws K)
theorem e__law_draws {ns : List Int} (h : EvA dr ta δ [.g (scV K ns), .d (.int 0), .d (.int 400)]) : Ev dr (tCall (sp__law_draws K) [] C8.E0 ta) δ (.g (anyL drawsZ)) := ev_call h ⟨_, rfl, rfl⟩
abbrev s__law_draws : Stmt := Hd.top 66
abbrev N__law_draws : List Str := ["_law_script", "_law_at", "_law_many", "_law_found", "_law_left", "_law_k", "_law_draw"]
theorem nd__law_draws : N__law_draws.Nodup := by decide +kernel
theorem sc__law_draws : C8.scC N__law_draws ["_law_script", "_law_at", "_law_many"] (C8.fnScope s__law_draws) = true := by decide +kernel
def t__law_draws (K : PySem.W.Frag) : TS :=
  (tSeq (tAsg (tLst tNil) (gName 3))
  (tSeq (tAsg (tCB rMax2 (tCons (tC (.int 0)) (tCons (tCall (sp__law_cell K) [] C8.E0 (tCons (tVar 0) (tCons (tVar 1) tNil))) tNil))) (gName 4))
  (tSeq (tIfS (tTest (tOp oGe (tVar 4) (tOp oPow (tC (.int 10)) (tC (.int 18))))) (tSeq (tFor (iRng1 (tCons (tVar 2) tNil)) (gName 5) (tSeq (tDrop (tBM K "list" rAppend (tVar 3) (tCons (tOp oMod (tVar 4) (tC (.int 10000))) tNil)))
  (tSeq (tAsg (tOp oDiv (tVar 4) (tC (.int 10000))) (gName 4))
  tNext)))
  (tSeq (tRet (tVar 3))
  tNext)) tNext)
  (tSeq (tAsg (tOp oMod (tOp oMul (tOp oMod (tVar 4) (tC (.int 2147483647))) (tC (.int 48271))) (tC (.int 2147483647))) (gName 6))
  (tSeq (tFor (iRng1 (tCons (tVar 2) tNil)) (gName 5) (tSeq (tAsg (tOp oMod (tOp oAdd (tOp oAdd (tOp oAdd (tOp oMul (tVar 6) (tC (.int 48271))) (tCall (sp__law_cell K) [] C8.E0 (tCons (tVar 0) (tCons (tOp oAdd (tOp oAdd (tVar 1) (tC (.int 1))) (tOp oMod (tVar 5) (tC (.int 30)))) tNil)))) (tOp oMul (tVar 5) (tVar 5))) (tC (.int 7))) (tC (.int 2147483629))) (gName 6))
  (tSeq (tDrop (tBM K "list" rAppend (tVar 3) (tCons (tOp oDiv (tOp oMod (tOp oAdd (tOp oMul (tVar 6) (tC (.int 39373))) (tOp oMul (tC (.int 11)) (tVar 5))) (tC (.int 2147483647))) (tC (.int 16))) tNil)))
  tNext)))
  (tSeq (tRet (tVar 3))
  tNext))))))
theorem d__law_draws {P : Program} {w : World} {K : PySem.W.Frag} {mg : Str → Option Value} {base : Heap} (T : Top K mg) (f : Addr) (cdv : Value) (A : Around) (outer : List Env) (s : Shared) (H : Hp) (E : XK)
    (hr : Room 1 (A.deeper (PyProof.Rows.envOfC "_law_draws" (C8.fnScope s__law_draws) s.heap.objs.size f cdv))) :
    PSs (cxOf C8.CX0 P w K mg base N__law_draws "_law_draws" (C8.fnScope s__law_draws) f cdv A outer s H E).nox (C8.fnBody s__law_draws) (t__law_draws K) :=
  (pss_cons (ps_set (i := 3) nd__law_draws rfl (by first | exact Or.inl rfl | exact Or.inr rfl) (pe_lst pa_nil))
  (pss_cons (ps_set (i := 4) nd__law_draws rfl (by first | exact Or.inl rfl | exact Or.inr rfl) (pe_callB (cr_max2 rfl) (by rfl) T.n_max bt_max (pa_cons pe_int (pa_cons (C8.pe_c (c__law_cell T) hr (by decide) rfl (pa_cons (pv 0) (pa_cons (pv 1) pa_nil))) pa_nil))))
  (pss_cons (ps_if (pt_cmpR op_ge (pv 4) (pe_op op_pow pe_int pe_int) (nomark _)) (pss_cons (ps_for PassesOwn.never rfl (pi_range1 rfl T.n_range (pa_cons (pv 2) pa_nil)) (pg_name (i := 5) nd__law_draws rfl (by first | exact Or.inl rfl | exact Or.inr rfl)) (pss_cons (ps_expr (pe_bm PySem.F.plainAttrs_list PySem.F.slot_list_append PySem.F.type_list_append mt_append (pv 3) (pa_cons (pe_op op_mod (pv 4) pe_int) pa_nil)))
  (pss_cons (ps_set (i := 4) nd__law_draws rfl (by first | exact Or.inl rfl | exact Or.inr rfl) (pe_op op_fdiv (pv 4) pe_int))
  pss_nil)))
  (pss_cons (ps_ret (pv 3))
  pss_nil)) pss_nil)
  (pss_cons (ps_set (i := 6) nd__law_draws rfl (by first | exact Or.inl rfl | exact Or.inr rfl) (pe_op op_mod (pe_op op_mul (pe_op op_mod (pv 4) pe_int) pe_int) pe_int))
  (pss_cons (ps_for PassesOwn.never rfl (pi_range1 rfl T.n_range (pa_cons (pv 2) pa_nil)) (pg_name (i := 5) nd__law_draws rfl (by first | exact Or.inl rfl | exact Or.inr rfl)) (pss_cons (ps_set (i := 6) nd__law_draws rfl (by first | exact Or.inl rfl | exact Or.inr rfl) (pe_op op_mod (pe_op op_add (pe_op op_add (pe_op op_add (pe_op op_mul (pv 6) pe_int) (C8.pe_c (c__law_cell T) hr (by decide) rfl (pa_cons (pv 0) (pa_cons (pe_op op_add (pe_op op_add (pv 1) pe_int) (pe_op op_mod (pv 5) pe_int)) pa_nil)))) (pe_op op_mul (pv 5) (pv 5))) pe_int) pe_int))
  (pss_cons (ps_expr (pe_bm PySem.F.plainAttrs_list PySem.F.slot_list_append PySem.F.type_list_append mt_append (pv 3) (pa_cons (pe_op op_fdiv (pe_op op_mod (pe_op op_add (pe_op op_mul (pv 6) pe_int) (pe_op op_mul pe_int (pv 5))) pe_int) pe_int) pa_nil)))
  pss_nil)))
  (pss_cons (ps_ret (pv 3))
  pss_nil))))))
theorem rc_maxA {φ : Int → Prop} {i : Int} : RC dr rMax2 [.d (.int i), anyI φ] (anyI fun n => i ≤ n) := fun vs H h jd Q q => by
  obtain ⟨v, w, rfl, g1, g2⟩ := oks2 h
  cases int_of g1
  obtain ⟨_, ⟨j, _, rfl⟩, g2⟩ := g2
  cases int_of (dr := dr) g2
  refine ⟨i, j, rfl, q _ H (Ext.refl jd) ⟨_, ⟨_, ?_, rfl⟩, .int _⟩⟩
  split <;> omega
theorem rr_iA {C : Int → Int → Prop} {g : Int → Int → Int} {φ : Int → Prop} {j : Int} (hc : ∀ i, C i j) : RR dr (rI C fun i j => .int (g i j)) (anyI φ) (.d (.int j)) (anyI fun _ => True) :=
  rr_anyL fun e ⟨n, _, he⟩ => ⟨.int (g n j), ⟨_, trivial, rfl⟩, by subst he; exact rr_I (hc n) fun _ => .int _⟩
theorem rr_i0A {g : Int → Int → Int} {φ : Int → Prop} {j : Int} : RR dr (rI0 fun i j => .int (g i j)) (anyI φ) (.d (.int j)) (anyI fun _ => True) :=
  rr_anyL fun e ⟨n, _, he⟩ => ⟨.int (g n j), ⟨_, trivial, rfl⟩, by subst he; exact rr_I0 fun _ => .int _⟩
theorem rr_i0B {g : Int → Int → Int} {φ : Int → Prop} {j : Int} : RR dr (rI0 fun i j => .int (g i j)) (.d (.int j)) (anyI φ) (anyI fun _ => True) :=
  rr_anyR fun e ⟨n, _, he⟩ => ⟨.int (g j n), ⟨_, trivial, rfl⟩, by subst he; exact rr_I0 fun _ => .int _⟩
theorem c__law_draws (T : Top K mg) : C8.Cal P w K mg base 2 "_law_draws" (sp__law_draws K) [] := by
  refine cal_of T.f__law_draws sc__law_draws (t__law_draws K) (fun zs z h => ?_) (fun f cdv A outer s H E hr => d__law_draws T f cdv A outer s H E hr) (fun dr B E zs z hp hB hR hN => ?_)
  · obtain ⟨_, rfl, _⟩ := h; rfl
  obtain ⟨ns, rfl, rfl⟩ := hp
  refine w_asgN hB (en_lst ead_nil (by nested_key)) fun p np mp fr => ?_
  refine w_asgA hB (ev_cb (ea_cons ev_int (ea_cons (e__law_cell (ea_cons (ev_varV rfl) (ea_cons (ev_var rfl) ea_nil)) (by decide) (by decide)) ea_nil)) rc_maxA) fun e he => ?_
  obtain ⟨left, hleft, rfl⟩ := he
  refine w_if hB (et_test (ev_op (ev_var rfl) (ev_op ev_int ev_int (rr_I (⟨by decide, by decide, by decide⟩ : CPow 10 18) fun _ => .int _)) (rr_I0 fun _ => .bl _))) (fun hb => ?_) (fun hb => ?_)
  · refine w_forR1 (fun i δ' => ∃ (ms : List Int) (l : Int) (c : Sd), δ' = [.v (.g (scV K ns)), .d (.int 0), .d (.int 400), .l p (ms.map PyData.int), .d (.int l), c, .x] ∧ 0 ≤ l ∧ (∀ n ∈ ms, 0 ≤ n) ∧ ms.length = i) hB (ea_cons (ev_var rfl) ea_nil) (by decide) (by decide) ⟨[], left, .x, rfl, hleft, by simp, rfl⟩ (fun i δ' hi hI => ?_) (fun δ' hI => ?_)
    · obtain ⟨ms, l, c, rfl, hl0, hm, hlen⟩ := hI
      refine w_app hB rfl mp (ev_op (ev_var rfl) ev_int (rr_I (by decide) fun _ => .int _)) (by rw [List.length_map]; omega) ⟨rfl, trivial, trivial, trivial, trivial, trivial, trivial, trivial⟩ ?_
      refine w_asg hB (ev_op (ev_var rfl) ev_int (rr_I (⟨by decide, by decide⟩ : CDiv _ _) fun _ => .int _)) ?_
      refine w_end ⟨ms ++ [l % 10000], l / 10000, .d (.int i), ?_, by omega, fun n hn => ?_, by simp [hlen]⟩
      · simp [Vd.sd]
      · rcases List.mem_append.mp hn with h | h
        · exact hm n h
        · rw [List.mem_singleton.mp h]; omega
    · obtain ⟨ms, l, c, rfl, hl0, hm, hlen⟩ := hI
      refine w_ret hB (z := .g (anyL drawsZ)) (fun σ H s j Q q => (ev_varL (i := 3) rfl) σ H s j Q fun v H2 e2 h2 => q v H2 e2 ⟨_, ⟨ms, rfl, hm, by rw [hlen]; decide⟩, h2⟩) hR
  refine w_nx ?_
  refine w_asg hB (ev_op (ev_op (ev_op (ev_var rfl) ev_int (rr_I (by decide) fun _ => .int _)) ev_int (rr_I (.inr (by decide)) fun _ => .int _)) ev_int (rr_I (by decide) fun _ => .int _)) ?_
  refine w_forR1 (fun i δ' => ∃ (ms : List Int) (d : Int) (c4 c : Sd), δ' = [.v (.g (scV K ns)), .d (.int 0), .d (.int 400), .l p (ms.map PyData.int), c4, c, .d (.int d)] ∧ (∀ n ∈ ms, 0 ≤ n) ∧ ms.length = i ∧ okm p c4) hB (ea_cons (ev_var rfl) ea_nil) (by decide) (by decide) ⟨[], _, .d (.int left), .x, rfl, by simp, rfl, trivial⟩ (fun i δ' hi hI => ?_) (fun δ' hI => ?_)
  · obtain ⟨ms, d, c4, c, rfl, hm, hlen, hc4⟩ := hI
    refine w_asgA hB (ev_op (ev_op (ev_op (ev_op (ev_op (ev_var rfl) ev_int (rr_I (.inr (by decide)) fun _ => .int _)) (e__law_cell (ea_cons (ev_varV rfl) (ea_cons (ev_op (ev_op (ev_var rfl) ev_int (rr_I0 fun _ => .int _)) (ev_op (ev_var rfl) ev_int (rr_I (by decide) fun _ => .int _)) (rr_I0 fun _ => .int _)) ea_nil)) (by omega) (by omega)) rr_i0B) (ev_op (ev_var rfl) (ev_var rfl) (rr_I (.inl (by omega)) fun _ => .int _)) rr_i0A) ev_int rr_i0A) ev_int (rr_modA (by decide))) fun e he => ?_
    obtain ⟨d', _, rfl⟩ := he
    refine w_app hB rfl mp (ev_op (ev_op (ev_op (ev_op (ev_var rfl) ev_int (rr_I (.inr (by decide)) fun _ => .int _)) (ev_op ev_int (ev_var rfl) (rr_I (.inl (by decide)) fun _ => .int _)) (rr_I0 fun _ => .int _)) ev_int (rr_I (by decide) fun _ => .int _)) ev_int (rr_I (⟨by decide, by decide⟩ : CDiv _ _) fun _ => .int _)) (by rw [List.length_map]; omega) ⟨rfl, trivial, trivial, trivial, hc4, trivial, trivial, trivial⟩ ?_
    refine w_end ⟨ms ++ [(d' * 39373 + 11 * (i : Int)) % 2147483647 / 16], d', c4, .d (.int i), ?_, fun n hn => ?_, by simp [hlen], hc4⟩
    · simp
    · rcases List.mem_append.mp hn with h | h
      · exact hm n h
      · rw [List.mem_singleton.mp h]; omega
  · obtain ⟨ms, d, c4, c, rfl, hm, hlen, hc4⟩ := hI
    refine w_ret hB (z := .g (anyL drawsZ)) (fun σ H s j Q q => (ev_varL (i := 3) rfl) σ H s j Q fun v H2 e2 h2 => q v H2 e2 ⟨_, ⟨ms, rfl, hm, by rw [hlen]; decide⟩, h2⟩) hR

/-! _law_next -/
abbrev natI : Vd := anyI fun n => 0 ≤ n
def q__law_next : List Vd → Vd → Prop := fun a z => a = [.g drV] ∧ z = natI
abbrev sp__law_next : Sp := spP q__law_next
theorem e__law_next {ta : TA} (h : EvA dr ta δ [.g drV]) : Ev dr (tCall sp__law_next [] C8.E0 ta) δ natI := ev_call h ⟨rfl, rfl⟩
abbrev s__law_next : Stmt := Hd.top 67
abbrev N__law_next : List Str := ["_law_draws_here"]
theorem nd__law_next : N__law_next.Nodup := by decide +kernel
theorem sc__law_next : C8.scC N__law_next ["_law_draws_here"] (C8.fnScope s__law_next) = true := by decide +kernel
def t__law_next (K : PySem.W.Frag) : TS :=
  (tSeq (tIfS (tTest (tOp oGt (tCB (rLen K) (tCons (tVar 0) tNil)) (tC (.int 0)))) (tSeq (tRet (tBM0 K "list" rPop (tVar 0)))
  tNext) tNext)
  (tSeq (tRet (tC (.int 0)))
  tNext))
theorem d__law_next {P : Program} {w : World} {K : PySem.W.Frag} {mg : Str → Option Value} {base : Heap} (T : Top K mg) (f : Addr) (cdv : Value) (A : Around) (outer : List Env) (s : Shared) (H : Hp) (E : XK)
    (hr : Room 0 (A.deeper (PyProof.Rows.envOfC "_law_next" (C8.fnScope s__law_next) s.heap.objs.size f cdv))) :
    PSs (cxOf C8.CX0 P w K mg base N__law_next "_law_next" (C8.fnScope s__law_next) f cdv A outer s H E).nox (C8.fnBody s__law_next) (t__law_next K) :=
  (pss_cons (ps_if (pt_cmpR op_gt (pe_callB cr_len (by rfl) T.n_len bt_len (pa_cons (pv 0) pa_nil)) pe_int (nomark _)) (pss_cons (ps_ret (pe_bm0 PySem.F.plainAttrs_list PySem.F.slot_list_pop PySem.F.type_list_pop mt_pop (pv 0)))
  pss_nil) pss_nil)
  (pss_cons (ps_ret pe_int)
  pss_nil))
theorem c__law_next (T : Top K mg) : C8.Cal P w K mg base 1 "_law_next" sp__law_next [] := by
  refine cal_of T.f__law_next sc__law_next (t__law_next K) (fun zs z h => ?_) (fun f cdv A outer s H E hr => d__law_next T f cdv A outer s H E hr) (fun dr B E zs z hp hB hR hN => ?_)
  · obtain ⟨rfl, _⟩ := h; rfl
  obtain ⟨rfl, rfl⟩ := hp
  intro σ H s j b
  obtain ⟨o, e1, v, e2, d, hd, rfl⟩ := s 0 _ rfl
  subst e2
  obtain ⟨ns, hH, h0, hl⟩ := j d hd
  refine ⟨_, e1, d, _, rfl, .inl (SqL.of hH), _, _, rfl, rfl, _, rfl, ?_⟩
  rw [List.length_map]
  dsimp only
  by_cases hn : ns = []
  · subst hn
    rw [if_neg (by decide)]
    exact hR _ H b j ⟨.int 0, ⟨0, by decide, rfl⟩, .int 0⟩
  · have hpos : 0 < ns.length := List.length_pos_iff.mpr hn
    rw [if_pos (decide_eq_true (by omega))]
    have hg : ns[ns.length - 1]? = some (ns.getLast hn) := by rw [List.getLast_eq_getElem, List.getElem?_eq_getElem]
    refine ⟨_, e1, Or.inl ⟨rfl, _, SqL.of hH⟩, d, _, .int (ns.getLast hn), rfl, rfl, hH, by rw [List.length_map, List.getElem?_map, hg]; rfl, ?_⟩
    have e : Ext dr H (upd H d (.lst (ns.map V.int).dropLast)) := by
      refine ⟨fun a o na ho => ?_, fun d' hd' => ?_⟩
      · rw [upd_ne (fun z => na (by rw [z]; exact hd))]; exact ho
      · rw [hd] at hd'
        cases hd'
        refine ⟨ns.dropLast, by rw [upd_same, List.map_dropLast], fun n hn => h0 n ((List.dropLast_sublist ns).subset hn), by rw [List.length_dropLast]; omega⟩
    exact hR _ _ (hB.ext b j e) e.jd ⟨_, ⟨_, h0 _ (List.getLast_mem hn), rfl⟩, .int _⟩

/-! _law_long -/
def riseZ (m : Int) : PyData → Prop := fun e => ∃ ns, e = dI ns ∧ riseB (m - 1) 0 ns = true
theorem rise_of {m : Int} : ∀ {l : Int} {ns : List Int}, (∀ x ∈ ns, l ≤ x ∧ x ≤ m) → ns.Pairwise (· < ·) → riseB m l ns = true
  | l, [], _, _ => rfl
  | l, x :: ns, h, hp => by
    have hx := h x List.mem_cons_self
    rw [List.pairwise_cons] at hp
    have ih := rise_of (m := m) (l := x + 1) (ns := ns) (fun y hy => ⟨by have := hp.1 y hy; omega, (h y (List.mem_cons_of_mem _ hy)).2⟩) hp.2
    simp only [riseB, wholeB, ih, Bool.and_true]
    simp [hx.1, hx.2]
theorem rise_to {m : Int} : ∀ {l : Int} {ns : List Int}, riseB m l ns = true → (∀ x ∈ ns, l ≤ x ∧ x ≤ m) ∧ ns.Pairwise (· < ·)
  | l, [], _ => ⟨(fun _ h => nomatch h), .nil⟩
  | l, x :: ns, h => by
    simp only [riseB, wholeB, Bool.and_eq_true, decide_eq_true_eq] at h
    obtain ⟨h1, h2⟩ := rise_to (m := m) (l := x + 1) (ns := ns) h.2
    refine ⟨fun y hy => ?_, List.pairwise_cons.mpr ⟨fun y hy => by have := (h1 y hy).1; omega, h2⟩⟩
    rcases List.mem_cons.mp hy with rfl | hy
    · exact h.1
    · have := h1 y hy; omega
theorem upto_pw (lo : Int) (n : Nat) : (upto lo n).Pairwise (· < ·) := by
  unfold upto
  rw [List.pairwise_map]
  exact List.pairwise_lt_range.imp fun h => by omega
def q__law_long : List Vd → Vd → Prop := fun a z => ∃ m : Int, a = [.g drV, .d (.int m)] ∧ 0 ≤ m ∧ m ≤ 8 ∧ z = .g (anyV (riseZ m))
abbrev sp__law_long : Sp := spP q__law_long
theorem e__law_long {ta : TA} {m : Int} (h : EvA dr ta δ [.g drV, .d (.int m)]) (h0 : 0 ≤ m) (h1 : m ≤ 8) : Ev dr (tCall sp__law_long [] C8.E0 ta) δ (.g (anyV (riseZ m))) := ev_call h ⟨_, rfl, h0, h1, rfl⟩
abbrev s__law_long : Stmt := Hd.top 69
abbrev N__law_long : List Str := ["_law_draws_here", "_law_many", "_law_draw", "_law_i"]
theorem nd__law_long : N__law_long.Nodup := by decide +kernel
theorem sc__law_long : C8.scC N__law_long ["_law_draws_here", "_law_many"] (C8.fnScope s__law_long) = true := by decide +kernel
def t__law_long (K : PySem.W.Frag) : TS :=
  (tSeq (tAsg (tCall sp__law_next [] C8.E0 (tCons (tVar 0) tNil)) (gName 2))
  (tSeq (tIfS (tTest (tOp oGt (tOp oMod (tVar 2) (tC (.int 3))) (tC (.int 0)))) (tSeq (tRet (tTup tNil))
  tNext) tNext)
  (tSeq (tRet (tCB (rTupOf K) (tCons (tLc (iRng1 (tCons (tVar 1) tNil)) (gName 3) (tTest (tOp rEq (tOp oMod (tOp oDiv (tOp oDiv (tVar 2) (tC (.int 4))) (tOp oShl (tC (.int 1)) (tVar 3))) (tC (.int 3))) (tC (.int 0)))) (tVar 3) [3]) tNil)))
  tNext)))
theorem d__law_long {P : Program} {w : World} {K : PySem.W.Frag} {mg : Str → Option Value} {base : Heap} (T : Top K mg) (f : Addr) (cdv : Value) (A : Around) (outer : List Env) (s : Shared) (H : Hp) (E : XK)
    (hr : Room 1 (A.deeper (PyProof.Rows.envOfC "_law_long" (C8.fnScope s__law_long) s.heap.objs.size f cdv))) :
    PSs (cxOf C8.CX0 P w K mg base N__law_long "_law_long" (C8.fnScope s__law_long) f cdv A outer s H E).nox (C8.fnBody s__law_long) (t__law_long K) :=
  (pss_cons (ps_set (i := 2) nd__law_long rfl (by first | exact Or.inl rfl | exact Or.inr rfl) (C8.pe_c (c__law_next T) hr (by decide) rfl (pa_cons (pv 0) pa_nil)))
  (pss_cons (ps_if (pt_cmpR op_gt (pe_op op_mod (pv 2) pe_int) pe_int (nomark _)) (pss_cons (ps_ret (pe_tup pa_nil))
  pss_nil) pss_nil)
  (pss_cons (ps_ret (pe_callTy cr_tuple (by rfl) T.n_tuple bt_tuple (pa_cons (pe_lc (own := [("_law_i", 3)]) (g := gName 3) rfl nd__law_long (pi_range1 rfl T.n_range (pa_cons (pv 1) pa_nil)) (blkOk_by (N := N__law_long) (sc := C8.fnScope s__law_long) (by decide +kernel)) (fun _ _ _ _ _ => pg_name (i := 3) nd__law_long rfl (by first | exact Or.inl rfl | exact Or.inr rfl)) (fun _ _ _ _ _ => pts_one (pt_cmpR op_eq (pe_op op_mod (pe_op op_fdiv (pe_op op_fdiv (pv 2) pe_int) (pe_op op_shl pe_int (pv 3))) pe_int) pe_int (nomark _))) (fun _ _ _ _ _ => (pv 3))) pa_nil)))
  pss_nil)))
theorem shl_pos {i : Int} (h0 : 0 ≤ i) (h1 : i < 20) : (0 : Int) < 1 * 2 ^ i.toNat ∧ (1 : Int) * 2 ^ i.toNat < 1073741824 := by
  have : ∀ k : Nat, k < 20 → (0 : Int) < 1 * 2 ^ k ∧ (1 : Int) * 2 ^ k < 1073741824 := by decide
  exact this i.toNat (by omega)
theorem c__law_long (T : Top K mg) : C8.Cal P w K mg base 2 "_law_long" sp__law_long [] := by
  refine cal_of T.f__law_long sc__law_long (t__law_long K) (fun zs z h => ?_) (fun f cdv A outer s H E hr => d__law_long T f cdv A outer s H E hr) (fun dr B E zs z hp hB hR hN => ?_)
  · obtain ⟨_, rfl, _⟩ := h; rfl
  obtain ⟨m, rfl, h0, h1, rfl⟩ := hp
  refine w_asgA hB (e__law_next (ea_cons (ev_varV rfl) ea_nil)) fun e he => ?_
  obtain ⟨n, hn, rfl⟩ := he
  refine w_if hB (et_test (ev_op (ev_op (ev_var rfl) ev_int (rr_I (by decide) fun _ => .int _)) ev_int (rr_I0 fun _ => .bl _))) (fun hb => ?_) (fun hb => ?_)
  · exact w_ret hB ((ev_tup ead_nil (by nested_key)).any ⟨[], rfl, rfl⟩) hR
  refine w_nx ?_
  refine w_ret hB (Ev.any (ev_cb (ea_cons (en_lcR1 _ PyData.int (ea_cons (ev_var rfl) ea_nil) (by omega) (by omega) (by simp) (fun i hi1 hi2 => (et_test (ev_op (ev_op (ev_op (ev_op (ev_var rfl) ev_int (rr_I (⟨by decide, by decide⟩ : CDiv _ _) fun _ => .int _)) (ev_op ev_int (ev_var rfl) (rr_I (⟨hi1, by omega, by decide⟩ : CPow 1 i) fun _ => .int _)) (rr_I (shl_pos hi1 (by omega)) fun _ => .int _)) ev_int (rr_I (by decide) fun _ => .int _)) ev_int rr_eqI))) (fun i hi1 hi2 hf => (ev_var rfl))).ev ea_nil) rc_tupL) ?_) hR
  refine ⟨_, rfl, rise_of (fun x hx => ?_) ((upto_pw 0 m.toNat).filter _)⟩
  have := mem_upto.mp (List.mem_filter.mp hx).1
  omega

/-! _law_off -/
def q__law_off : List Vd → Vd → Prop := fun a z => ∃ left : Int, a = [.g drV, .d (.int left)] ∧ 1 ≤ left ∧ z = .g (anyV fun e => ∃ ns, e = dI ns ∧ offP ns ∧ (ns.length : Int) ≤ left)
abbrev sp__law_off : Sp := spP q__law_off
theorem e__law_off {ta : TA} {left : Int} (h : EvA dr ta δ [.g drV, .d (.int left)]) (h1 : 1 ≤ left) : Ev dr (tCall sp__law_off [] C8.E0 ta) δ (.g (anyV fun e => ∃ ns, e = dI ns ∧ offP ns ∧ (ns.length : Int) ≤ left)) := ev_call h ⟨_, rfl, h1, rfl⟩
abbrev s__law_off : Stmt := Hd.top 71
abbrev N__law_off : List Str := ["_law_draws_here", "_law_left", "_law_draw", "_law_size", "_law_k"]
theorem nd__law_off : N__law_off.Nodup := by decide +kernel
theorem sc__law_off : C8.scC N__law_off ["_law_draws_here", "_law_left"] (C8.fnScope s__law_off) = true := by decide +kernel
def t__law_off (K : PySem.W.Frag) : TS :=
  (tSeq (tAsg (tCall sp__law_next [] C8.E0 (tCons (tVar 0) tNil)) (gName 2))
  (tSeq (tAsg (tOp oAdd (tC (.int 1)) (tOp oMod (tOp oDiv (tVar 2) (tC (.int 3))) (tC (.int 7)))) (gName 3))
  (tSeq (tIfS (tOr (tTest (tOp oGt (tOp oMod (tVar 2) (tC (.int 3))) (tC (.int 0)))) (tTest (tOp oGt (tVar 3) (tVar 1)))) (tSeq (tRet (tTup (tCons (tC (.int 0)) tNil)))
  tNext) tNext)
  (tSeq (tRet (tCB (rTupOf K) (tCons (tLc (iRng1 (tCons (tVar 3) tNil)) (gName 4) tYes (tCB rInt1 (tCons (tOp rEq (tOp oMod (tOp oDiv (tOp oDiv (tVar 2) (tC (.int 32))) (tOp oShl (tC (.int 1)) (tVar 4))) (tC (.int 4))) (tC (.int 0))) tNil)) [4]) tNil)))
  tNext))))
theorem d__law_off {P : Program} {w : World} {K : PySem.W.Frag} {mg : Str → Option Value} {base : Heap} (T : Top K mg) (f : Addr) (cdv : Value) (A : Around) (outer : List Env) (s : Shared) (H : Hp) (E : XK)
    (hr : Room 1 (A.deeper (PyProof.Rows.envOfC "_law_off" (C8.fnScope s__law_off) s.heap.objs.size f cdv))) :
    PSs (cxOf C8.CX0 P w K mg base N__law_off "_law_off" (C8.fnScope s__law_off) f cdv A outer s H E).nox (C8.fnBody s__law_off) (t__law_off K) :=
  (pss_cons (ps_set (i := 2) nd__law_off rfl (by first | exact Or.inl rfl | exact Or.inr rfl) (C8.pe_c (c__law_next T) hr (by decide) rfl (pa_cons (pv 0) pa_nil)))
  (pss_cons (ps_set (i := 3) nd__law_off rfl (by first | exact Or.inl rfl | exact Or.inr rfl) (pe_op op_add pe_int (pe_op op_mod (pe_op op_fdiv (pv 2) pe_int) pe_int)))
  (pss_cons (ps_if (PW.pt (pw_or (pt_cmpR op_gt (pe_op op_mod (pv 2) pe_int) pe_int (nomark _)) (pw_or1 (pt_cmpR op_gt (pv 3) (pv 1) (nomark _))))) (pss_cons (ps_ret (pe_tup (pa_cons pe_int pa_nil)))
  pss_nil) pss_nil)
  (pss_cons (ps_ret (pe_callTy cr_tuple (by rfl) T.n_tuple bt_tuple (pa_cons (pe_lc (own := [("_law_k", 4)]) (g := gName 4) rfl nd__law_off (pi_range1 rfl T.n_range (pa_cons (pv 3) pa_nil)) (blkOk_by (N := N__law_off) (sc := C8.fnScope s__law_off) (by decide +kernel)) (fun _ _ _ _ _ => pg_name (i := 4) nd__law_off rfl (by first | exact Or.inl rfl | exact Or.inr rfl)) (fun _ _ _ _ _ => pts_nil) (fun _ _ _ _ _ => (pe_callTy cr_int (by rfl) T.n_int bt_int (pa_cons (pe_cmpR op_eq (pe_op op_mod (pe_op op_fdiv (pe_op op_fdiv (pv 2) pe_int) (pe_op op_shl pe_int (pv 4))) pe_int) pe_int (nomark _)) pa_nil)))) pa_nil)))
  pss_nil))))
theorem c__law_off (T : Top K mg) : C8.Cal P w K mg base 2 "_law_off" sp__law_off [] := by
  refine cal_of T.f__law_off sc__law_off (t__law_off K) (fun zs z h => ?_) (fun f cdv A outer s H E hr => d__law_off T f cdv A outer s H E hr) (fun dr B E zs z hp hB hR hN => ?_)
  · obtain ⟨_, rfl, _⟩ := h; rfl
  obtain ⟨left, rfl, h1, rfl⟩ := hp
  refine w_asgA hB (e__law_next (ea_cons (ev_varV rfl) ea_nil)) fun e he => ?_
  obtain ⟨n, hn, rfl⟩ := he
  refine w_asg hB (ev_op ev_int (ev_op (ev_op (ev_var rfl) ev_int (rr_I (⟨by decide, by decide⟩ : CDiv _ _) fun _ => .int _)) ev_int (rr_I (by decide) fun _ => .int _)) (rr_I0 fun _ => .int _)) ?_
  have hm0 : 0 ≤ n / 3 % 7 := Int.emod_nonneg _ (by decide)
  have hm1 : n / 3 % 7 < 7 := Int.emod_lt_of_pos _ (by decide)
  refine w_if hB (et_or (et_test (ev_op (ev_op (ev_var rfl) ev_int (rr_I (by decide) fun _ => .int _)) ev_int (rr_I0 fun _ => .bl _))) fun _ => (et_test (ev_op (ev_var rfl) (ev_var rfl) (rr_I0 fun _ => .bl _)))) (fun hb => ?_) (fun hb => ?_)
  · exact w_ret hB ((ev_tup (ds := [.int 0]) (ead_cons ev_int ead_nil) (by nested_key)).any ⟨[0], rfl, ⟨by decide, by decide, by simp⟩, by simpa using h1⟩) hR
  have hle : 1 + n / 3 % 7 ≤ left := by
    rw [Bool.or_eq_false_iff] at hb
    have := hb.2
    simpa using this
  refine w_nx ?_
  refine w_ret hB (Ev.any (ev_cb (ea_cons (en_lcR1 (fun _ => true) (fun i => .int (if decide (n / 32 / (1 * 2 ^ i.toNat) % 4 = 0) = true then 1 else 0)) (ea_cons (ev_var rfl) ea_nil) (by omega) (by omega) (by simp) (fun i hi1 hi2 => et_yes) (fun i hi1 hi2 hf => (ev_cb (ea_cons (ev_op (ev_op (ev_op (ev_op (ev_var rfl) ev_int (rr_I (⟨by decide, by decide⟩ : CDiv _ _) fun _ => .int _)) (ev_op ev_int (ev_var rfl) (rr_I (⟨hi1, by omega, by decide⟩ : CPow 1 i) fun _ => .int _)) (rr_I (shl_pos hi1 (by omega)) fun _ => .int _)) ev_int (rr_I (by decide) fun _ => .int _)) ev_int rr_eqI) ea_nil) rc_intB))).ev ea_nil) rc_tupL) ?_) hR
  refine ⟨(upto 0 (1 + n / 3 % 7).toNat).map (fun i => if decide (n / 32 / (1 * 2 ^ i.toNat) % 4 = 0) = true then 1 else 0), by rw [filt_true, dI, List.map_map]; rfl, ⟨?_, ?_, ?_⟩, ?_⟩
  · rw [List.length_map, upto_len]; omega
  · rw [List.length_map, upto_len]; omega
  · intro x hx
    obtain ⟨i, _, rfl⟩ := List.mem_map.mp hx
    split <;> simp
  · rw [List.length_map, upto_len]; omega

/-! _law_tied -/
theorem geP_false {p q : Int × Int} (h : p.1 < q.1 ∨ (p.1 = q.1 ∧ p.2 < q.2)) : geP p q = false := by
  unfold geP
  rcases h with h | ⟨h, h'⟩
  · rw [if_neg (by omega)]; exact decide_eq_false (by omega)
  · rw [if_pos h, if_neg (by omega)]; exact decide_eq_false (by omega)
def ltP (p q : Int × Int) : Prop := p.2 < q.2 ∨ (p.2 = q.2 ∧ p.1 < q.1)
def q__law_tied : List Vd → Vd → Prop := fun a z => ∃ m : Int, a = [.g drV, .d (.int m)] ∧ 0 ≤ m ∧ m ≤ 8 ∧ z = .g (anyV fun e => ∃ ps : List (Int × Int), e = .tuple (ps.map pr) ∧ pairsP ps m ∧ ps.length ≤ 28)
abbrev sp__law_tied : Sp := spP q__law_tied
theorem e__law_tied {ta : TA} {m : Int} (h : EvA dr ta δ [.g drV, .d (.int m)]) (h0 : 0 ≤ m) (h1 : m ≤ 8) : Ev dr (tCall sp__law_tied [] C8.E0 ta) δ (.g (anyV fun e => ∃ ps : List (Int × Int), e = .tuple (ps.map pr) ∧ pairsP ps m ∧ ps.length ≤ 28)) := ev_call h ⟨_, rfl, h0, h1, rfl⟩
abbrev s__law_tied : Stmt := Hd.top 70
abbrev N__law_tied : List Str := ["_law_draws_here", "_law_many", "_law_draw", "_law_found", "_law_j", "_law_i"]
theorem nd__law_tied : N__law_tied.Nodup := by decide +kernel
theorem sc__law_tied : C8.scC N__law_tied ["_law_draws_here", "_law_many"] (C8.fnScope s__law_tied) = true := by decide +kernel
def t__law_tied (K : PySem.W.Frag) : TS :=
  (tSeq (tAsg (tCall sp__law_next [] C8.E0 (tCons (tVar 0) tNil)) (gName 2))
  (tSeq (tAsg (tLst tNil) (gName 3))
  (tSeq (tFor (iRng1 (tCons (tVar 1) tNil)) (gName 4) (tSeq (tFor (iRng1 (tCons (tVar 4) tNil)) (gName 5) (tSeq (tIfS (tAnd (tTest (tOp rEq (tOp oMod (tVar 2) (tC (.int 3))) (tC (.int 0)))) (tTest (tOp rEq (tOp oMod (tOp oDiv (tOp oDiv (tVar 2) (tC (.int 3))) (tOp oAdd (tOp oAdd (tC (.int 1)) (tVar 5)) (tOp oMul (tC (.int 8)) (tVar 4)))) (tC (.int 4))) (tC (.int 0))))) (tSeq (tDrop (tBM K "list" rAppend (tVar 3) (tCons (tTup (tCons (tVar 5) (tCons (tVar 4) tNil))) tNil)))
  tNext) tNext)
  tNext))
  tNext))
  (tSeq (tRet (tCB (rTupOf K) (tCons (tCB (rSortT K) (tCons (tVar 3) tNil)) tNil)))
  tNext))))
theorem d__law_tied {P : Program} {w : World} {K : PySem.W.Frag} {mg : Str → Option Value} {base : Heap} (T : Top K mg) (f : Addr) (cdv : Value) (A : Around) (outer : List Env) (s : Shared) (H : Hp) (E : XK)
    (hr : Room 1 (A.deeper (PyProof.Rows.envOfC "_law_tied" (C8.fnScope s__law_tied) s.heap.objs.size f cdv))) :
    PSs (cxOf C8.CX0 P w K mg base N__law_tied "_law_tied" (C8.fnScope s__law_tied) f cdv A outer s H E).nox (C8.fnBody s__law_tied) (t__law_tied K) :=
  (pss_cons (ps_set (i := 2) nd__law_tied rfl (by first | exact Or.inl rfl | exact Or.inr rfl) (C8.pe_c (c__law_next T) hr (by decide) rfl (pa_cons (pv 0) pa_nil)))
  (pss_cons (ps_set (i := 3) nd__law_tied rfl (by first | exact Or.inl rfl | exact Or.inr rfl) (pe_lst pa_nil))
  (pss_cons (ps_for PassesOwn.never rfl (pi_range1 rfl T.n_range (pa_cons (pv 1) pa_nil)) (pg_name (i := 4) nd__law_tied rfl (by first | exact Or.inl rfl | exact Or.inr rfl)) (pss_cons (ps_for PassesOwn.never rfl (pi_range1 rfl T.n_range (pa_cons (pv 4) pa_nil)) (pg_name (i := 5) nd__law_tied rfl (by first | exact Or.inl rfl | exact Or.inr rfl)) (pss_cons (ps_if (PW.pt (pw_and (pt_cmpR op_eq (pe_op op_mod (pv 2) pe_int) pe_int (nomark _)) (pw_and1 (pt_cmpR op_eq (pe_op op_mod (pe_op op_fdiv (pe_op op_fdiv (pv 2) pe_int) (pe_op op_add (pe_op op_add pe_int (pv 5)) (pe_op op_mul pe_int (pv 4)))) pe_int) pe_int (nomark _))))) (pss_cons (ps_expr (pe_bm PySem.F.plainAttrs_list PySem.F.slot_list_append PySem.F.type_list_append mt_append (pv 3) (pa_cons (pe_tup (pa_cons (pv 5) (pa_cons (pv 4) pa_nil))) pa_nil)))
  pss_nil) pss_nil)
  pss_nil))
  pss_nil))
  (pss_cons (ps_ret (pe_callTy cr_tuple (by rfl) T.n_tuple bt_tuple (pa_cons (pe_callB (cr_sortT (Room.u64 hr)) (by rfl) T.n_sorted bt_sorted (pa_cons (pv 3) pa_nil)) pa_nil)))
  pss_nil))))
theorem alike_pr (p q : Int × Int) : PySem.W.alike (pr p) (pr q) = true := by
  simp [pr, dI, PySem.W.alike, PySem.W.alikeAll]
theorem dep_pr (p : Int × Int) : (pr p).depth ≤ 8 := by
  have := (sh_dI [p.1, p.2]).2
  exact Nat.le_trans this (by decide)
theorem sortOk_pr {ps : List (Int × Int)} (h : ps.length ≤ 900000) : SortOk (ps.map pr) :=
  ⟨PySem.W.AllAlike.of alike_pr, .inl (PySem.W.Sortable.tuples fun b => ⟨_, _, rfl⟩), fun d hd => by obtain ⟨p, _, rfl⟩ := List.mem_map.mp hd; exact dep_pr p, by rw [List.length_map]; exact h⟩
theorem sorted_pr {ps : List (Int × Int)} (hnd : ps.Nodup) : (ps.mergeSort (PySem.W.dataLe false pr)).Pairwise fun p q => p.1 < q.1 ∨ (p.1 = q.1 ∧ p.2 < q.2) := by
  have e : PySem.W.dataLe false pr = fun p q => decide (p.1 < q.1 ∨ (p.1 = q.1 ∧ p.2 ≤ q.2)) := PySem.W.dataLe_ii (β := Int × Int) (fun p => p.1) (fun p => p.2)
  have h1 : (ps.mergeSort (PySem.W.dataLe false pr)).Pairwise fun p q => PySem.W.dataLe false pr p q = true := List.pairwise_mergeSort (fun a b c h1 h2 => by rw [e] at *; simp only [decide_eq_true_eq] at *; omega) (fun a b => by rw [e]; simp only [Bool.or_eq_true, decide_eq_true_eq]; omega) ps
  have h2 : (ps.mergeSort (PySem.W.dataLe false pr)).Nodup := (List.mergeSort_perm ps _).nodup_iff.mpr hnd
  refine (h1.and (List.nodup_iff_pairwise_ne.mp h2)).imp fun {a b} ⟨h, hne⟩ => ?_
  rw [e] at h
  simp only [decide_eq_true_eq] at h
  rcases h with h | ⟨h, h'⟩
  · exact .inl h
  · refine .inr ⟨h, ?_⟩
    rcases Int.lt_or_eq_of_le h' with q | q
    · exact q
    · exact absurd (Prod.ext h q) hne
structure TiOk (ps : List (Int × Int)) (j i : Nat) : Prop where
  pw : ps.Pairwise ltP
  rng : ∀ q ∈ ps, 0 ≤ q.1 ∧ q.1 < q.2 ∧ (q.2 < j ∨ (q.2 = j ∧ q.1 < i))
  len : 2 * ps.length ≤ j * (j - 1) + 2 * i
theorem tri_le : ∀ j : Nat, j ≤ 8 → j * (j - 1) ≤ 56 := by decide
theorem tri_succ (j : Nat) : (j + 1) * (j + 1 - 1) = j * (j - 1) + 2 * j := by
  cases j with
  | zero => rfl
  | succ k => simp only [Nat.add_sub_cancel, Nat.mul_add, Nat.add_mul]; omega
theorem ltP_nodup {ps : List (Int × Int)} (h : ps.Pairwise ltP) : ps.Nodup := List.nodup_iff_pairwise_ne.mpr (h.imp fun {a b} h e => by subst e; unfold ltP at h; omega)
theorem pairsP_of {ps : List (Int × Int)} {m : Int} (hnd : ps.Nodup) (hl : ps.length ≤ 1000) (hr : ∀ q ∈ ps, 0 ≤ q.1 ∧ q.1 < q.2 ∧ q.2 < m) : pairsP (ps.mergeSort (PySem.W.dataLe false pr)) m := by
  have hs := sorted_pr hnd
  refine ⟨by rw [List.length_mergeSort]; exact hl, fun p hp => ?_, fun k p q hp hq => ?_⟩
  · have h := hr p ((List.mergeSort_perm _ _).mem_iff.mp hp)
    refine rise_of (fun x hx => ?_) (by simp; omega)
    simp only [List.mem_cons, List.not_mem_nil, or_false] at hx
    rcases hx with rfl | rfl <;> omega
  · obtain ⟨h1, e1⟩ := List.getElem?_eq_some_iff.mp hp
    obtain ⟨h2, e2⟩ := List.getElem?_eq_some_iff.mp hq
    have := List.pairwise_iff_getElem.mp hs k (k + 1) h1 h2 (by omega)
    rw [e1, e2] at this
    exact geP_false this
theorem c__law_tied (T : Top K mg) : C8.Cal P w K mg base 2 "_law_tied" sp__law_tied [] := by
  refine cal_of T.f__law_tied sc__law_tied (t__law_tied K) (fun zs z h => ?_) (fun f cdv A outer s H E hr => d__law_tied T f cdv A outer s H E hr) (fun dr B E zs z hp hB hR hN => ?_)
  · obtain ⟨_, rfl, _⟩ := h; rfl
  obtain ⟨m, rfl, h0, h1, rfl⟩ := hp
  refine w_asgA hB (e__law_next (ea_cons (ev_varV rfl) ea_nil)) fun e he => ?_
  obtain ⟨n, hn, rfl⟩ := he
  refine w_asgN hB (en_lst ead_nil (by nested_key)) fun p np mp fr => ?_
  refine w_forR1 (fun j δ' => ∃ (ps : List (Int × Int)) (c4 c5 : Sd), δ' = [.v (.g drV), .d (.int m), .d (.int n), .l p (ps.map pr), c4, c5] ∧ TiOk ps j 0 ∧ okm p c4 ∧ okm p c5) hB (ea_cons (ev_var rfl) ea_nil) (by omega) (by omega) ⟨[], .x, .x, rfl, ⟨.nil, (fun q h => nomatch h), by simp⟩, trivial, trivial⟩ (fun j δ' hj hI => ?_) (fun δ' hI => ?_)
  · obtain ⟨ps, c4, c5, rfl, hok, hc4, hc5⟩ := hI
    refine w_forR1 (fun i δ' => ∃ (ps : List (Int × Int)) (c5 : Sd), δ' = [.v (.g drV), .d (.int m), .d (.int n), .l p (ps.map pr), .d (.int j), c5] ∧ TiOk ps j i ∧ okm p c5) hB (ea_cons (ev_var rfl) ea_nil) (by omega) (by omega) ⟨ps, c5, rfl, hok, hc5⟩ (fun i δ' hi hI => ?_) (fun δ' hI => ?_)
    · obtain ⟨ps, c5, rfl, hok, hc5⟩ := hI
      refine w_if hB (et_and (et_test (ev_op (ev_op (ev_var rfl) ev_int (rr_I (by decide) fun _ => .int _)) ev_int rr_eqI)) fun _ => (et_test (ev_op (ev_op (ev_op (ev_op (ev_var rfl) ev_int (rr_I (⟨by decide, by decide⟩ : CDiv _ _) fun _ => .int _)) (ev_op (ev_op ev_int (ev_var rfl) (rr_I0 fun _ => .int _)) (ev_op ev_int (ev_var rfl) (rr_I (.inl (by decide)) fun _ => .int _)) (rr_I0 fun _ => .int _)) (rr_I (⟨by omega, by omega⟩ : CDiv _ _) fun _ => .int _)) ev_int (rr_I (by decide) fun _ => .int _)) ev_int rr_eqI))) (fun hb => ?_) (fun hb => ?_)
      · have hlen := hok.len
        have htri := tri_le j (by omega)
        refine w_app hB rfl mp (ev_tup (ds := [.int (i : Int), .int (j : Int)]) (ead_cons (ev_var rfl) (ead_cons (ev_var rfl) ead_nil)) (by nested_key)) (by rw [List.length_map]; omega) ⟨rfl, trivial, trivial, trivial, trivial, trivial, trivial⟩ ?_
        refine w_nx ?_
        refine w_end ⟨ps ++ [((i : Int), (j : Int))], .d (.int i), by simp [pr, dI], ⟨List.pairwise_append.mpr ⟨hok.pw, List.pairwise_singleton _ _, fun a ha b hb => ?_⟩, fun q hq => ?_, by simp; omega⟩, trivial⟩
        · rw [List.mem_singleton.mp hb]
          have := (hok.rng a ha).2.2
          unfold ltP
          simp only
          omega
        · rcases List.mem_append.mp hq with h | h
          · have := hok.rng q h; omega
          · rw [List.mem_singleton.mp h]; exact ⟨by simp only; omega, by simp only; omega, .inr ⟨rfl, by simp only; omega⟩⟩
      · refine w_nx ?_
        exact w_end ⟨ps, .d (.int i), rfl, ⟨hok.pw, fun q hq => by have := hok.rng q hq; omega, by have := hok.len; omega⟩, trivial⟩
    · obtain ⟨ps, c5, rfl, hok, hc5⟩ := hI
      refine w_end ⟨ps, .d (.int j), c5, rfl, ⟨hok.pw, fun q hq => by have := hok.rng q hq; omega, by have := hok.len; rw [tri_succ]; omega⟩, trivial, hc5⟩
  · obtain ⟨ps, c4, c5, rfl, hok, hc4, hc5⟩ := hI
    have hlen := hok.len
    have htri := tri_le m.toNat (by omega)
    refine w_ret hB (Ev.any (ev_cb (ea_cons (EvN.ev (en_sortT ps pr (sortOk_pr (by omega)) (ev_varL rfl))) ea_nil) rc_tupL) ?_) hR
    exact ⟨_, rfl, pairsP_of (ltP_nodup hok.pw) (by omega) fun q hq => by have := hok.rng q hq; omega, by rw [List.length_mergeSort]; omega⟩
end
end Ed
end
section
set_option maxHeartbeats 4000000
namespace Ed
open PySem L2
local macro_rules | `(tactic| nested_key) => `(tactic| first
  | rfl
  | assumption
  | omega
  | exact Nat.le_of_ble_eq_true rfl
  | decide
  | (simp only [List.length_map, small]; omega)
  | (simp [small]; done)
  | (simp only [Vd.sd, setAll, List.set, mutAll, okm, Fr] at *; simp_all; done))

section
variable {P : Program} {w : World} {K : PySem.W.Frag} {mg : Str → Option Value} {base : Heap} {dr : Option Addr} {δ : List Sd} {ta : TA} {te : TE}
theorem fr_get {p q : Addr} {ds : List PyData} : ∀ {δ : List Sd} {i : Nat}, Fr p δ → δ[i]? = some (.l q ds) → q ≠ p
  | [], _, _, e => by simp at e
  | s :: r, 0, h, e => by
    simp at e; subst e; exact h.1
  | s :: r, i + 1, h, e => by
    refine fr_get (δ := r) (i := i) ?_ (by simpa using e)
    cases s with
    | l _ _ => exact h.2
    | g _ _ => exact h.2
    | x => exact h
    | d _ => exact h
    | r _ => exact h
    | v _ => exact h
def prodI : List Int → Int
  | [] => 1
  | n :: ns => n * prodI ns
theorem prodI_app : ∀ (a b : List Int), prodI (a ++ b) = prodI a * prodI b
  | [], b => by simp [prodI]
  | n :: a, b => by simp [prodI, prodI_app a b, Int.mul_assoc]
def rowsN (t : Task) : Int := 1 + (t.long.length : Int) + (t.hands - 1) * ((t.long.length : Int) * ((t.long.length : Int) - 1) / 2)
/-- a task as the law draws it -/
structure TaskL (t : Task) : Prop where
  ok : TaskOk t
  few : t.num.length ≤ 6
  room : prodI t.num * (rowsN t * (t.off.length : Int)) ≤ 150
  tl : t.tied.length ≤ 28
def taskZ : PyData → Prop := fun e => ∃ t, TaskL t ∧ e = t.enc
def q__law_task : List Vd → Vd → Prop := fun a z => a = [.g drV, .d (.int 150)] ∧ z = .g (anyV taskZ)
abbrev sp__law_task : Sp := spP q__law_task
theorem e__law_task {ta : TA} (h : EvA dr ta δ [.g drV, .d (.int 150)]) : Ev dr (tCall sp__law_task [] C8.E0 ta) δ (.g (anyV taskZ)) := ev_call h ⟨rfl, rfl⟩
abbrev s__law_task : Stmt := Hd.top 72
abbrev N__law_task : List Str := ["_law_draws_here", "_law_most", "_law_numbers", "_law_left", "_law_k", "_law_draw", "_law_some", "_law_number", "_law_hands", "_law_off_here", "_law_long_here", "_law_rows"]
theorem nd__law_task : N__law_task.Nodup := by decide +kernel
theorem sc__law_task : C8.scC N__law_task ["_law_draws_here", "_law_most"] (C8.fnScope s__law_task) = true := by decide +kernel
def t__law_task (K : PySem.W.Frag) : TS :=
  (tSeq (tAsg (tLst tNil) (gName 2))
  (tSeq (tAsg (tVar 1) (gName 3))
  (tSeq (tFor (iRng1 (tCons (tOp oMod (tCall sp__law_next [] C8.E0 (tCons (tVar 0) tNil)) (tC (.int 7))) tNil)) (gName 4) (tSeq (tAsg (tCall sp__law_next [] C8.E0 (tCons (tVar 0) tNil)) (gName 5))
  (tSeq (tAsg (tLst (tCons (tC (.int 2)) (tCons (tC (.int 3)) (tCons (tC (.int 4)) (tCons (tC (.int 6)) (tCons (tOp oAdd (tC (.int 1)) (tOp oMod (tOp oDiv (tVar 5) (tC (.int 16))) (tC (.int 4)))) (tCons (tOp oAdd (tC (.int 2)) (tOp oMod (tOp oDiv (tVar 5) (tC (.int 16))) (tC (.int 5)))) (tCons (tOp oAdd (tC (.int 3)) (tOp oMod (tOp oDiv (tVar 5) (tC (.int 16))) (tC (.int 8)))) (tCons (tC (.int 5)) (tCons (tC (.int 8)) (tCons (tC (.int 12)) tNil))))))))))) (gName 6))
  (tSeq (tAsg (tOp (rIxL K) (tOp rCat (tVar 6) (tLst (tCons (tC (.int 7)) (tCons (tC (.int 3)) (tCons (tC (.int 4)) (tCons (tC (.int 2)) (tCons (tC (.int 5)) (tCons (tOp oAdd (tC (.int 1)) (tOp oMod (tOp oDiv (tVar 5) (tC (.int 16))) (tC (.int 40)))) tNil)))))))) (tOp oMod (tVar 5) (tC (.int 16)))) (gName 7))
  (tSeq (tIfS (tTest (tOp oLe (tVar 7) (tVar 3))) (tSeq (tDrop (tBM K "list" rAppend (tVar 2) (tCons (tVar 7) tNil)))
  (tSeq (tAsg (tOp oDiv (tVar 3) (tVar 7)) (gName 3))
  tNext)) tNext)
  tNext)))))
  (tSeq (tAsg (tOp oAdd (tC (.int 1)) (tCB rInt1 (tCons (tOp rEq (tOp oMod (tCall sp__law_next [] C8.E0 (tCons (tVar 0) tNil)) (tC (.int 3))) (tC (.int 0))) tNil))) (gName 8))
  (tSeq (tAsg (tCall sp__law_off [] C8.E0 (tCons (tVar 0) (tCons (tVar 3) tNil))) (gName 9))
  (tSeq (tAsg (tCall sp__law_long [] C8.E0 (tCons (tVar 0) (tCons (tCB (rLen K) (tCons (tVar 2) tNil)) tNil))) (gName 10))
  (tSeq (tAsg (tOp oAdd (tOp oAdd (tC (.int 1)) (tCB (rLen K) (tCons (tVar 10) tNil))) (tOp oMul (tOp oSub (tVar 8) (tC (.int 1))) (tOp oDiv (tOp oMul (tCB (rLen K) (tCons (tVar 10) tNil)) (tOp oSub (tCB (rLen K) (tCons (tVar 10) tNil)) (tC (.int 1)))) (tC (.int 2))))) (gName 11))
  (tSeq (tIfS (tTest (tOp oGt (tOp oMul (tVar 11) (tCB (rLen K) (tCons (tVar 9) tNil))) (tVar 3))) (tSeq (tAsg (tTup tNil) (gName 10))
  tNext) tNext)
  (tSeq (tRet (tTup (tCons (tCB (rTupOf K) (tCons (tVar 2) tNil)) (tCons (tVar 8) (tCons (tVar 9) (tCons (tVar 10) (tCons (tCall sp__law_tied [] C8.E0 (tCons (tVar 0) (tCons (tCB (rLen K) (tCons (tVar 2) tNil)) tNil))) tNil)))))))
  tNext)))))))))
theorem d__law_task {P : Program} {w : World} {K : PySem.W.Frag} {mg : Str → Option Value} {base : Heap} (T : Top K mg) (f : Addr) (cdv : Value) (A : Around) (outer : List Env) (s : Shared) (H : Hp) (E : XK)
    (hr : Room 2 (A.deeper (PyProof.Rows.envOfC "_law_task" (C8.fnScope s__law_task) s.heap.objs.size f cdv))) :
    PSs (cxOf C8.CX0 P w K mg base N__law_task "_law_task" (C8.fnScope s__law_task) f cdv A outer s H E).nox (C8.fnBody s__law_task) (t__law_task K) :=
  (pss_cons (ps_set (i := 2) nd__law_task rfl (by first | exact Or.inl rfl | exact Or.inr rfl) (pe_lst pa_nil))
  (pss_cons (ps_set (i := 3) nd__law_task rfl (by first | exact Or.inl rfl | exact Or.inr rfl) (pv 1))
  (pss_cons (ps_for PassesOwn.never rfl (pi_range1 rfl T.n_range (pa_cons (pe_op op_mod (C8.pe_c (c__law_next T) hr (by decide) rfl (pa_cons (pv 0) pa_nil)) pe_int) pa_nil)) (pg_name (i := 4) nd__law_task rfl (by first | exact Or.inl rfl | exact Or.inr rfl)) (pss_cons (ps_set (i := 5) nd__law_task rfl (by first | exact Or.inl rfl | exact Or.inr rfl) (C8.pe_c (c__law_next T) hr (by decide) rfl (pa_cons (pv 0) pa_nil)))
  (pss_cons (ps_set (i := 6) nd__law_task rfl (by first | exact Or.inl rfl | exact Or.inr rfl) (pe_lst (pa_cons pe_int (pa_cons pe_int (pa_cons pe_int (pa_cons pe_int (pa_cons (pe_op op_add pe_int (pe_op op_mod (pe_op op_fdiv (pv 5) pe_int) pe_int)) (pa_cons (pe_op op_add pe_int (pe_op op_mod (pe_op op_fdiv (pv 5) pe_int) pe_int)) (pa_cons (pe_op op_add pe_int (pe_op op_mod (pe_op op_fdiv (pv 5) pe_int) pe_int)) (pa_cons pe_int (pa_cons pe_int (pa_cons pe_int pa_nil))))))))))))
  (pss_cons (ps_set (i := 7) nd__law_task rfl (by first | exact Or.inl rfl | exact Or.inr rfl) (pe_ix ix_list (pe_op op_cat (pv 6) (pe_lst (pa_cons pe_int (pa_cons pe_int (pa_cons pe_int (pa_cons pe_int (pa_cons pe_int (pa_cons (pe_op op_add pe_int (pe_op op_mod (pe_op op_fdiv (pv 5) pe_int) pe_int)) pa_nil)))))))) (pe_op op_mod (pv 5) pe_int) (fun _ _ => rfl)))
  (pss_cons (ps_if (pt_cmpR op_le (pv 7) (pv 3) (nomark _)) (pss_cons (ps_expr (pe_bm PySem.F.plainAttrs_list PySem.F.slot_list_append PySem.F.type_list_append mt_append (pv 2) (pa_cons (pv 7) pa_nil)))
  (pss_cons (ps_set (i := 3) nd__law_task rfl (by first | exact Or.inl rfl | exact Or.inr rfl) (pe_op op_fdiv (pv 3) (pv 7)))
  pss_nil)) pss_nil)
  pss_nil)))))
  (pss_cons (ps_set (i := 8) nd__law_task rfl (by first | exact Or.inl rfl | exact Or.inr rfl) (pe_op op_add pe_int (pe_callTy cr_int (by rfl) T.n_int bt_int (pa_cons (pe_cmpR op_eq (pe_op op_mod (C8.pe_c (c__law_next T) hr (by decide) rfl (pa_cons (pv 0) pa_nil)) pe_int) pe_int (nomark _)) pa_nil))))
  (pss_cons (ps_set (i := 9) nd__law_task rfl (by first | exact Or.inl rfl | exact Or.inr rfl) (C8.pe_c (c__law_off T) hr (by decide) rfl (pa_cons (pv 0) (pa_cons (pv 3) pa_nil))))
  (pss_cons (ps_set (i := 10) nd__law_task rfl (by first | exact Or.inl rfl | exact Or.inr rfl) (C8.pe_c (c__law_long T) hr (by decide) rfl (pa_cons (pv 0) (pa_cons (pe_callB cr_len (by rfl) T.n_len bt_len (pa_cons (pv 2) pa_nil)) pa_nil))))
  (pss_cons (ps_set (i := 11) nd__law_task rfl (by first | exact Or.inl rfl | exact Or.inr rfl) (pe_op op_add (pe_op op_add pe_int (pe_callB cr_len (by rfl) T.n_len bt_len (pa_cons (pv 10) pa_nil))) (pe_op op_mul (pe_op op_sub (pv 8) pe_int) (pe_op op_fdiv (pe_op op_mul (pe_callB cr_len (by rfl) T.n_len bt_len (pa_cons (pv 10) pa_nil)) (pe_op op_sub (pe_callB cr_len (by rfl) T.n_len bt_len (pa_cons (pv 10) pa_nil)) pe_int)) pe_int))))
  (pss_cons (ps_if (pt_cmpR op_gt (pe_op op_mul (pv 11) (pe_callB cr_len (by rfl) T.n_len bt_len (pa_cons (pv 9) pa_nil))) (pv 3) (nomark _)) (pss_cons (ps_set (i := 10) nd__law_task rfl (by first | exact Or.inl rfl | exact Or.inr rfl) (pe_tup pa_nil))
  pss_nil) pss_nil)
  (pss_cons (ps_ret (pe_tup (pa_cons (pe_callTy cr_tuple (by rfl) T.n_tuple bt_tuple (pa_cons (pv 2) pa_nil)) (pa_cons (pv 8) (pa_cons (pv 9) (pa_cons (pv 10) (pa_cons (C8.pe_c (c__law_tied T) hr (by decide) rfl (pa_cons (pv 0) (pa_cons (pe_callB cr_len (by rfl) T.n_len bt_len (pa_cons (pv 2) pa_nil)) pa_nil))) pa_nil)))))))
  pss_nil)))))))))
theorem rr_ixMem {ds : List PyData} {i : Int} (h0 : 0 ≤ i) (h1 : i < ds.length) : RR dr (rIxL K) (.l ds) (.d (.int i)) (.g (anyV (· ∈ ds))) := fun v w H hv hw jd Q q => by
  have hg : ds[i.toNat]? = some ds[i.toNat] := List.getElem?_eq_getElem (by omega)
  have e : atI ds i = some ds[i.toNat] := by
    have := at_map (f := fun d : PyData => d) h0 hg
    simpa using this
  exact rr_ixL (K := K) e v w H hv hw jd Q fun u H2 e2 h2 => q u H2 e2 ⟨_, List.getElem_mem _, h2⟩
theorem sixteen {n : Int} {ds : List PyData} (hds : ds = [.int 2, .int 3, .int 4, .int 6, .int (1 + n / 16 % 4), .int (2 + n / 16 % 5), .int (3 + n / 16 % 8), .int 5, .int 8, .int 12] ++ [.int 7, .int 3, .int 4, .int 2, .int 5, .int (1 + n / 16 % 40)]) :
    ds.length = 16 ∧ ∀ e ∈ ds, ∃ m : Int, e = .int m ∧ 1 ≤ m ∧ m ≤ 40 := by
  subst hds
  have h4 := Int.emod_nonneg (n / 16) (show (4 : Int) ≠ 0 by decide)
  have h4' := Int.emod_lt_of_pos (n / 16) (show (0 : Int) < 4 by decide)
  have h5 := Int.emod_nonneg (n / 16) (show (5 : Int) ≠ 0 by decide)
  have h5' := Int.emod_lt_of_pos (n / 16) (show (0 : Int) < 5 by decide)
  have h8 := Int.emod_nonneg (n / 16) (show (8 : Int) ≠ 0 by decide)
  have h8' := Int.emod_lt_of_pos (n / 16) (show (0 : Int) < 8 by decide)
  have h40 := Int.emod_nonneg (n / 16) (show (40 : Int) ≠ 0 by decide)
  have h40' := Int.emod_lt_of_pos (n / 16) (show (0 : Int) < 40 by decide)
  generalize n / 16 % 4 = a at *
  generalize n / 16 % 5 = b at *
  generalize n / 16 % 8 = c at *
  generalize n / 16 % 40 = d at *
  refine ⟨rfl, fun e he => ?_⟩
  simp only [List.cons_append, List.nil_append, List.mem_cons, List.not_mem_nil, or_false] at he
  rcases he with rfl | rfl | rfl | rfl | rfl | rfl | rfl | rfl | rfl | rfl | rfl | rfl | rfl | rfl | rfl | rfl <;> exact ⟨_, rfl, by omega, by omega⟩
theorem room_step {a left m : Int} (ha : 0 ≤ a) (h : a * left ≤ 150) (hm : 1 ≤ m) (hl : m ≤ left) : a * (m * 1) * (left / m) ≤ 150 := by
  have h1 : m * (left / m) ≤ left := Int.mul_ediv_self_le (by omega)
  have h2 : a * (m * (left / m)) ≤ a * left := Int.mul_le_mul_of_nonneg_left h1 ha
  rw [Int.mul_one, Int.mul_assoc]
  omega
theorem prodI_pos : ∀ {ns : List Int}, (∀ n ∈ ns, 1 ≤ n ∧ n ≤ 40) → 1 ≤ prodI ns
  | [], _ => by simp [prodI]
  | n :: ns, h => by
    have h1 := prodI_pos (ns := ns) fun x hx => h x (List.mem_cons_of_mem _ hx)
    have h2 := (h n List.mem_cons_self).1
    simp only [prodI]
    have := Int.mul_le_mul h2 h1 (by omega) (by omega)
    omega
theorem c__law_task (T : Top K mg) : C8.Cal P w K mg base 3 "_law_task" sp__law_task [] := by
  refine cal_of T.f__law_task sc__law_task (t__law_task K) (fun zs z h => ?_) (fun f cdv A outer s H E hr => d__law_task T f cdv A outer s H E hr) (fun dr B E zs z hp hB hR hN => ?_)
  · obtain ⟨rfl, _⟩ := h; rfl
  obtain ⟨rfl, rfl⟩ := hp
  refine w_asgN hB (en_lst ead_nil (by nested_key)) fun p np mp fr => ?_
  refine w_asg hB (ev_var rfl) ?_
  refine w_forA (φ := fun n => 0 ≤ n ∧ n < 7) (fun _ i δ' => ∃ (ns : List Int) (left : Int) (c4 c5 c6 c7 : Sd), δ' = [.v (.g drV), .d (.int 150), .l p (ns.map PyData.int), .d (.int left), c4, c5, c6, c7, .x, .x, .x, .x] ∧ (∀ n ∈ ns, 1 ≤ n ∧ n ≤ 40) ∧ ns.length ≤ i ∧ prodI ns * left ≤ 150 ∧ 1 ≤ left ∧ okm p c4 ∧ okm p c5 ∧ okm p c6 ∧ okm p c7) hB (ea_cons (ev_op (e__law_next (ea_cons (ev_varV rfl) ea_nil)) ev_int (rr_modA (by decide))) ea_nil) (fun n h => by omega)
    (fun n _ => ⟨[], 150, .x, .x, .x, .x, rfl, (fun n h => nomatch h), by simp, by decide, by decide, trivial, trivial, trivial, trivial⟩) (fun nn i δ' hn hi hI => ?_) (fun nn δ' hn hI => ?_)
  · obtain ⟨ns, left, c4, c5, c6, c7, rfl, hns, hlen, hpr, hl1, k4, k5, k6, k7⟩ := hI
    refine w_asgA hB (e__law_next (ea_cons (ev_varV rfl) ea_nil)) fun e he => ?_
    obtain ⟨n, hn0, rfl⟩ := he
    refine w_asgN hB (en_lst (ead_cons ev_int (ead_cons ev_int (ead_cons ev_int (ead_cons ev_int (ead_cons (ev_op ev_int (ev_op (ev_op (ev_var rfl) ev_int (rr_I (⟨by decide, by decide⟩ : CDiv _ _) fun _ => .int _)) ev_int (rr_I (by decide) fun _ => .int _)) (rr_I0 fun _ => .int _)) (ead_cons (ev_op ev_int (ev_op (ev_op (ev_var rfl) ev_int (rr_I (⟨by decide, by decide⟩ : CDiv _ _) fun _ => .int _)) ev_int (rr_I (by decide) fun _ => .int _)) (rr_I0 fun _ => .int _)) (ead_cons (ev_op ev_int (ev_op (ev_op (ev_var rfl) ev_int (rr_I (⟨by decide, by decide⟩ : CDiv _ _) fun _ => .int _)) ev_int (rr_I (by decide) fun _ => .int _)) (rr_I0 fun _ => .int _)) (ead_cons ev_int (ead_cons ev_int (ead_cons ev_int ead_nil)))))))))) (by nested_key)) fun p6 np6 mp6 fr6 => ?_
    have hp6 : p ≠ p6 := fr_get (i := 2) fr6 rfl
    have hm0 := Int.emod_nonneg n (show (16 : Int) ≠ 0 by decide)
    have hm1 := Int.emod_lt_of_pos n (show (0 : Int) < 16 by decide)
    refine w_asgA hB (ev_op (en_op (ev_varL rfl) (en_lst (ead_cons ev_int (ead_cons ev_int (ead_cons ev_int (ead_cons ev_int (ead_cons ev_int (ead_cons (ev_op ev_int (ev_op (ev_op (ev_var rfl) ev_int (rr_I (⟨by decide, by decide⟩ : CDiv _ _) fun _ => .int _)) ev_int (rr_I (by decide) fun _ => .int _)) (rr_I0 fun _ => .int _)) ead_nil)))))) (by nested_key)).ev (rn_cat (by simp [small]))).ev (ev_op (ev_var rfl) ev_int (rr_I (by decide) fun _ => .int _)) (rr_ixMem hm0 (by simp; omega))) fun e he => ?_
    obtain ⟨m, rfl, hm1, hm40⟩ := (sixteen rfl).2 e he
    refine w_if hB (et_test (ev_op (ev_var rfl) (ev_var rfl) (rr_I0 fun _ => .bl _))) (fun hb => ?_) (fun hb => ?_)
    · have hml : m ≤ left := by simpa using hb
      refine w_app hB rfl mp (ev_var rfl) (by rw [List.length_map]; omega) ⟨rfl, trivial, trivial, trivial, trivial, trivial, Ne.symm hp6, trivial, trivial, trivial, trivial, trivial, trivial⟩ ?_
      refine w_asg hB (ev_op (ev_var rfl) (ev_var rfl) (rr_I (⟨by omega, by omega⟩ : CDiv left m) fun _ => .int _)) ?_
      refine w_nx ?_
      refine w_end ⟨ns ++ [m], left / m, .d (.int i), .d (.int n), .l p6 _, .d (.int m), by simp [Vd.sd]; rfl, fun x hx => ?_, by simp; omega, ?_, ?_, trivial, trivial, Ne.symm hp6, trivial⟩
      · rcases List.mem_append.mp hx with h | h
        · exact hns x h
        · rw [List.mem_singleton.mp h]; exact ⟨hm1, hm40⟩
      · rw [prodI_app]
        have := prodI_pos hns
        exact room_step (by omega) hpr hm1 hml
      · exact (Int.le_ediv_iff_mul_le (by omega)).mpr (by omega)
    · refine w_nx ?_
      exact w_end ⟨ns, left, .d (.int i), .d (.int n), .l p6 _, .d (.int m), rfl, hns, by omega, hpr, hl1, trivial, trivial, Ne.symm hp6, trivial⟩
  · obtain ⟨ns, left, c4, c5, c6, c7, rfl, hns, hlen, hpr, hl1, k4, k5, k6, k7⟩ := hI
    have hn7 : ns.length ≤ 6 := by omega
    have hlm : (ns.map PyData.int).length = ns.length := List.length_map ..
    refine w_asgA (Z := iZ fun n => n = 1 ∨ n = 2) hB (ev_op ev_int (ev_cb (ea_cons (ev_op (ev_op (e__law_next (ea_cons (ev_varV rfl) ea_nil)) ev_int (rr_modA (by decide))) ev_int rr_eqA) ea_nil) rc_intA) (rr_anyR fun e ⟨n, hn, he⟩ => ⟨.int (1 + n), ⟨_, by omega, rfl⟩, by subst he; exact rr_I0 fun _ => .int _⟩)) fun e he => ?_
    obtain ⟨h, hh, rfl⟩ := he
    refine w_asgA hB (e__law_off (ea_cons (ev_varV rfl) (ea_cons (ev_var rfl) ea_nil)) hl1) fun e he => ?_
    obtain ⟨off, rfl, hoff, hol⟩ := he
    refine w_asgA hB (e__law_long (ea_cons (ev_varV rfl) (ea_cons (ev_cb (ea_cons (ev_varL rfl) ea_nil) rc_lenL) ea_nil)) (by omega) (by rw [hlm]; omega)) fun e he => ?_
    obtain ⟨lg, rfl, hlg⟩ := he
    rw [hlm] at hlg
    have hlgl : (dI lg) = .tuple (lg.map PyData.int) := rfl
    have hll : (lg.map PyData.int).length = lg.length := List.length_map ..
    have hol' : (off.map PyData.int).length = off.length := List.length_map ..
    have lgle : ∀ {m : Nat} {l : Int} {xs : List Int}, riseB ((m : Int) - 1) l xs = true → 0 ≤ l → (xs.length : Int) + l ≤ m ∨ xs = [] := by
      intro m l xs
      induction xs generalizing l with
      | nil => intros; exact .inr rfl
      | cons x xs ih =>
        intro h h0
        simp only [riseB, wholeB, Bool.and_eq_true, decide_eq_true_eq] at h
        rcases ih h.2 (by omega) with q | q
        · left; simp only [List.length_cons]; omega
        · subst q; left; simp; omega
    have hlg6 : lg.length ≤ 6 := by
      rcases lgle hlg (by omega) with q | q
      · omega
      · subst q; simp
    have fin : ∀ (lg : List Int) (c11 : Sd), riseB ((ns.length : Int) - 1) 0 lg = true → lg.length ≤ 6 → prodI ns * ((1 + (lg.length : Int) + (h - 1) * ((lg.length : Int) * ((lg.length : Int) - 1) / 2)) * (off.length : Int)) ≤ 150 →
        W dr B E (tSeq (tRet (tTup (tCons (tCB (rTupOf K) (tCons (tVar 2) tNil)) (tCons (tVar 8) (tCons (tVar 9) (tCons (tVar 10) (tCons (tCall sp__law_tied [] C8.E0 (tCons (tVar 0) (tCons (tCB (rLen K) (tCons (tVar 2) tNil)) tNil))) tNil))))))) tNext)
          [.v (.g drV), .d (.int 150), .l p (ns.map PyData.int), .d (.int left), c4, c5, c6, c7, .d (.int h), .d (dI off), .d (dI lg), c11] := by
      intro lg c11 hlg hlg6 hroom
      refine w_ret hB (Ev.imp (ev_tupA (ZL := fun ds => ∃ ps : List (Int × Int), (pairsP ps ns.length ∧ ps.length ≤ 28) ∧ ds = [dI ns, .int h, dI off, dI lg, .tuple (ps.map pr)]) (ea_cons (ev_cb (ea_cons (ev_varL rfl) ea_nil) rc_tupL) (ea_cons (ev_var rfl) (ea_cons (ev_var rfl) (ea_cons (ev_var rfl) (ea_cons (e__law_tied (ea_cons (ev_varV rfl) (ea_cons (ev_cb (ea_cons (ev_varL rfl) ea_nil) rc_lenL) ea_nil)) (by omega) (by rw [hlm]; omega)) ea_nil))))) fun H vs hv => ?_) fun e he => ?_) hR
      · match vs, hv with
        | [v1, v2, v3, v4, v5], ⟨h1, h2, h3, h4, h5, _⟩ =>
          obtain ⟨e5, ⟨ps, rfl, hps⟩, h5⟩ := h5
          rw [hlm] at hps
          exact ⟨_, ⟨ps, hps, rfl⟩, .cons h1 (.cons h2 (.cons h3 (.cons h4 (.cons h5 .nil)))), by simp [small]⟩
      · obtain ⟨ds, ⟨ps, ⟨hps, hpl⟩, rfl⟩, rfl⟩ := he
        exact ⟨⟨ns, h, off, lg, ps⟩, ⟨⟨⟨show ns.length ≤ 8 by omega, hns⟩, hh, hoff, hlg, show lg.length ≤ 1000 by omega, hps⟩, hn7, hroom, hpl⟩, rfl⟩
    have hpp := prodI_pos hns
    have h36 : ∀ k : Nat, k ≤ 6 → (0 : Int) ≤ (k : Int) * ((k : Int) - 1) / 2 ∧ (k : Int) * ((k : Int) - 1) / 2 ≤ 15 := by decide
    have hc := h36 lg.length hlg6
    have hmul : (h - 1) * ((lg.length : Int) * ((lg.length : Int) - 1) / 2) ≤ 15 ∧ 0 ≤ (h - 1) * ((lg.length : Int) * ((lg.length : Int) - 1) / 2) := by
      rcases hh with e | e <;> subst e <;> constructor <;> omega
    have hofl := hoff.2.1
    refine w_asg hB (ev_op (ev_op ev_int (ev_cb (ea_cons (ev_var rfl) ea_nil) rc_lenT) (rr_I0 fun _ => .int _)) (ev_op (ev_op (ev_var rfl) ev_int (rr_I0 fun _ => .int _)) (ev_op (ev_op (ev_cb (ea_cons (ev_var rfl) ea_nil) rc_lenT) (ev_op (ev_cb (ea_cons (ev_var rfl) ea_nil) rc_lenT) ev_int (rr_I0 fun _ => .int _)) (rr_I (.inl (by rw [hll]; omega)) fun _ => .int _)) ev_int (rr_I (⟨by decide, by decide⟩ : CDiv _ _) fun _ => .int _)) (rr_I (.inl (by omega)) fun _ => .int _)) (rr_I0 fun _ => .int _)) ?_
    rw [hll]
    refine w_if hB (et_test (ev_op (ev_op (ev_var rfl) (ev_cb (ea_cons (ev_var rfl) ea_nil) rc_lenT) (rr_I (.inl (by omega)) fun _ => .int _)) (ev_var rfl) (rr_I0 fun _ => .bl _))) (fun hb => ?_) (fun hb => ?_)
    · refine w_asg hB (ev_tup ead_nil (by nested_key)) ?_
      refine w_nx ?_
      refine fin [] _ rfl (by simp) ?_
      have : prodI ns * (off.length : Int) ≤ prodI ns * left := Int.mul_le_mul_of_nonneg_left hol (by omega)
      simp
      omega
    · refine w_nx ?_
      refine fin lg _ hlg hlg6 ?_
      rw [hol'] at hb
      have hb' : (1 + (lg.length : Int) + (h - 1) * ((lg.length : Int) * ((lg.length : Int) - 1) / 2)) * (off.length : Int) ≤ left := by
        have := of_decide_eq_false hb
        omega
      have := Int.mul_le_mul_of_nonneg_left hb' (show 0 ≤ prodI ns by omega)
      omega
end
end Ed
end
section
set_option maxHeartbeats 4000000
/-! R10: sum of lists, set of a list of ints. -/
namespace PySem
open Sem (wp)
abbrev loOf (xs : Array Value) (n : Nat) : Obj := { cls := .type "list", dict := none, data := .seq xs n, slots := #[] }
def catUp (Ls : Nat → Array Value) : Nat → Array Value
  | 0 => #[]
  | i + 1 => catUp Ls i ++ Ls i
section
variable {prog : Program} {w : World} {A : Around} {R : Result → Shared → Prop} {I : Addr} {fp wr : List Addr} {G : Array GenState → Array GenState → Prop} {n : Nat} {P : Nat → Value → Prop} {St : Nat → Shared → Prop}
theorem sum_loopL (W : WalksS prog w A.in1 I fp wr G n P St) (Ls : Nat → Array Value) (h0 : Heap) (hval : ∀ i v, P i v → ∃ a k, v = .ref a ∧ h0.get? a = some (loOf (Ls i) k) ∧ a ∉ wr) (hsz : ∀ i, i < n → (catUp Ls i).size + (Ls i).size ≤ sizeLine) (S : Addr) (hSf : S ∉ fp) (hS0 : h0.objs.size ≤ S) (hwS : ∀ b ∈ wr, b < S) (T0 : Addr) :
    ∀ (k i : Nat) (s : Shared) (T : Addr) (c kT : Nat), n - i = k → i ≤ n → St i s → s.heap.get? S = some (loOf #[.ref T] c) → s.heap.get? T = some (loOf (catUp Ls i) kT) → T ∉ S :: wr → ((i = 0 ∧ T = T0) ∨ (0 < i ∧ h0.objs.size ≤ T)) → (∀ b o, b ∉ wr → h0.get? b = some o → s.heap.get? b = some o) →
    (∀ s' D kD, Moved (S :: wr) G s s' → s'.heap.get? D = some (loOf (catUp Ls n) kD) → ((n = 0 ∧ D = T0) ∨ (0 < n ∧ h0.objs.size ≤ D)) → R (.ok (.ret (.ref D))) s') → codeAny (model prog w) A (.builtin "sum.loop" ⟨[.ref I, .ref S, rawInt 2, rawInt 0], []⟩) R s := by
  have hSw : S ∉ wr := fun h => hSf (W.sub _ h)
  have hsub : ∀ b ∈ wr, b ∈ S :: wr := fun b hb => List.mem_cons_of_mem _ hb
  intro k
  induction k with
  | zero =>
    intro i s T c kT hk hi hst hS hT hTw hT0 hk0 hR
    have hin : i = n := by omega
    subst hin
    refine codeAny_builtin F.entry_sum_loop ?_
    rw [Around.under_plainId F.plain_sum_loop _]
    show wpAny _ A.in1 (seqItems? (.ref S) >>= _) _ _ s
    refine wpAny_bind (wpAny_seqItems hS rfl ?_)
    show wpAny _ A.in1 (tryCatch (pyNext (.ref I)) _ >>= _) _ _ s
    refine wpAny_bind (wpAny_tryCatch (W.done s _ _ hst fun s' hm => ?_))
    exact wpAny_pure (hR s' T kT (hm.mono hsub) (hm.heap T _ (fun h => hTw (List.mem_cons_of_mem _ h)) hT) hT0)
  | succ k ih =>
    intro i s T c kT hk hi hst hS hT hTw hT0 hk0 hR
    have hlt : i < n := by omega
    refine codeAny_builtin F.entry_sum_loop ?_
    rw [Around.under_plainId F.plain_sum_loop _]
    show wpAny _ A.in1 (seqItems? (.ref S) >>= _) _ _ s
    refine wpAny_bind (wpAny_seqItems hS rfl ?_)
    show wpAny _ A.in1 (tryCatch (pyNext (.ref I)) _ >>= _) _ _ s
    refine wpAny_bind (wpAny_tryCatch (W.item i s _ _ hlt hst fun v s' hP hst' hm => ?_))
    obtain ⟨a, ka, rfl, ha, haw⟩ := hval i v hP
    have hS' := hm.heap S _ hSw hS
    have hT' := hm.heap T _ (fun h => hTw (List.mem_cons_of_mem _ h)) hT
    have ha' := hm.heap a _ haw (hk0 a _ haw ha)
    show wpAny _ A.in1 ((holding [Value.ref a] (binaryOp .Add (.ref T) (.ref a))).attempt >>= _) _ _ _
    refine wpAny_bind (wpAny_attempt (wpAny_holding (PySem.P.add_list hT' ha' ?_ (hsz i hlt))))
    have hSp : (s'.heap.push (loOf (catUp Ls i ++ Ls i) 0)).get? S = some (loOf #[.ref T] c) := Heap.get?_push_of_some _ hS'
    show wpAny _ A.in1 (updateSeq S (fun _ => #[.ref s'.heap.objs.size]) >>= _) _ _ _
    refine wpAny_bind (wpAny_updateSeq hSp rfl ?_)
    have hS₂ := Heap.get?_update_self (Obj.mapSeq fun _ => #[Value.ref s'.heap.objs.size]) hSp rfl
    refine wpAny_bind (wpAny_letGo ?_)
    have hSlt : S < s'.heap.objs.size := Heap.lt_size hS'
    have hle : h0.objs.size ≤ s'.heap.objs.size := Nat.le_trans hS0 (Nat.le_of_lt hSlt)
    have oth : ∀ b o, b ≠ S → s'.heap.get? b = some o → (((s'.heap.push (loOf (catUp Ls i ++ Ls i) 0)).update S (Obj.mapSeq fun _ => #[Value.ref s'.heap.objs.size])).update S (Obj.mapSeq fun _ => #[Value.ref s'.heap.objs.size])).get? b = some o := fun b o hb e =>
      (Heap.get?_update_other _ _ (Ne.symm hb)).trans ((Heap.get?_update_other _ _ (Ne.symm hb)).trans (Heap.get?_push_of_some _ e))
    have hD : (((s'.heap.push (loOf (catUp Ls i ++ Ls i) 0)).update S (Obj.mapSeq fun _ => #[Value.ref s'.heap.objs.size])).update S (Obj.mapSeq fun _ => #[Value.ref s'.heap.objs.size])).get? s'.heap.objs.size = some (loOf (catUp Ls (i + 1)) 0) :=
      (Heap.get?_update_other _ _ (Nat.ne_of_lt hSlt)).trans ((Heap.get?_update_other _ _ (Nat.ne_of_lt hSlt)).trans (Heap.get?_push_size _ rfl))
    refine wpAny_bind (wpAny_updateSeq hS₂ rfl (wpAny_pure ⟨plainId_quiet F.plain_sum_loop _, ih (i + 1) _ s'.heap.objs.size _ 0 (by omega) hlt (W.frame _ s' _ _ hst' (by first | exact Nat.le_refl _ | exact Nat.le_succ _ | omega) fun b hb o e => ?_) (Heap.get?_update_self _ hS₂ rfl) hD ?_ (.inr ⟨Nat.succ_pos _, hle⟩) (fun b o hb e => ?_) fun s'' D kD hm'' hDD hD0 => ?_⟩))
    · exact oth b o (fun h => hSf (by rw [← h]; exact hb)) e
    · intro hmem
      rcases List.mem_cons.mp hmem with h | h
      · exact absurd hSlt (by rw [h]; exact Nat.lt_irrefl _)
      · exact absurd (Nat.lt_trans (hwS _ h) hSlt) (Nat.lt_irrefl _)
    · exact oth b o (fun h => absurd (Heap.lt_size e) (by rw [h]; exact Nat.not_lt_of_le hS0)) (hm.heap b o hb (hk0 b o hb e))
    · refine hR s'' D kD (Moved.trans W.gtrans ((hm.mono hsub).then_heap (by first | exact Nat.le_refl _ | exact Nat.le_succ _ | omega) fun b o hb e => ?_) hm'') hDD hD0
      exact oth b o (fun h => hb (by rw [h]; exact List.mem_cons_self)) e
end
theorem lemA {l z : Nat} (h : l < z) : z + 1 ∉ [z, l] := by simp; omega
theorem lemB {t z : Nat} (h : t < z) : t ∉ [z + 1, z] := by simp; omega
theorem args_sum2 (a b : Value) : argsOk "sum" ⟨[a, b], []⟩ := by unfold argsOk; kernel_rfl
theorem sub_list_str' : isSubtype (.type "list") (.type "str") = pure false := by rw [isSubtype_type]; kernel_rfl
theorem sub_list_bytes' : isSubtype (.type "list") (.type "bytes") = pure false := by rw [isSubtype_type]; kernel_rfl
theorem sub_list_bytearray' : isSubtype (.type "list") (.type "bytearray") = pure false := by rw [isSubtype_type]; kernel_rfl
section
variable {prog : Program} {w : World} {A : Around} {E : Value → Shared → Prop} {s : Shared}
theorem call_sum_lists {l t : Addr} {k0 : Nat} {items : Array Value} (Ls : Nat → Array Value) {Q : Value → Shared → Prop} (hh : A.handled = none) (hl : s.heap.IsList l items) (ht : s.heap.get? t = some (loOf #[] k0)) (hit : ∀ (i : Nat) v, items[i]? = some v → ∃ a k, v = .ref a ∧ s.heap.get? a = some (loOf (Ls i) k))
    (hsz : ∀ i, i < items.size → (catUp Ls i).size + (Ls i).size ≤ sizeLine)
    (h : ∀ h' tk D kD, (∀ b o, s.heap.get? b = some o → h'.get? b = some o) → h'.get? D = some (loOf (catUp Ls items.size) kD) → ((items.size = 0 ∧ D = t) ∨ (0 < items.size ∧ s.heap.objs.size ≤ D)) → Q (.ref D) { s with heap := h', toks := tk }) :
    wpAny (model prog w) A (call (.builtin "sum") [.ref l, .ref t]) Q E s := by
  refine call_function_tree F.kind_sum F.plain_sum F.entry_sum (args_sum2 _ _) ?_
  unfold Builtin.«sum»
  simp only [List.length_cons, List.length_nil]
  rw [if_neg (by decide)]
  refine wpAny_bind (wpAny_of_eq (show Builtin.Builtins.bindParams "sum" ["start"] 0 { pos := [.ref t] } = pure [some (.ref t)] from rfl) ?_)
  refine wpAny_bind (wpAny_pyIter_list hl ?_)
  have hlo : ∃ o, s.heap.get? l = some o := let ⟨o, ho, _⟩ := hl; ⟨o, ho⟩
  obtain ⟨ol, hol⟩ := hlo
  have hne : l ≠ s.heap.objs.size := Nat.ne_of_lt (Heap.lt_size hol)
  have W := (Walks.list (prog := prog) (w := w) (A := A.in1) hh s.heap.objs.size l hne items).toS
  have ht1 : ∀ o' : Obj, (s.heap.push o').get? t = some (loOf #[] k0) := fun o' => Heap.get?_push_of_some _ ht
  have hT : ∀ o' : Obj, Shared.TypeIs { s with heap := s.heap.push o' } (.ref t) "list" := fun o' => ⟨_, ht1 o', rfl⟩
  refine wpAny_bind (wpAny_pure ?_)
  simp only [List.forIn_cons, List.forIn_nil]
  refine wpAny_bind (wpAny_bind (wpAny_bind (wpAny_isInstance (T := "list") (b := false) (hT _) sub_list_str' ?_)))
  simp only [Bool.false_eq_true, if_false]
  refine wpAny_pure (wpAny_bind (wpAny_bind (wpAny_isInstance (T := "list") (b := false) (hT _) sub_list_bytes' ?_)))
  simp only [Bool.false_eq_true, if_false]
  refine wpAny_pure (wpAny_bind (wpAny_bind (wpAny_isInstance (T := "list") (b := false) (hT _) sub_list_bytearray' ?_)))
  simp only [Bool.false_eq_true, if_false]
  refine wpAny_pure (wpAny_pure ?_)
  refine wpAny_bind (wpAny_newObj_type ?_)
  have hz1 : (s.heap.push { cls := .type "list_iterator", data := .fields #[.ref l, .int 0 0] }).objs.size = s.heap.objs.size + 1 := Heap.size_push ..
  have hSf : (s.heap.push { cls := .type "list_iterator", data := .fields #[.ref l, .int 0 0] }).objs.size ∉ [s.heap.objs.size, l] := by
    rw [hz1]
    exact lemA (Heap.lt_size hol)
  have hval : ∀ (i : Nat) v, items[i]? = some v → ∃ a k, v = .ref a ∧ s.heap.get? a = some (loOf (Ls i) k) ∧ a ∉ [s.heap.objs.size] := fun i v hv => by
    obtain ⟨a, k, e1, e2⟩ := hit i v hv
    exact ⟨a, k, e1, e2, fun hm => Nat.lt_irrefl _ (by have := Heap.lt_size e2; rw [List.mem_singleton.mp hm] at this; exact this)⟩
  have htl := Heap.lt_size ht
  refine wpAny_pure ⟨plainId_quiet F.plain_sum_loop _, sum_loopL W Ls s.heap hval hsz _ hSf (by rw [hz1]; exact Nat.le_succ _) (fun b hb => by rw [List.mem_singleton.mp hb, hz1]; exact Nat.lt_succ_self _) t items.size 0 _ t 0 k0 (by omega) (Nat.zero_le _)
    (W.frame 0 { s with heap := s.heap.push { cls := .type "list_iterator", data := .fields #[.ref l, .int 0 0] } } _ _ ⟨⟨_, Heap.get?_push_size _ rfl, rfl, rfl⟩, hl.push _⟩ (by first | exact Nat.le_refl _ | exact Nat.le_succ _ | omega) fun b _ o e => Heap.get?_push_of_some _ e)
    (Heap.get?_push_size _ rfl) (Heap.get?_push_of_some _ (ht1 _)) (by rw [hz1]; exact lemB htl) (.inl ⟨rfl, rfl⟩) (fun b o _ e => Heap.get?_push_of_some _ (Heap.get?_push_of_some _ e)) fun s' D kD hm hD h0 => ?_⟩
  obtain ⟨h', g', d', tk', os'⟩ := s'
  have e1 : g' = s.gens := hm.gens
  have e2 : d' = s.drawn := hm.drawn
  have e3 : os' = s.os := hm.os
  subst e1 e2 e3
  refine h h' tk' D kD (fun b o e => hm.heap b o (fun hb => ?_) (Heap.get?_push_of_some _ (Heap.get?_push_of_some _ e))) hD h0
  rw [hz1] at hb
  exact lemB (Heap.lt_size e) hb
end
end PySem
namespace Ed
open PySem L2
def rSumL (K : PySem.W.Frag) : List V → Hp → VK → Prop := fun vs H Q => ∃ (a t : Addr) (ps : List Addr) (ls : List (List V)), vs = [.ref a, .ref t] ∧ SqL K H a (ps.map V.ref) ∧ Paired (fun p xs => H p = some (.lst xs)) ps ls ∧ H t = some (.lst []) ∧ ls.flatten.length ≤ 1000000 ∧
  (ls = [] → Q (.ref t) H) ∧ (ls ≠ [] → ∀ d, H d = none → Q (.ref d) (upd H d (.lst ls.flatten)))
section
variable {X : Cx}
theorem flat_up {ls : List (List Value)} : ∀ i : Nat, (catUp (fun i => (ls.getD i []).toArray) i) = (ls.take i).flatten.toArray
  | 0 => by simp [catUp]
  | i + 1 => by
    rw [catUp, flat_up i]
    rw [List.take_add_one]
    simp only [List.flatten_append, List.getD_eq_getElem?_getD]
    cases h : ls[i]? with
    | none => simp
    | some x => simp
theorem vals_flat : ∀ {ls : List (List V)} {us : List (List Value)}, Paired Vals ls us → Vals ls.flatten us.flatten
  | _, _, .nil => .nil
  | _, _, .cons h t => by rw [List.flatten_cons, List.flatten_cons]; exact h.append (vals_flat t)
theorem lists_of {pins : List (Addr × Obj)} {σ : St} {H : Hp} {s : Shared} (I : Inv X pins σ H s) : ∀ {ps : List Addr} {ls : List (List V)}, Paired (fun p xs => H p = some (.lst xs)) ps ls → ∃ us : List (List Value), Paired Vals ls us ∧ us.length = ps.length ∧ ∀ (i : Nat) (p : Addr), ps[i]? = some p → ∃ k, s.heap.get? p = some (loOf (us.getD i []).toArray k)
  | _, _, .nil => ⟨[], .nil, rfl, fun i p e => by simp at e⟩
  | _, _, .cons (a := p) h t => by
    obtain ⟨us, h1, h2, h3⟩ := lists_of I t
    obtain ⟨_, its, n, r, _, e⟩ := I.lstM h
    refine ⟨its :: us, .cons r h1, by simp [h2], fun i q e' => ?_⟩
    cases i with
    | zero => simp at e'; subst e'; exact ⟨n, by simpa using e⟩
    | succ i =>
      obtain ⟨k, e2⟩ := h3 i q (by simpa using e')
      exact ⟨k, by simpa using e2⟩
theorem cr_sumL (hc : X.calm = true) : CallR X (.builtin "sum") (rSumL X.K) := by
  intro pins s σ H vs us Q I r h
  obtain ⟨a, t, ps, ls, rfl, hs, hp, ht, hlen, q1, q2⟩ := h
  obtain ⟨u1, u2, rfl, r1, r2⟩ := r.two
  cases r1
  cases r2
  obtain ⟨its, rv, hl, _⟩ := I.list hs
  have ei := refs_at rv
  subst ei
  obtain ⟨uss, hu, hul, hug⟩ := lists_of I hp
  obtain ⟨_, tits, tn, tr, _, te⟩ := I.lstM ht
  cases tr
  have hflat := vals_flat hu
  have hfl : uss.flatten.length ≤ 1000000 := by rw [← hflat.length]; exact hlen
  have htk : ∀ i, ((uss.take i).flatten).length ≤ uss.flatten.length := fun i => by
    have : uss.flatten = (uss.take i).flatten ++ (uss.drop i).flatten := by rw [← List.flatten_append, List.take_append_drop]
    rw [this, List.length_append]; omega
  have hsl : 1000000 ≤ sizeLine := by decide
  have hsz' : (ps.map Value.ref).toArray.size = uss.length := by simp [hul]
  refine call_sum_lists (fun i => (uss.getD i []).toArray) (I.ok.hd hc) hl.isList (k0 := tn) (by simpa using te) (fun i v hv => ?_) (fun i hi => ?_) fun h' tk D kD hk hD h0 => ?_
  · have hv' : (ps.map Value.ref)[i]? = some v := by simpa using hv
    rw [List.getElem?_map] at hv'
    obtain ⟨p, hp', rfl⟩ := Option.map_eq_some_iff.mp hv'
    obtain ⟨k, e⟩ := hug i p hp'
    exact ⟨p, k, rfl, e⟩
  · have e1 := flat_up (ls := uss) (i + 1)
    have e2 : (catUp (fun i => (uss.getD i []).toArray) i).size + (uss.getD i []).toArray.size = ((uss.take (i + 1)).flatten).length := by
      have : catUp (fun i => (uss.getD i []).toArray) (i + 1) = catUp (fun i => (uss.getD i []).toArray) i ++ (uss.getD i []).toArray := rfl
      rw [this] at e1
      have := congrArg Array.size e1
      simpa using this
    have := htk (i + 1)
    omega
  · rw [hsz', flat_up, List.take_length] at hD
    rcases h0 with ⟨hz, rfl⟩ | ⟨hpos, hge⟩
    · rw [hsz'] at hz
      have : ls = [] := by
        have := Paired.length hu
        cases ls with
        | nil => rfl
        | cons _ _ => simp [hz] at this
      exact ⟨.ref D, H, I.kept hk, rfl, q1 this⟩
    · by_cases hls : ls = []
      · subst hls
        cases hu
        rw [hsz'] at hpos
        exact absurd hpos (by simp)
      · exact ⟨.ref D, _, I.laid (o := .lst ls.flatten) (t' := tk) hk hge ⟨Nat.le_trans hlen hsl, uss.flatten, kD, hflat, hD⟩, rfl, q2 hls D (I.hok.fresh hge)⟩
end
end Ed
end
section
set_option maxHeartbeats 4000000
/-! R11: a set of a list of ints; sorted of it; a list of lists by a comprehension. -/
namespace L2
open PySem PySem.Spec PyProof.Rows
section
variable {P : Program} {w : World} {A : Around} {E : Value → Shared → Prop} {s : Shared}
theorem call_set_listI {l : Addr} {items : Array Value} (ns : List Int) {Q : Value → Shared → Prop} (hh : A.handled = none) (hl : s.heap.IsList l items) (hit : IntsAre items.toList ns) (hb : ns.length + 1 < scanBound)
    (h : ∀ (h' : Heap) (tk c : Nat), SetR w h' s.heap.objs.size (fun j => decide (j ∈ ns)) c → c ≤ ns.length → (∀ b o, s.heap.get? b = some o → h'.get? b = some o) → Q (.ref s.heap.objs.size) { s with heap := h', toks := tk }) :
    wpAny (model P w) A (call (.type "set") [.ref l]) Q E s := by
  have hisz : items.size = ns.length := by
    have q := IntsAre.length hit
    rw [Array.length_toList] at q
    exact q
  obtain ⟨c, tl, hmro⟩ := F.called_set.mro
  have hmade := F.called_set.made
  have hsub := F.called_set.sub
  refine wpAny_call (codeAny_of_tree ?_)
  show wpAny _ _ (callAny (.type "set") _) _ _ _
  refine wpAny_pure ⟨Code.quiet_builtin _ (by decide +kernel), codeAny_builtin F.entry_type_call ?_⟩
  rw [Around.under_plain (weight_type_call_type "set" [.ref l] []) rfl]
  have h1 := F.called_set.notType
  have h2 := F.called_set.canCreate
  have hct := F.typeCall_set_1 (.ref l)
  repeat (any_goals (first | assumption | wp_step))

  refine codeAny_mono (code_set_led1 (.ref l) (E := E) (Q₁ := fun obj s₁ => obj = .ref s.heap.objs.size ∧ s₁ = { s with heap := s.heap.push { cls := .type "set", dict := none, data := .set #[] 0 (.fresh 0 0 (!w.params.followText "set-order")) } }) ⟨rfl, rfl⟩) fun r s₁ hr => ?_
  cases r with
  | error e => exact hr
  | ok fl =>
    cases fl with
    | ret obj =>
      obtain ⟨rfl, rfl⟩ := hr
      have hS : (s.heap.push { cls := .type "set", dict := none, data := .set #[] 0 (.fresh 0 0 (!w.params.followText "set-order")) }).get? s.heap.objs.size = some { cls := .type "set", dict := none, data := .set #[] 0 (.fresh 0 0 (!w.params.followText "set-order")) } := Heap.get?_push_size _ rfl
      have hT : Shared.TypeIs { s with heap := s.heap.push { cls := .type "set", dict := none, data := .set #[] 0 (.fresh 0 0 (!w.params.followText "set-order")) } } (.ref s.heap.objs.size) "set" := ⟨_, hS, rfl⟩
      have hli := F.called_set.init.lookup
      have hbi := F.called_set.init.bind (.ref s.heap.objs.size)
      repeat (any_goals (first | assumption | wp_step))

      refine codeAny_mono (codeAny_call_builtin (R := wants (fun r s₂ => r = .none ∧ ∃ h' tk c, s₂ = { s with heap := h', toks := tk } ∧ SetR w h' s.heap.objs.size (fun j => decide (j ∈ ns)) c ∧ c ≤ ns.length ∧
          (∀ b o, s.heap.get? b = some o → h'.get? b = some o)) E) F.called_set.init.plain F.entry_set_init (check_set_init_1 hT ?_)) fun r₂ s₂ hr₂ => ?_
      · obtain ⟨ol, hol, hcl, nl, hdl⟩ := hl
        obtain ⟨ocls, odict, odata, oslots⟩ := ol
        simp only at hcl hdl
        subst hcl; subst hdl
        have hol' : (s.heap.push { cls := .type "set", dict := none, data := .set #[] 0 (.fresh 0 0 (!w.params.followText "set-order")) }).get? l = some { cls := .type "list", dict := odict, data := .seq items nl, slots := oslots } := Heap.get?_push_of_some _ hol
        have hsls := F.sub_list_set
        have hslf := F.sub_list_frozenset
        have hne : (Value.type "list" == Value.type "dict") = false := by decide
        have hl1 : (s.heap.push { cls := .type "set", dict := none, data := .set #[] 0 (.fresh 0 0 (!w.params.followText "set-order")) }).IsList l items := ⟨_, hol', rfl, nl, rfl⟩
        unfold Builtin.«set.__init__» noKeywords Builtin.Frozenset.updateFrom
        generalize hPI : pyIter = PI
        wp_walk
        subst hPI

        refine wpAny_pyIter_list hl1 ?_
        refine wpAny_bind (wpAny_runValue ?_)
        have hlS : l < s.heap.objs.size := Heap.lt_size hol
        have hh3 : A.in1.in1.in1.handled = none := by simp [hh]
        have hz1 : (s.heap.push { cls := .type "set", dict := none, data := .set #[] 0 (.fresh 0 0 (!w.params.followText "set-order")) }).objs.size = s.heap.objs.size + 1 := Heap.size_push ..
        have hneI : l ≠ (s.heap.push { cls := .type "set", dict := none, data := .set #[] 0 (.fresh 0 0 (!w.params.followText "set-order")) }).objs.size := by
          rw [Heap.size_push]; exact Nat.ne_of_lt (Nat.lt_succ_of_lt hlS)
        have hSf : s.heap.objs.size ∉ [(s.heap.push { cls := .type "set", dict := none, data := .set #[] 0 (.fresh 0 0 (!w.params.followText "set-order")) }).objs.size, l] := by
          rw [Heap.size_push]; simp only [List.mem_cons, List.mem_singleton, List.not_mem_nil, or_false, not_or]
          exact ⟨Nat.ne_of_lt (Nat.lt_succ_self _), Nat.ne_of_gt hlS⟩
        have hval : ∀ (i : Nat) (v : Value), items[i]? = some v → ∃ k t, ns[i]? = some k ∧ v = .int k t := fun i v hv => by
          have hi : i < ns.length := by rw [← hisz]; exact (Array.getElem?_eq_some_iff.mp hv).1
          obtain ⟨t, e⟩ := PyProof.Rows.IntsAre.int_at hit i v (by rw [Array.getElem?_toList]; exact hv)
          refine ⟨ns[i], t, List.getElem?_eq_getElem hi, ?_⟩
          rw [e, List.getD_eq_getElem?_getD, List.getElem?_eq_getElem hi] <;> rfl
        refine set_update_ints ((Walks.list hh3 _ l hneI items).toS) s.heap.objs.size
          hSf ns hisz hb hval (items.size - 0) 0 _ (by omega) (Nat.zero_le _)
          ⟨⟨_, Heap.get?_push_size _ rfl, rfl, rfl⟩, (hl1.push _)⟩ ?hS0 ?hR
        case hS0 =>
          have hget : ((s.heap.push { cls := .type "set", dict := none, data := .set #[] 0 (.fresh 0 0 (!w.params.followText "set-order")) }).push { cls := .type "list_iterator", data := .fields #[.ref l, .int 0 0] }).get? s.heap.objs.size
              = some { cls := .type "set", dict := none, data := .set #[] 0 (.fresh 0 0 (!w.params.followText "set-order")) } := Heap.get?_push_of_some _ hS
          exact ⟨0, Nat.le_refl 0, setR_new_at hget⟩
        case hR =>
          intro s' c' hm hc' hS'
          obtain ⟨h', g2, d', tk', os'⟩ := s'
          have eg : g2 = s.gens := hm.gens
          have ed : d' = s.drawn := hm.drawn
          have eo : os' = s.os := hm.os
          subst eg; subst ed; subst eo
          show wpAny _ _ _ _ _ _
          refine wpAny_pure ?_
          show wpAny _ _ (ret Value.none) _ _ _
          rw [hisz] at hc'
          refine wpAny_pure ⟨rfl, h', tk', c', rfl, hS', hc', fun b o e => ?_⟩
          have hb0 : b < s.heap.objs.size := Heap.lt_size e
          have hb1 : b ≠ s.heap.objs.size := Nat.ne_of_lt hb0
          have hb2 : b ≠ (s.heap.push { cls := .type "set", dict := none, data := .set #[] 0 (.fresh 0 0 (!w.params.followText "set-order")) }).objs.size := by
            rw [Heap.size_push]; exact Nat.ne_of_lt (Nat.lt_succ_of_lt hb0)
          exact hm.heap b o (by simp only [List.mem_cons, List.mem_singleton, List.not_mem_nil, or_false, not_or]; exact ⟨hb1, hb2⟩) (Heap.get?_push_of_some _ (Heap.get?_push_of_some _ e))

      · cases r₂ with
        | error e => exact hr₂
        | ok fl₂ =>
          cases fl₂ with
          | ret r =>
            obtain ⟨rfl, h', tk, c', rfl, hS', hc', hk'⟩ := hr₂
            repeat (any_goals (first | assumption | wp_step))
            exact h _ _ _ hS' hc' hk'
          | _ => exact hr₂.elim
    | _ => exact hr.elim

end
end L2
namespace Ed
open PySem L2
def rSetL (K : PySem.W.Frag) (w : World) : List V → Hp → VK → Prop := fun vs H Q => ∃ (a : Addr) (ns : List Int), vs = [.ref a] ∧ SqL K H a (ns.map V.int) ∧ ns.length ≤ 60 ∧ ∀ p c, c ≤ ns.length → H p = none → Q (.ref p) (upd H p (SetO w p (fun j => decide (j ∈ ns)) c))
theorem cr_setL {X : Cx} (hc : X.calm = true) : CallR X (.type "set") (rSetL X.K X.w) := by
  intro pins s σ H vs us Q I r h
  obtain ⟨a, ns, rfl, hs, h60, q⟩ := h
  obtain ⟨its, rv, hl, _⟩ := I.list hs
  rw [Vals.ref1 r]
  refine call_set_listI ns (I.ok.hd hc) hl.isList (by simpa using rv.ints) (Nat.lt_of_le_of_lt (show ns.length + 1 ≤ 61 by omega) (by decide)) fun h' tk c R hcc hk => ?_
  exact ⟨.ref _, upd H s.heap.objs.size (SetO X.w s.heap.objs.size (fun j => decide (j ∈ ns)) c), I.laid (t' := tk) hk (Nat.le_refl _) (setO_new R), rfl, q _ c hcc (I.hok.fresh (Nat.le_refl _))⟩
section
variable {α : Type} {K : PySem.W.Frag} {w : World} {dr : Option Addr} {δ : List Sd} {te tl : TE} {ns : List Int}
/-- sorted(set(a list of ints)) -/
theorem en_sortSet (h : Ev dr te δ (.l (ns.map PyData.int))) (hl : ns.length ≤ 60) : EvNS dr (tCB (rSortedSet w) (tCons (tCB (rSetL K w) (tCons te tNil)) tNil)) δ (fun ds => ∃ ms : List Int, ds = ms.map PyData.int ∧ ms.Pairwise (· < ·) ∧ ∀ k, k ∈ ms ↔ k ∈ ns) := fun σ H s j Q q =>
  h σ H s j _ fun v H1 e1 h1 => by
    obtain ⟨a, ws, rfl, n, g1, g2⟩ := h1
    cases g2.ints_eq
    refine ⟨a, ns, rfl, SqL.of g1, hl, fun p c hc hp => ?_⟩
    refine ⟨p, _, c, rfl, upd_same, by omega, fun ms p2 hpw hm hml hp2 => ?_⟩
    have e2 : Ext dr H1 (upd H1 p (SetO w p (fun j => decide (j ∈ ns)) c)) := Ext.new e1.jd hp
    have e3 : Ext dr (upd H1 p (SetO w p (fun j => decide (j ∈ ns)) c)) (upd (upd H1 p (SetO w p (fun j => decide (j ∈ ns)) c)) p2 (.lst (ms.map V.int))) := Ext.new e2.jd hp2
    have e := (e1.trans e2)
    exact q p2 _ _ _ (e.back j hp2) (e.trans e3) upd_same (DTs.ints ms) ⟨ms, rfl, hpw, fun k => by rw [hm k]; simp⟩
/-- [a new list for x in a tuple] -/
theorem ev_lcTL {j : Nat} {vs : List Nat} (xs : List α) (enc : α → PyData) (g : α → List PyData) (hl : Ev dr tl δ (.d (.tuple (xs.map enc)))) (hz : xs.length < 1000000) (hj : j ∈ vs)
    (he : ∀ a, a ∈ xs → EvN dr te ((wipeD δ vs).set j (.d (enc a))) (g a)) : Ev dr (tLc (iTup K tl) (gName j) tYes te vs) δ (.ll (xs.map g)) := fun σ H s jd Q q =>
  hl σ H s jd _ fun v H1 e1 h1 => by
    obtain ⟨a, ws, rfl, g1, g2⟩ := tup_of h1
    refine ⟨a, rfl, ⟨ws, SqT.of g1⟩, fun D hD => ?_⟩
    have nD : dr ≠ some D := e1.jd.ne hD
    refine lc_tup (xs := ws) (fun i H' => Ext dr H1 H' ∧ ∃ acc, H' D = some (.lst acc) ∧ IsLs dr H' acc ((xs.take i).map g) ∧ ∀ v ∈ acc, v ≠ .ref D) ⟨Ext.new e1.jd hD, [], upd_same, by simp; trivial, by simp⟩ (fun i H' _ p => SqT.of (p.1.tx e1.jd _ _ g1)) (fun i x H' hi p => ?_) (fun H' p => ?_)
    · obtain ⟨e, acc, hacc, hls, hne⟩ := p
      obtain ⟨d', hd', hx⟩ := g2.getV hi
      rw [List.getElem?_map] at hd'
      obtain ⟨a', ha', rfl⟩ := Option.map_eq_some_iff.mp hd'
      refine ⟨wipe_set hj _, ?_⟩
      have hS : Sl dr H' ((wipe σ vs).set j (some x)) ((wipeD δ vs).set j (.d (enc a'))) := Sl.set ((s.ext (e1.trans e) jd).wipe) ⟨x, rfl, hx.tx (e.tx e1.jd)⟩
      dsimp only [tYes]
      rw [if_pos rfl]
      refine he a' (List.mem_of_getElem? ha') _ H' hS e.jd _ fun p qs H4 hp e4 h4 h5 => ?_
      have hD4 : H4 D = some (.lst acc) := e4.rel _ _ nD hacc
      have hpD : p ≠ D := fun z => by rw [z, hacc] at hp; cases hp
      have hll : acc.length ≤ xs.length := by
        rw [isLs_len hls, List.length_map, List.length_take]; omega
      refine ⟨acc, hD4, small.lt (by omega), ⟨(e.rel.trans e4.rel).mut hD, e4.jd.upd nD⟩, acc ++ [.ref p], upd_same, ?_, fun v hv => ?_⟩
      · have t : Tx H4 (upd H4 D (.lst (acc ++ [.ref p]))) := Tx.upd fun xs z => by rw [hD4] at z; cases z
        have k1 : ∀ {vs : List V} {ls : List (List PyData)}, IsLs dr H4 vs ls → (∀ v ∈ vs, v ≠ .ref D) → IsLs dr (upd H4 D (.lst (acc ++ [.ref p]))) vs ls := by
          intro vs
          induction vs with
          | nil => intro ls h _; cases ls with
            | nil => trivial
            | cons _ _ => exact h.elim
          | cons v vs ih => intro ls h hn; cases ls with
            | nil => exact h.elim
            | cons l ls =>
              obtain ⟨q', xs', e1, n', h1, h2⟩ := h.1
              refine ⟨⟨q', xs', e1, n', ?_, h2.tx t⟩, ih h.2 fun v hv => hn v (List.mem_cons_of_mem _ hv)⟩
              rw [upd_ne (fun z => hn v List.mem_cons_self (by rw [e1, z]))]; exact h1
        rw [take_succ' ha', List.map_append]
        refine isLs_app (k1 (hls.ext e4 e.jd) hne) ⟨⟨p, qs, rfl, e.jd.ne hp, ?_, h5.tx t⟩, trivial⟩
        rw [upd_ne hpD]; exact h4
      · rcases List.mem_append.mp hv with h | h
        · exact hne v h
        · rw [List.mem_singleton.mp h]
          intro z; cases z; exact hpD rfl
    · obtain ⟨e, acc, hacc, hls, hne⟩ := p
      have hl : ws.length = xs.length := by rw [g2.length, List.length_map]
      rw [hl, List.take_length] at hls
      exact q _ H' (e1.trans e) ⟨D, acc, rfl, nD, hacc, hls⟩
theorem rc_sumL {ls : List (List PyData)} (hl : ls.flatten.length ≤ 1000000) : RC dr (rSumL K) [.ll ls, .l []] (.l ls.flatten) := fun vs H h jd Q q => by
  obtain ⟨v, w, rfl, g1, g2⟩ := oks2 h
  obtain ⟨a, xs, rfl, n, h1, h2⟩ := g1
  obtain ⟨t, ts, rfl, nt, h3, h4⟩ := g2
  cases h4
  have conv : ∀ {vs : List V} {ls : List (List PyData)}, IsLs dr H vs ls → ∃ (ps : List Addr) (ws : List (List V)), vs = ps.map V.ref ∧ Paired (fun p xs => H p = some (.lst xs)) ps ws ∧ DTs H ws.flatten ls.flatten ∧ ws.length = ls.length := by
    intro vs
    induction vs with
    | nil => intro ls h; cases ls with
      | nil => exact ⟨[], [], rfl, .nil, .nil, rfl⟩
      | cons _ _ => exact h.elim
    | cons v vs ih => intro ls h; cases ls with
      | nil => exact h.elim
      | cons l ls =>
        obtain ⟨p, xs, rfl, _, k1, k2⟩ := h.1
        obtain ⟨ps, ws, rfl, k3, k4, k5⟩ := ih h.2
        exact ⟨p :: ps, xs :: ws, rfl, .cons k1 k3, by rw [List.flatten_cons, List.flatten_cons]; exact k2.append k4, by simp [k5]⟩
  obtain ⟨ps, ws, rfl, k3, k4, k5⟩ := conv h2
  refine ⟨a, t, ps, ws, rfl, SqL.of h1, k3, h3, by rw [k4.length]; exact hl, fun e => ?_, fun _ d hd => ?_⟩
  · subst e
    have : ls = [] := by cases ls with
      | nil => rfl
      | cons _ _ => simp at k5
    subst this
    exact q _ H (Ext.refl jd) ⟨t, [], rfl, nt, h3, .nil⟩
  · have e : Ext dr H (upd H d (.lst ws.flatten)) := Ext.new jd hd
    exact q _ _ e ⟨d, _, rfl, jd.ne hd, upd_same, k4.tx (e.tx jd)⟩
end
end Ed
end
section
set_option maxHeartbeats 4000000
namespace Ed
open PySem L2
local macro_rules | `(tactic| nested_key) => `(tactic| first
  | rfl
  | assumption
  | omega
  | exact Nat.le_of_ble_eq_true rfl
  | decide
  | (simp only [List.length_map, small]; omega)
  | (simp [small]; done)
  | (simp only [Vd.sd, setAll, List.set, mutAll, okm, Fr] at *; simp_all; done))

/-! plain helps -/
section
variable {α : Type} [DecidableEq α]
theorem nodup_len : ∀ {l m : List α}, l.Nodup → (∀ x ∈ l, x ∈ m) → l.length ≤ m.length
  | [], _, _, _ => Nat.zero_le _
  | x :: l, m, h, s => by
    rw [List.nodup_cons] at h
    have hx := s x List.mem_cons_self
    have h1 := nodup_len (l := l) (m := m.erase x) h.2 fun y hy => (List.mem_erase_of_ne (fun e => h.1 (by rw [← e]; exact hy))).mpr (s y (List.mem_cons_of_mem _ hy))
    rw [List.length_erase_of_mem hx] at h1
    have := List.length_pos_of_mem hx
    simp only [List.length_cons]
    omega
theorem cutD_take {ds : List α} {n : Int} (h : 0 ≤ n) : cutD ds none (some n) = ds.take n.toNat := by
  unfold cutD
  have e : n = (n.toNat : Int) := by omega
  rw [HT.sIx_none, e, HT.sIx_nat, List.drop_zero, Nat.sub_zero]
  rw [show (((n.toNat : Int)).toNat) = n.toNat by omega]
  rw [List.take_eq_take_iff]
  omega
end
theorem cutD_takeM {α β : Type} {f : α → β} {xs : List α} {n : Int} (h : 0 ≤ n) : cutD (xs.map f) none (some n) = (xs.take n.toNat).map f := by
  unfold cutD
  have e : n = (n.toNat : Int) := by omega
  rw [HT.sIx_none, e, HT.sIx_nat, List.drop_zero, Nat.sub_zero]
  rw [show (((n.toNat : Int)).toNat) = n.toNat by omega, List.map_take, List.take_eq_take_iff]
  omega
theorem mem_ends : ∀ {ps : List (Int × Int)} {acc : List Int} {i : Int}, i ∈ ps.foldl endStep acc ↔ i ∈ acc ∨ ∃ p ∈ ps, i = p.1 ∨ i = p.2
  | [], acc, i => by simp
  | p :: ps, acc, i => by
    rw [List.foldl_cons, mem_ends]
    unfold endStep
    simp only [List.mem_append, List.mem_filter, List.mem_cons, List.not_mem_nil, or_false, Bool.not_eq_true', decide_eq_false_iff_not, exists_eq_or_imp]
    constructor
    · rintro ((h | ⟨h, _⟩) | h)
      · exact .inl h
      · exact .inr (.inl h)
      · exact .inr (.inr h)
    · rintro (h | h | h)
      · exact .inl (.inl h)
      · by_cases q : i ∈ acc
        · exact .inl (.inl q)
        · exact .inl (.inr ⟨h, q⟩)
      · exact .inr h
theorem mem_endsOf {ps : List (Int × Int)} {i : Int} : i ∈ endsOf ps ↔ ∃ p ∈ ps, i = p.1 ∨ i = p.2 := by
  unfold endsOf
  rw [mem_ends]; simp
def flatE (ps : List (Int × Int)) : List Int := (ps.map fun p => [p.1, p.2]).flatten
theorem mem_flatE {ps : List (Int × Int)} {i : Int} : i ∈ flatE ps ↔ i ∈ endsOf ps := by
  rw [mem_endsOf]
  unfold flatE
  simp only [List.mem_flatten, List.mem_map]
  constructor
  · rintro ⟨l, ⟨p, hp, rfl⟩, h⟩
    exact ⟨p, hp, by simpa using h⟩
  · rintro ⟨p, hp, h⟩
    exact ⟨_, ⟨p, hp, rfl⟩, by simpa using h⟩
theorem flatE_len (ps : List (Int × Int)) : (flatE ps).length = 2 * ps.length := by
  unfold flatE
  induction ps with
  | nil => rfl
  | cons p ps ih => simp only [List.map_cons, List.flatten_cons, List.length_append, ih, List.length_cons, List.length_nil]; omega
theorem flatE_map (ps : List (Int × Int)) : (ps.map fun p => [PyData.int p.1, PyData.int p.2]).flatten = (flatE ps).map PyData.int := by
  unfold flatE
  induction ps with
  | nil => rfl
  | cons p ps ih => simp only [List.map_cons, List.flatten_cons, List.map_append, ih, List.map_nil]
theorem ends_rng {t : Task} (ht : TaskL t) {i : Int} (h : i ∈ endsOf t.tied) : 0 ≤ i ∧ i ≤ 5 := by
  obtain ⟨p, hp, e⟩ := mem_endsOf.mp h
  have h1 := (rise_to (ht.ok.tied.2.1 p hp)).1
  have hf := ht.few
  have a := h1 p.1 (by simp)
  have b := h1 p.2 (by simp)
  rcases e with rfl | rfl <;> omega
section
variable {P : Program} {w : World} {K : PySem.W.Frag} {mg : Str → Option Value} {base : Heap} {dr : Option Addr} {δ : List Sd} {ta : TA} {te : TE}
def standZ (t : Task) : PyData → Prop := fun e => ∃ s, StandOk t s ∧ e = s.enc
def q__law_made_up : List Vd → Vd → Prop := fun a z => ∃ t : Task, TaskL t ∧ a = [.g drV, .d t.enc] ∧ z = .g (anyV (standZ t))
abbrev sp__law_made_up : Sp := spP q__law_made_up
theorem e__law_made_up {ta : TA} {t : Task} (h : EvA dr ta δ [.g drV, .d t.enc]) (ht : TaskL t) : Ev dr (tCall sp__law_made_up [] C8.E0 ta) δ (.g (anyV (standZ t))) := ev_call h ⟨t, ht, rfl, rfl⟩
abbrev s__law_made_up : Stmt := Hd.top 73
abbrev N__law_made_up : List Str := ["_law_draws_here", "_law_task_here", "_law_numbers", "_law_hands", "_law_off_here", "_law_long_here", "_law_tied_here", "_law_phase", "_law_waits", "_law_number", "_law_draw", "_law_ends", "_law_busy", "_law_last", "_law_others", "_law_pair", "_law_i"]
theorem nd__law_made_up : N__law_made_up.Nodup := by decide +kernel
theorem sc__law_made_up : C8.scC N__law_made_up ["_law_draws_here", "_law_task_here"] (C8.fnScope s__law_made_up) = true := by decide +kernel
def t__law_made_up (P : Program) (w : World) (K : PySem.W.Frag) : TS :=
  (tSeq (tAsg (tVar 1) (gTup K 5 (unp [2, 3, 4, 5, 6])))
  (tSeq (tAsg (tOp oMod (tCall sp__law_next [] C8.E0 (tCons (tVar 0) tNil)) (tCB (rLen K) (tCons (tVar 4) tNil))) (gName 7))
  (tSeq (tAsg (tLst tNil) (gName 8))
  (tSeq (tFor (iTup K (tVar 2)) (gName 9) (tSeq (tAsg (tCall sp__law_next [] C8.E0 (tCons (tVar 0) tNil)) (gName 10))
  (tSeq (tDrop (tBM K "list" rAppend (tVar 8) (tCons (tOp (rIxL K) (tLst (tCons (tOp oAdd (tC (.int 1)) (tOp oMod (tOp oDiv (tVar 10) (tC (.int 4))) (tVar 9))) (tCons (tVar 9) (tCons (tC (.int 1)) (tCons (tCB rMax2 (tCons (tC (.int 1)) (tCons (tOp oSub (tVar 9) (tC (.int 1))) tNil))) tNil))))) (tOp oMod (tVar 10) (tC (.int 4)))) tNil)))
  tNext)))
  (tSeq (tAsg (tCB (rSortedSet w) (tCons (tCB (rSetL K w) (tCons (tCB (rSumL K) (tCons (tLc (iTup K (tVar 6)) (gName 15) tYes (tCB (rLstOf K) (tCons (tVar 15) tNil)) [15]) (tCons (tLst tNil) tNil))) tNil)) tNil)) (gName 11))
  (tSeq (tAsg (tSl (rSlL K) (tLc (iTup K (tVar 5)) (gName 16) (tTest (tOp rEq (tOp oMod (tCall sp__law_next [] C8.E0 (tCons (tVar 0) tNil)) (tC (.int 3))) (tC (.int 0)))) (tVar 16) [16]) tNoPart (tPart (tVar 3))) (gName 12))
  (tSeq (tAsg (tLc (iList K (tVar 11)) (gName 16) (tTest (tOp (rIn K false) (tVar 16) (tVar 12))) (tVar 16) [16]) (gName 13))
  (tSeq (tAsg (tLc (iList K (tVar 11)) (gName 16) (tAnd (tTest (tOp (rIn K true) (tVar 16) (tVar 12))) (tTest (tOp rEq (tOp oMod (tCall sp__law_next [] C8.E0 (tCons (tVar 0) tNil)) (tC (.int 3))) (tC (.int 0))))) (tVar 16) [16]) (gName 14))
  (tSeq (tAsg (tCB (rSorted K) (tCons (tOp rCat (tVar 13) (tSl (rSlL K) (tVar 14) tNoPart (tPart (tOp oSub (tVar 3) (tCB (rLen K) (tCons (tVar 12) tNil)))))) tNil)) (gName 13))
  (tSeq (tRet (tTup (tCons (tVar 7) (tCons (tCB (rTupOf K) (tCons (tVar 8) tNil)) (tCons (tCB (rTupOf K) (tCons (tVar 12) tNil)) (tCons (tCB (rTupOf K) (tCons (tVar 13) tNil)) tNil))))))
  tNext))))))))))
theorem d__law_made_up {P : Program} {w : World} {K : PySem.W.Frag} {mg : Str → Option Value} {base : Heap} (T : Top K mg) (f : Addr) (cdv : Value) (A : Around) (outer : List Env) (s : Shared) (H : Hp) (E : XK)
    (hr : Room 1 (A.deeper (PyProof.Rows.envOfC "_law_made_up" (C8.fnScope s__law_made_up) s.heap.objs.size f cdv))) :
    PSs (cxOf C8.CX0 P w K mg base N__law_made_up "_law_made_up" (C8.fnScope s__law_made_up) f cdv A outer s H E).nox (C8.fnBody s__law_made_up) (t__law_made_up P w K) :=
  (pss_cons (ps_asg (pv 1) (pg_tup (by rfl) (pgs_cons (pg_name (i := 2) nd__law_made_up rfl (by first | exact Or.inl rfl | exact Or.inr rfl)) (pgs_cons (pg_name (i := 3) nd__law_made_up rfl (by first | exact Or.inl rfl | exact Or.inr rfl)) (pgs_cons (pg_name (i := 4) nd__law_made_up rfl (by first | exact Or.inl rfl | exact Or.inr rfl)) (pgs_cons (pg_name (i := 5) nd__law_made_up rfl (by first | exact Or.inl rfl | exact Or.inr rfl)) (pgs_cons (pg_name (i := 6) nd__law_made_up rfl (by first | exact Or.inl rfl | exact Or.inr rfl)) pgs_nil)))))))
  (pss_cons (ps_set (i := 7) nd__law_made_up rfl (by first | exact Or.inl rfl | exact Or.inr rfl) (pe_op op_mod (C8.pe_c (c__law_next T) hr (by decide) rfl (pa_cons (pv 0) pa_nil)) (pe_callB cr_len (by rfl) T.n_len bt_len (pa_cons (pv 4) pa_nil))))
  (pss_cons (ps_set (i := 8) nd__law_made_up rfl (by first | exact Or.inl rfl | exact Or.inr rfl) (pe_lst pa_nil))
  (pss_cons (ps_for PassesOwn.never rfl (pi_tup (pv 2)) (pg_name (i := 9) nd__law_made_up rfl (by first | exact Or.inl rfl | exact Or.inr rfl)) (pss_cons (ps_set (i := 10) nd__law_made_up rfl (by first | exact Or.inl rfl | exact Or.inr rfl) (C8.pe_c (c__law_next T) hr (by decide) rfl (pa_cons (pv 0) pa_nil)))
  (pss_cons (ps_expr (pe_bm PySem.F.plainAttrs_list PySem.F.slot_list_append PySem.F.type_list_append mt_append (pv 8) (pa_cons (pe_ix ix_list (pe_lst (pa_cons (pe_op op_add pe_int (pe_op op_mod (pe_op op_fdiv (pv 10) pe_int) (pv 9))) (pa_cons (pv 9) (pa_cons pe_int (pa_cons (pe_callB (cr_max2 rfl) (by rfl) T.n_max bt_max (pa_cons pe_int (pa_cons (pe_op op_sub (pv 9) pe_int) pa_nil))) pa_nil))))) (pe_op op_mod (pv 10) pe_int) (fun _ _ => rfl)) pa_nil)))
  pss_nil)))
  (pss_cons (ps_set (i := 11) nd__law_made_up rfl (by first | exact Or.inl rfl | exact Or.inr rfl) (pe_callB (cr_sortedSet rfl) (by rfl) T.n_sorted bt_sorted (pa_cons (pe_callTy (cr_setL rfl) (by rfl) T.n_set bt_set (pa_cons (pe_callB (cr_sumL rfl) (by rfl) T.n_sum bt_sum (pa_cons (pe_lc (own := [("_law_pair", 15)]) (g := gName 15) rfl nd__law_made_up (pi_tup (pv 6)) (blkOk_by (N := N__law_made_up) (sc := C8.fnScope s__law_made_up) (by decide +kernel)) (fun _ _ _ _ _ => pg_name (i := 15) nd__law_made_up rfl (by first | exact Or.inl rfl | exact Or.inr rfl)) (fun _ _ _ _ _ => pts_nil) (fun _ _ _ _ _ => (pe_callTy cr_list (by rfl) T.n_list bt_list (pa_cons (pv 15) pa_nil)))) (pa_cons (pe_lst pa_nil) pa_nil))) pa_nil)) pa_nil)))
  (pss_cons (ps_set (i := 12) nd__law_made_up rfl (by first | exact Or.inl rfl | exact Or.inr rfl) (pe_slice sl_list (pe_lc (own := [("_law_i", 16)]) (g := gName 16) rfl nd__law_made_up (pi_tup (pv 5)) (blkOk_by (N := N__law_made_up) (sc := C8.fnScope s__law_made_up) (by decide +kernel)) (fun _ _ _ _ _ => pg_name (i := 16) nd__law_made_up rfl (by first | exact Or.inl rfl | exact Or.inr rfl)) (fun _ _ _ _ _ => pts_one (pt_cmpR op_eq (pe_op op_mod (C8.pe_c (c__law_next T) hr (by decide) rfl (pa_cons (pv 0) pa_nil)) pe_int) pe_int (nomark _))) (fun _ _ _ _ _ => (pv 16))) po_none (po_some (pv 3))))
  (pss_cons (by first | exact ps_setLc (i := 13) (own := [("_law_i", 16)]) (g := gName 16) rfl nd__law_made_up rfl rfl (sw_true rfl rfl rfl (by decide +kernel)) (pi_list (pv 11)) (blkOk_by (N := N__law_made_up) (sc := C8.fnScope s__law_made_up) (by decide +kernel)) (fun _ _ _ _ _ => pg_name (i := 16) nd__law_made_up rfl (by first | exact Or.inl rfl | exact Or.inr rfl)) (fun _ _ _ _ _ => pts_one (pt_cmpR op_in_seq (pv 16) (pv 12) (by rfl))) (fun _ _ _ _ _ => (pv 16)) | exact ps_set (i := 13) nd__law_made_up rfl (by first | exact Or.inl rfl | exact Or.inr rfl) (pe_lc (own := [("_law_i", 16)]) (g := gName 16) rfl nd__law_made_up (pi_list (pv 11)) (blkOk_by (N := N__law_made_up) (sc := C8.fnScope s__law_made_up) (by decide +kernel)) (fun _ _ _ _ _ => pg_name (i := 16) nd__law_made_up rfl (by first | exact Or.inl rfl | exact Or.inr rfl)) (fun _ _ _ _ _ => pts_one (pt_cmpR op_in_seq (pv 16) (pv 12) (by rfl))) (fun _ _ _ _ _ => (pv 16))))
  (pss_cons (by first | exact ps_setLc (i := 14) (own := [("_law_i", 16)]) (g := gName 16) rfl nd__law_made_up rfl rfl (sw_true rfl rfl rfl (by decide +kernel)) (pi_list (pv 11)) (blkOk_by (N := N__law_made_up) (sc := C8.fnScope s__law_made_up) (by decide +kernel)) (fun _ _ _ _ _ => pg_name (i := 16) nd__law_made_up rfl (by first | exact Or.inl rfl | exact Or.inr rfl)) (fun _ _ _ _ _ => pts_one (PW.pt (pw_and (pt_cmpR op_notIn_seq (pv 16) (pv 12) (by rfl)) (pw_and1 (pt_cmpR op_eq (pe_op op_mod (C8.pe_c (c__law_next T) hr (by decide) rfl (pa_cons (pv 0) pa_nil)) pe_int) pe_int (nomark _)))))) (fun _ _ _ _ _ => (pv 16)) | exact ps_set (i := 14) nd__law_made_up rfl (by first | exact Or.inl rfl | exact Or.inr rfl) (pe_lc (own := [("_law_i", 16)]) (g := gName 16) rfl nd__law_made_up (pi_list (pv 11)) (blkOk_by (N := N__law_made_up) (sc := C8.fnScope s__law_made_up) (by decide +kernel)) (fun _ _ _ _ _ => pg_name (i := 16) nd__law_made_up rfl (by first | exact Or.inl rfl | exact Or.inr rfl)) (fun _ _ _ _ _ => pts_one (PW.pt (pw_and (pt_cmpR op_notIn_seq (pv 16) (pv 12) (by rfl)) (pw_and1 (pt_cmpR op_eq (pe_op op_mod (C8.pe_c (c__law_next T) hr (by decide) rfl (pa_cons (pv 0) pa_nil)) pe_int) pe_int (nomark _)))))) (fun _ _ _ _ _ => (pv 16))))
  (pss_cons (ps_set (i := 13) nd__law_made_up rfl (by first | exact Or.inl rfl | exact Or.inr rfl) (pe_callB cr_sorted (by rfl) T.n_sorted bt_sorted (pa_cons (pe_op op_cat (pv 13) (pe_slice sl_list (pv 14) po_none (po_some (pe_op op_sub (pv 3) (pe_callB cr_len (by rfl) T.n_len bt_len (pa_cons (pv 12) pa_nil)))))) pa_nil)))
  (pss_cons (ps_ret (pe_tup (pa_cons (pv 7) (pa_cons (pe_callTy cr_tuple (by rfl) T.n_tuple bt_tuple (pa_cons (pv 8) pa_nil)) (pa_cons (pe_callTy cr_tuple (by rfl) T.n_tuple bt_tuple (pa_cons (pv 12) pa_nil)) (pa_cons (pe_callTy cr_tuple (by rfl) T.n_tuple bt_tuple (pa_cons (pv 13) pa_nil)) pa_nil))))))
  pss_nil))))))))))
theorem en_sorted {ns : List Int} (hl : ns.length < 64) (h : Ev dr te δ (.l (ns.map PyData.int))) : EvNS dr (tCB (rSorted K) (tCons te tNil)) δ (fun ds => ∃ ms : List Int, ds = ms.map PyData.int ∧ ms.Perm ns ∧ ms.Pairwise (· ≤ ·)) := fun σ H s j Q q =>
  rcn_sorted hl h σ H s j Q fun p ms H2 hp e hm hs h2 => q p _ _ H2 hp e h2 (DTs.ints ms) ⟨ms, rfl, hm, hs⟩
theorem made_ok {t : Task} (ht : TaskL t) {ph : Int} (h0 : 0 ≤ ph) (h1 : ph < t.off.length) {ws bs ends oth ms : List Int} (hwl : ws.length = t.num.length) (hws : ∀ (i : Nat) (x n : Int), ws[i]? = some x → t.num[i]? = some n → 1 ≤ x ∧ x ≤ n)
    (hbs : bs.Sublist t.long) (hbl : (bs.length : Int) ≤ t.hands) (hep : ends.Pairwise (· < ·)) (hem : ∀ k, k ∈ ends ↔ k ∈ flatE t.tied) (hos : oth.Sublist ends) (hob : ∀ i ∈ oth, i ∉ bs) (hol : (oth.length : Int) ≤ t.hands - bs.length)
    (hm : ms.Perm (ends.filter (fun i => decide (i ∈ bs)) ++ oth)) (hms : ms.Pairwise (· ≤ ·)) : StandOk t ⟨ph, ws, bs, ms⟩ := by
  have hf := ht.few
  obtain ⟨hlr, hlp⟩ := rise_to ht.ok.long
  have hbp : bs.Pairwise (· < ·) := hlp.sublist hbs
  have lt_nd : ∀ {l : List Int}, l.Pairwise (· < ·) → l.Nodup := fun h => List.nodup_iff_pairwise_ne.mpr (h.imp fun h e => by omega)
  have hme : ∀ i ∈ ms, i ∈ endsOf t.tied := fun i hi => by
    rw [← mem_flatE, ← hem]
    rcases List.mem_append.mp (hm.mem_iff.mp hi) with h | h
    · exact (List.mem_filter.mp h).1
    · exact hos.subset h
  have hnd : (ends.filter (fun i => decide (i ∈ bs)) ++ oth).Nodup := by
    rw [List.nodup_append]
    refine ⟨(lt_nd hep).filter _, (lt_nd hep).sublist hos, fun a ha b hb e => ?_⟩
    subst e
    exact hob a hb (by simpa using (List.mem_filter.mp ha).2)
  have hmn : ms.Nodup := hm.nodup_iff.mpr hnd
  have hfl : (ends.filter (fun i => decide (i ∈ bs))).length ≤ bs.length := nodup_len ((lt_nd hep).filter _) fun x hx => by simpa using (List.mem_filter.mp hx).2
  have hmlen := hm.length_eq
  rw [List.length_append] at hmlen
  refine ⟨h0, h1, hwl, hws, ?_, hbl, fun i hi => hbs.subset hi, ?_, ?_, hme, ?_, fun i hi hie => ?_⟩
  · exact rise_of (fun x hx => by have := hlr x (hbs.subset hx); omega) hbp
  · refine rise_of (fun x hx => by have := ends_rng ht (hme x hx); omega) ((hms.and (List.nodup_iff_pairwise_ne.mp hmn)).imp fun h => by omega)
  · show (ms.length : Int) ≤ t.hands
    omega
  · show ((bs.length + (ms.filter fun i => !decide (i ∈ bs)).length : Nat) : Int) ≤ t.hands
    have e := (hm.filter fun i => !decide (i ∈ bs)).length_eq
    rw [List.filter_append, List.length_append] at e
    have e1 : (ends.filter (fun i => decide (i ∈ bs))).filter (fun i => !decide (i ∈ bs)) = [] := by
      rw [List.filter_filter, List.filter_eq_nil_iff]
      intro a _; simp
    have e2 := List.length_filter_le (fun i => !decide (i ∈ bs)) oth
    rw [e1] at e
    simp only [List.length_nil] at e
    omega
  · show i ∈ ms
    refine hm.mem_iff.mpr (List.mem_append_left _ (List.mem_filter.mpr ⟨(hem i).mpr (mem_flatE.mpr hie), by simpa using hi⟩))
theorem c__law_made_up (T : Top K mg) : C8.Cal P w K mg base 2 "_law_made_up" sp__law_made_up [] := by
  refine cal_of T.f__law_made_up sc__law_made_up (t__law_made_up P w K) (fun zs z h => ?_) (fun f cdv A outer s H E hr => d__law_made_up T f cdv A outer s H E hr) (fun dr B E zs z hp hB hR hN => ?_)
  · obtain ⟨_, _, rfl, _⟩ := h; rfl
  obtain ⟨t, ht, rfl, rfl⟩ := hp
  have hf := ht.few
  have ho := ht.ok.off.1
  have hol : (t.off.map PyData.int).length = t.off.length := List.length_map ..
  have hh := ht.ok.hands
  refine w_unp hB (ev_var (d := t.enc) rfl) rfl rfl ?_
  refine w_asgA hB (ev_op (e__law_next (ea_cons (ev_varV rfl) ea_nil)) (ev_cb (ea_cons (ev_var rfl) ea_nil) rc_lenT) (rr_modA (by omega))) fun e he => ?_
  obtain ⟨ph, hph, rfl⟩ := he
  rw [hol] at hph
  refine w_asgN hB (en_lst ead_nil (by nested_key)) fun p np mp fr => ?_
  refine w_forT t.num PyData.int (fun i δ' => ∃ (ws : List Int) (c9 c10 : Sd), δ' = [.v (.g drV), .d t.enc, .d (dI t.num), .d (.int t.hands), .d (dI t.off), .d (dI t.long), .d (.tuple (t.tied.map pr)), .d (.int ph), .l p (ws.map PyData.int), c9, c10, .x, .x, .x, .x, .x, .x] ∧ ws.length = i ∧ (∀ (i : Nat) (x n : Int), ws[i]? = some x → t.num[i]? = some n → 1 ≤ x ∧ x ≤ n) ∧ okm p c9 ∧ okm p c10) hB (ev_var rfl) ⟨[], .x, .x, rfl, rfl, by simp, trivial, trivial⟩ (fun B' hB' hb mu i n δ' ha hI => ?_) (fun δ' hI => ?_)
  · obtain ⟨ws, c9, c10, rfl, hwl, hws, k9, k10⟩ := hI
    have hn := ht.ok.num.2 n (List.mem_of_getElem? ha)
    have hil : i < t.num.length := (List.getElem?_eq_some_iff.mp ha).1
    refine w_asgA hB' (e__law_next (ea_cons (ev_varV rfl) ea_nil)) fun e he => ?_
    obtain ⟨d, hd, rfl⟩ := he
    have hm0 := Int.emod_nonneg d (show (4 : Int) ≠ 0 by decide)
    have hm1 := Int.emod_lt_of_pos d (show (0 : Int) < 4 by decide)
    have hq0 := Int.emod_nonneg (d / 4) (show n ≠ 0 by omega)
    have hq1 := Int.emod_lt_of_pos (d / 4) (show 0 < n by omega)
    refine w_appA (Z := iZ fun x => 1 ≤ x ∧ x ≤ n) hB' rfl (mu p mp) (Ev.imp (ev_op (en_lst (ead_cons (ev_op ev_int (ev_op (ev_op (ev_var rfl) ev_int (rr_I (⟨by decide, by decide⟩ : CDiv _ _) fun _ => .int _)) (ev_var rfl) (rr_I (by omega) fun _ => .int _)) (rr_I0 fun _ => .int _)) (ead_cons (ev_var rfl) (ead_cons ev_int (ead_cons (ev_cb (ea_cons ev_int (ea_cons (ev_op (ev_var rfl) ev_int (rr_I0 fun _ => .int _)) ea_nil)) rc_max2) ead_nil)))) (by nested_key)).ev (ev_op (ev_var rfl) ev_int (rr_I (by decide) fun _ => .int _)) (rr_ixMem hm0 (by simp; omega))) fun e he => ?_) (by rw [List.length_map]; omega) ⟨rfl, trivial, trivial, trivial, trivial, trivial, trivial, trivial, trivial, trivial, trivial, trivial, trivial, trivial, trivial, trivial, trivial, trivial⟩ fun e he => ?_
    · simp only [List.mem_cons, List.not_mem_nil, or_false] at he
      rcases he with rfl | rfl | rfl | rfl <;> exact ⟨_, by omega, rfl⟩
    · obtain ⟨x, hx, rfl⟩ := he
      refine w_end ⟨ws ++ [x], .d (.int n), .d (.int d), by simp [Vd.sd], by simp [hwl], fun k y m hy hm => ?_, trivial, trivial⟩
      by_cases hk : k < ws.length
      · rw [List.getElem?_append_left hk] at hy
        exact hws k y m hy hm
      · have hk' : k < (ws ++ [x]).length := (List.getElem?_eq_some_iff.mp hy).1
        rw [List.length_append, List.length_singleton] at hk'
        have ek : k = i := by omega
        subst ek
        rw [List.getElem?_append_right (by omega)] at hy
        rw [ha] at hm
        cases hm
        rw [hwl, Nat.sub_self] at hy
        cases hy
        exact hx
  obtain ⟨ws, c9, c10, rfl, hwl, hws, k9, k10⟩ := hI
  refine w_asgNS hB (en_sortSet (ns := flatE t.tied) (Ev.is (ev_cb (ea_cons (ev_lcTL t.tied pr (fun p => [.int p.1, .int p.2]) (ev_var rfl) (by have := ht.tl; omega) (by simp) (fun a ha => en_cb (ea_cons (ev_var rfl) ea_nil) rc_lstT)) (ea_cons (EvN.ev (en_lst ead_nil (by nested_key))) ea_nil)) (rc_sumL (by rw [flatE_map, List.length_map, flatE_len]; have := ht.tl; omega))) (by rw [flatE_map])) (by rw [flatE_len]; have := ht.tl; omega)) fun p11 ds hds np11 mp11 fr11 => ?_
  obtain ⟨ends, rfl, hep, hem⟩ := hds
  have hll : t.long.length ≤ 1000 := ht.ok.ll
  refine w_asgNS hB (en_slLS (en_lcTS t.long PyData.int (fun _ _ => True) (ev_var rfl) (by omega) (by simp) (fun a ha => et_testA (ev_op (ev_op (e__law_next (ea_cons (ev_varV rfl) ea_nil)) ev_int (rr_modA (by decide))) ev_int rr_eqA) (fun b => trivial)) (fun a ha => ev_var rfl)) eo_none (eo_some (ev_var rfl))) fun p12 ds hds np12 mp12 fr12 => ?_
  obtain ⟨ds, ⟨bs0, hbs0, _, rfl⟩, rfl⟩ := hds
  rw [cutD_takeM (by omega)]
  have hbs : (bs0.take t.hands.toNat).Sublist t.long := (List.take_sublist _ _).trans hbs0
  have hbl : ((bs0.take t.hands.toNat).length : Int) ≤ t.hands := by rw [List.length_take]; omega
  generalize bs0.take t.hands.toNat = bs at hbs hbl
  have hel : ends.length ≤ 56 := by
    have := nodup_len (l := ends) (m := flatE t.tied) (List.nodup_iff_pairwise_ne.mpr (hep.imp fun h e => by omega)) fun x hx => (hem x).mp hx
    rw [flatE_len] at this
    have := ht.tl
    omega
  refine w_asgN hB (en_lcL ends PyData.int (fun i => decide (i ∈ bs)) PyData.int (ev_varL rfl) (by omega) (by simp) (fun a ha => (et_test (ev_op (ev_var rfl) (ev_varL rfl) rr_inLi))) (fun a ha hf => (ev_var rfl))) fun p13 np13 mp13 fr13 => ?_
  refine w_asgNS hB (en_lcLS ends PyData.int (fun i b => b = true → i ∉ bs) (ev_varL rfl) (by omega) (by simp) (fun a ha => et_andA (et_test (ev_op (ev_var rfl) (ev_varL rfl) rr_niLi)) (fun hb => et_testA (ev_op (ev_op (e__law_next (ea_cons (ev_varV rfl) ea_nil)) ev_int (rr_modA (by decide))) ev_int rr_eqA) (fun b _ => by simpa using hb)) (fun _ h => nomatch h)) (fun a ha => ev_var rfl)) fun p14 ds hds np14 mp14 fr14 => ?_
  obtain ⟨oth0, hos0, hob0, rfl⟩ := hds
  have hol0 : oth0.length ≤ 56 := Nat.le_trans hos0.length_le hel
  have hhb : 0 ≤ t.hands - (bs.length : Int) := by omega
  have hfl := List.length_filter_le (fun i => decide (i ∈ bs)) ends
  have hbl2 : (bs.map PyData.int).length = bs.length := List.length_map ..
  refine w_asgNS hB (en_sorted (ns := ends.filter (fun i => decide (i ∈ bs)) ++ oth0.take (t.hands - (bs.length : Int)).toNat) ?_ (Ev.is (EvN.ev (en_op (ev_varL rfl) (EvN.ev (en_slL (ev_varL rfl) eo_none (eo_some (ev_op (ev_var rfl) (ev_cb (ea_cons (ev_varL rfl) ea_nil) rc_lenL) (rr_I0 fun _ => .int _))))) (rn_cat ?_))) ?_)) fun p15 ds hds np15 mp15 fr15 => ?_
  · rw [List.length_append, List.length_take]
    rcases hh with e | e <;> omega
  · rw [hbl2, cutD_takeM hhb]
    simp only [small, List.length_map, List.length_take]
    omega
  · rw [hbl2, cutD_takeM hhb, List.map_append]
  obtain ⟨ms, rfl, hm, hms⟩ := hds
  refine w_ret hB (Ev.any (ev_tup (ead_cons (ev_var rfl) (ead_cons (ev_cb (ea_cons (ev_varL rfl) ea_nil) rc_tupL) (ead_cons (ev_cb (ea_cons (ev_varL rfl) ea_nil) rc_tupL) (ead_cons (ev_cb (ea_cons (ev_varL rfl) ea_nil) rc_tupL) ead_nil)))) (by nested_key)) ?_) hR
  refine ⟨⟨ph, ws, bs, ms⟩, made_ok ht hph.1 hph.2 hwl hws hbs hbl hep hem ((List.take_sublist _ _).trans hos0) (fun i hi => hob0 i ((List.take_sublist _ _).subset hi) rfl) ?_ hm hms, rfl⟩
  rw [List.length_take]; omega
end
end Ed
end
section
set_option maxHeartbeats 4000000
namespace Ed
open PySem L2
local macro_rules | `(tactic| nested_key) => `(tactic| first
  | rfl
  | assumption
  | omega
  | exact Nat.le_of_ble_eq_true rfl
  | decide
  | (simp only [List.length_map, small]; omega)
  | (simp [small]; done)
  | (simp only [Vd.sd, setAll, List.set, mutAll, okm, Fr] at *; simp_all; done))

section
variable {P : Program} {w : World} {K : PySem.W.Frag} {mg : Str → Option Value} {base : Heap} {dr : Option Addr} {δ : List Sd} {ta : TA} {te : TE}
/-! _law_next_stand -/
def q__law_next_stand : List Vd → Vd → Prop := fun a z => ∃ (t : Task) (s : Stand) (day : List Int), a = [.d t.enc, .d s.enc, .d (dI day)] ∧ TaskOk t ∧ SW t s ∧ day.length ≤ 1000 ∧ z = .d (oenc (nextS t s day))
abbrev sp__law_next_stand : Sp := spP q__law_next_stand
theorem e__law_next_stand {ta : TA} {t : Task} {s : Stand} {day : List Int} (h : EvA dr ta δ [.d t.enc, .d s.enc, .d (dI day)]) (ht : TaskOk t) (hs : SW t s) (hd : day.length ≤ 1000) : Ev dr (tCall sp__law_next_stand [] C8.E0 ta) δ (.d (oenc (nextS t s day))) := ev_call h ⟨_, _, _, rfl, ht, hs, hd, rfl⟩
abbrev s__law_next_stand : Stmt := Hd.top 75
abbrev N__law_next_stand : List Str := ["_law_task_here", "_law_stand", "_law_day", "_law_numbers", "_law_hands", "_law_off_here", "_law_long_here", "_law_tied_here", "_law_phase", "_law_waits", "_law_busy", "_law_last", "_law_later", "_law_i", "_law_done", "_law_ends", "_law_started", "_law_pair"]
theorem nd__law_next_stand : N__law_next_stand.Nodup := by decide +kernel
theorem sc__law_next_stand : C8.scC N__law_next_stand ["_law_task_here", "_law_stand", "_law_day"] (C8.fnScope s__law_next_stand) = true := by decide +kernel
def t__law_next_stand (K : PySem.W.Frag) : TS :=
  (tSeq (tAsg (tVar 0) (gTup K 5 (unp [3, 4, 5, 6, 7])))
  (tSeq (tAsg (tVar 1) (gTup K 4 (unp [8, 9, 10, 11])))
  (tSeq (tAsg (tLst tNil) (gName 12))
  (tSeq (tFor (iRng1 (tCons (tCB (rLen K) (tCons (tVar 3) tNil)) tNil)) (gName 13) (tSeq (tAsg (tAndV (tOp (rIn K false) (tVar 13) (tVar 2)) (tOrV (tOp (rIn K true) (tVar 13) (tVar 6)) (tOp (rIn K false) (tVar 13) (tVar 10)))) (gName 14))
  (tSeq (tDrop (tBM K "list" rAppend (tVar 12) (tCons (tOp (rIxL K) (tLst (tCons (tOp oSub (tOp (rIxT K) (tVar 9) (tVar 13)) (tC (.int 1))) (tCons (tOp (rIxT K) (tVar 3) (tVar 13)) tNil))) (tCB rInt1 (tCons (tVar 14) tNil))) tNil)))
  tNext)))
  (tSeq (tIfS (tTest (tOp (rIn K false) (tC (.int 0)) (tVar 12))) (tSeq (tRet (tC .non))
  tNext) tNext)
  (tSeq (tAsg (tCB (rSumL K) (tCons (tLc (iTup K (tVar 7)) (gName 17) tYes (tCB (rLstOf K) (tCons (tVar 17) tNil)) [17]) (tCons (tLst tNil) tNil))) (gName 15))
  (tSeq (tAsg (tCB (rTupOf K) (tCons (tLc (iTup K (tVar 2)) (gName 13) (tAnd (tTest (tOp (rIn K false) (tVar 13) (tVar 6))) (tTest (tOp (rIn K true) (tVar 13) (tVar 10)))) (tVar 13) [13]) tNil)) (gName 16))
  (tSeq (tRet (tTup (tCons (tOp oMod (tOp oAdd (tVar 8) (tC (.int 1))) (tCB (rLen K) (tCons (tVar 5) tNil))) (tCons (tCB (rTupOf K) (tCons (tVar 12) tNil)) (tCons (tVar 16) (tCons (tCB (rTupOf K) (tCons (tLc (iTup K (tVar 2)) (gName 13) (tTest (tOp (rIn K false) (tVar 13) (tVar 15))) (tVar 13) [13]) tNil)) tNil))))))
  tNext))))))))
theorem d__law_next_stand {P : Program} {w : World} {K : PySem.W.Frag} {mg : Str → Option Value} {base : Heap} (T : Top K mg) (f : Addr) (cdv : Value) (A : Around) (outer : List Env) (s : Shared) (H : Hp) (E : XK)
    (hr : Room 0 (A.deeper (PyProof.Rows.envOfC "_law_next_stand" (C8.fnScope s__law_next_stand) s.heap.objs.size f cdv))) :
    PSs (cxOf C8.CX0 P w K mg base N__law_next_stand "_law_next_stand" (C8.fnScope s__law_next_stand) f cdv A outer s H E).nox (C8.fnBody s__law_next_stand) (t__law_next_stand K) :=
  (pss_cons (ps_asg (pv 0) (pg_tup (by rfl) (pgs_cons (pg_name (i := 3) nd__law_next_stand rfl (by first | exact Or.inl rfl | exact Or.inr rfl)) (pgs_cons (pg_name (i := 4) nd__law_next_stand rfl (by first | exact Or.inl rfl | exact Or.inr rfl)) (pgs_cons (pg_name (i := 5) nd__law_next_stand rfl (by first | exact Or.inl rfl | exact Or.inr rfl)) (pgs_cons (pg_name (i := 6) nd__law_next_stand rfl (by first | exact Or.inl rfl | exact Or.inr rfl)) (pgs_cons (pg_name (i := 7) nd__law_next_stand rfl (by first | exact Or.inl rfl | exact Or.inr rfl)) pgs_nil)))))))
  (pss_cons (ps_asg (pv 1) (pg_tup (by rfl) (pgs_cons (pg_name (i := 8) nd__law_next_stand rfl (by first | exact Or.inl rfl | exact Or.inr rfl)) (pgs_cons (pg_name (i := 9) nd__law_next_stand rfl (by first | exact Or.inl rfl | exact Or.inr rfl)) (pgs_cons (pg_name (i := 10) nd__law_next_stand rfl (by first | exact Or.inl rfl | exact Or.inr rfl)) (pgs_cons (pg_name (i := 11) nd__law_next_stand rfl (by first | exact Or.inl rfl | exact Or.inr rfl)) pgs_nil))))))
  (pss_cons (ps_set (i := 12) nd__law_next_stand rfl (by first | exact Or.inl rfl | exact Or.inr rfl) (pe_lst pa_nil))
  (pss_cons (ps_for PassesOwn.never rfl (pi_range1 rfl T.n_range (pa_cons (pe_callB cr_len (by rfl) T.n_len bt_len (pa_cons (pv 3) pa_nil)) pa_nil)) (pg_name (i := 13) nd__law_next_stand rfl (by first | exact Or.inl rfl | exact Or.inr rfl)) (pss_cons (ps_set (i := 14) nd__law_next_stand rfl (by first | exact Or.inl rfl | exact Or.inr rfl) (pe_and (pe_cmpR op_in_seq (pv 13) (pv 2) (by rfl)) (pe_one (pe_or (pe_cmpR op_notIn_seq (pv 13) (pv 6) (by rfl)) (pe_one (pe_cmpR op_in_seq (pv 13) (pv 10) (by rfl)))))))
  (pss_cons (ps_expr (pe_bm PySem.F.plainAttrs_list PySem.F.slot_list_append PySem.F.type_list_append mt_append (pv 12) (pa_cons (pe_ix ix_list (pe_lst (pa_cons (pe_op op_sub (pe_ix ix_tup (pv 9) (pv 13) (fun _ _ => rfl)) pe_int) (pa_cons (pe_ix ix_tup (pv 3) (pv 13) (fun _ _ => rfl)) pa_nil))) (pe_callTy cr_int (by rfl) T.n_int bt_int (pa_cons (pv 14) pa_nil)) (fun _ _ => rfl)) pa_nil)))
  pss_nil)))
  (pss_cons (ps_if (pt_cmpR op_in_seq pe_int (pv 12) (by rfl)) (pss_cons (ps_ret pe_non)
  pss_nil) pss_nil)
  (pss_cons (ps_set (i := 15) nd__law_next_stand rfl (by first | exact Or.inl rfl | exact Or.inr rfl) (pe_callB (cr_sumL rfl) (by rfl) T.n_sum bt_sum (pa_cons (pe_lc (own := [("_law_pair", 17)]) (g := gName 17) rfl nd__law_next_stand (pi_tup (pv 7)) (blkOk_by (N := N__law_next_stand) (sc := C8.fnScope s__law_next_stand) (by decide +kernel)) (fun _ _ _ _ _ => pg_name (i := 17) nd__law_next_stand rfl (by first | exact Or.inl rfl | exact Or.inr rfl)) (fun _ _ _ _ _ => pts_nil) (fun _ _ _ _ _ => (pe_callTy cr_list (by rfl) T.n_list bt_list (pa_cons (pv 17) pa_nil)))) (pa_cons (pe_lst pa_nil) pa_nil))))
  (pss_cons (ps_set (i := 16) nd__law_next_stand rfl (by first | exact Or.inl rfl | exact Or.inr rfl) (pe_callTy cr_tuple (by rfl) T.n_tuple bt_tuple (pa_cons (pe_lc (own := [("_law_i", 13)]) (g := gName 13) rfl nd__law_next_stand (pi_tup (pv 2)) (blkOk_by (N := N__law_next_stand) (sc := C8.fnScope s__law_next_stand) (by decide +kernel)) (fun _ _ _ _ _ => pg_name (i := 13) nd__law_next_stand rfl (by first | exact Or.inl rfl | exact Or.inr rfl)) (fun _ _ _ _ _ => pts_one (PW.pt (pw_and (pt_cmpR op_in_seq (pv 13) (pv 6) (by rfl)) (pw_and1 (pt_cmpR op_notIn_seq (pv 13) (pv 10) (by rfl)))))) (fun _ _ _ _ _ => (pv 13))) pa_nil)))
  (pss_cons (ps_ret (pe_tup (pa_cons (pe_op op_mod (pe_op op_add (pv 8) pe_int) (pe_callB cr_len (by rfl) T.n_len bt_len (pa_cons (pv 5) pa_nil))) (pa_cons (pe_callTy cr_tuple (by rfl) T.n_tuple bt_tuple (pa_cons (pv 12) pa_nil)) (pa_cons (pv 16) (pa_cons (pe_callTy cr_tuple (by rfl) T.n_tuple bt_tuple (pa_cons (pe_lc (own := [("_law_i", 13)]) (g := gName 13) rfl nd__law_next_stand (pi_tup (pv 2)) (blkOk_by (N := N__law_next_stand) (sc := C8.fnScope s__law_next_stand) (by decide +kernel)) (fun _ _ _ _ _ => pg_name (i := 13) nd__law_next_stand rfl (by first | exact Or.inl rfl | exact Or.inr rfl)) (fun _ _ _ _ _ => pts_one (pt_cmpR op_in_seq (pv 13) (pv 15) (by rfl))) (fun _ _ _ _ _ => (pv 13))) pa_nil)) pa_nil))))))
  pss_nil))))))))
theorem ix_two {a b : PyData} {c : Bool} : atI [a, b] (if c = true then (1 : Int) else 0) = some (if c = true then b else a) := by
  cases c
  · exact at0
  · exact at1
theorem c__law_next_stand (T : Top K mg) : C8.Cal P w K mg base 1 "_law_next_stand" sp__law_next_stand [] := by
  refine cal_of T.f__law_next_stand sc__law_next_stand (t__law_next_stand K) (fun zs z h => ?_) (fun f cdv A outer s H E hr => d__law_next_stand T f cdv A outer s H E hr) (fun dr B E zs z hp hB hR hN => ?_)
  · obtain ⟨_, _, _, rfl, _⟩ := h; rfl
  obtain ⟨t, s, day, rfl, ht, hs, hd, rfl⟩ := hp
  have hn := ht.num.1
  have ho := ht.off.1
  have hlen : (List.map PyData.int t.num).length = t.num.length := List.length_map ..
  refine w_unp hB (ev_var (d := t.enc) rfl) rfl rfl ?_
  refine w_unp hB (ev_var (d := s.enc) rfl) rfl rfl ?_
  refine w_asgN hB (en_lst ead_nil (by nested_key)) fun p np mp fr => ?_
  refine w_forR1 (fun i δ' => ∃ c13 c14 : Sd, δ' = [.d t.enc, .d s.enc, .d (dI day), .d (dI t.num), .d (.int t.hands), .d (dI t.off), .d (dI t.long), .d (.tuple (t.tied.map pr)), .d (.int s.ph), .d (dI s.wt), .d (dI s.bz), .d (dI s.ls), .l p (((upto 0 i).map (waitF t s day)).map PyData.int), c13, c14, .x, .x, .x] ∧ okm p c13 ∧ okm p c14) hB (ea_cons (ev_cb (ea_cons (ev_var rfl) ea_nil) rc_lenT) ea_nil) (by rw [hlen]; omega) (by omega) ⟨.x, .x, rfl, trivial, trivial⟩ (fun i δ' hi hI => ?_) (fun δ' hI => ?_)
  · obtain ⟨c13, c14, rfl, k13, k14⟩ := hI
    rw [hlen] at hi
    have h0 : (0 : Int) ≤ (i : Int) := by omega
    refine w_asg hB (ev_andV (ev_op (ev_var rfl) (ev_var rfl) rr_inT) fun _ => (ev_orV (ev_op (ev_var rfl) (ev_var rfl) rr_niT) fun _ => (ev_op (ev_var rfl) (ev_var rfl) rr_inT))) ?_
    refine w_app hB rfl mp (d := .int (waitF t s day i)) (Ev.is (ev_op (en_lst (ead_cons (ev_op (ev_op (ev_var rfl) (ev_var rfl) (rr_ixT (at_map h0 (getDI h0 (by rw [hs.wl]; exact hi))))) ev_int (rr_I0 fun _ => .int _)) (ead_cons (ev_op (ev_var rfl) (ev_var rfl) (rr_ixT (at_map h0 (getDI h0 hi)))) ead_nil)) (by nested_key)).ev (ev_cb (ea_cons (ev_var rfl) ea_nil) rc_intB) (rr_ixL ix_two)) ?_) (by rw [List.length_map, List.length_map, upto_len]; omega) ⟨trivial, trivial, trivial, trivial, trivial, trivial, trivial, trivial, trivial, trivial, trivial, trivial, trivial, trivial, trivial, trivial, trivial, trivial, trivial⟩ ?_
    · unfold waitF doneB
      split <;> rfl
    · refine w_end ⟨.d (.int i), .d (.bool (doneB t s day i)), ?_, trivial, trivial⟩
      rw [upto_succ, List.map_append, List.map_append]
      rfl
  obtain ⟨c13, c14, rfl, k13, k14⟩ := hI
  have hw : (upto 0 ((List.map PyData.int t.num).length : Int).toNat).map (waitF t s day) = waitsF t s day := by rw [hlen, waitsF, Int.toNat_natCast]
  rw [hw]
  refine w_if hB (et_test (ev_op ev_int (ev_varL rfl) rr_inLi)) (fun hb => ?_) (fun hb => ?_)
  · refine w_ret hB (Ev.is ev_non ?_) hR
    unfold nextS
    rw [if_pos (by simpa using hb)]; rfl
  refine w_nx ?_
  have htl := ht.tied.1
  refine w_asg hB (z := .l ((flatE t.tied).map PyData.int)) (Ev.is (ev_cb (ea_cons (ev_lcTL t.tied pr (fun p => [.int p.1, .int p.2]) (ev_var rfl) (by omega) (by simp) (fun a ha => en_cb (ea_cons (ev_var rfl) ea_nil) rc_lstT)) (ea_cons (EvN.ev (en_lst ead_nil (by nested_key))) ea_nil)) (rc_sumL (by rw [flatE_map, List.length_map, flatE_len]; omega))) (by rw [flatE_map])) ?_
  refine w_asg hB (ev_cb (ea_cons (en_lcT day PyData.int (fun i => decide (i ∈ t.long) && !decide (i ∈ s.bz)) PyData.int (ev_var rfl) (by omega) (by simp) (fun a ha => (et_and (et_test (ev_op (ev_var rfl) (ev_var rfl) rr_inT)) fun _ => (et_test (ev_op (ev_var rfl) (ev_var rfl) rr_niT)))) (fun a ha hf => (ev_var rfl))).ev ea_nil) rc_tupL) ?_
  refine w_ret hB (Ev.is (ev_tup (ead_cons (ev_op (ev_op (ev_var rfl) ev_int (rr_I0 fun _ => .int _)) (ev_cb (ea_cons (ev_var rfl) ea_nil) rc_lenT) (rr_I (by rw [List.length_map]; omega) fun _ => .int _)) (ead_cons (ev_cb (ea_cons (ev_varL rfl) ea_nil) rc_tupL) (ead_cons (ev_var rfl) (ead_cons (ev_cb (ea_cons (en_lcT day PyData.int (fun i => decide (i ∈ flatE t.tied)) PyData.int (ev_var rfl) (by omega) (by simp) (fun a ha => (et_test (ev_op (ev_var rfl) (ev_varV rfl) rr_inLi))) (fun a ha hf => (ev_var rfl))).ev ea_nil) rc_tupL) ead_nil)))) (by nested_key)) ?_) hR
  have e : day.filter (fun i => decide (i ∈ flatE t.tied)) = day.filter (fun i => decide (i ∈ endsOf t.tied)) := List.filter_congr fun i _ => decide_eq_decide.mpr mem_flatE
  unfold nextS
  rw [if_neg (by simpa using hb), e]
  simp only [oenc, Stand.enc, List.length_map]
  rfl

/-! _law_under -/
def q__law_under : List Vd → Vd → Prop := fun a z => ∃ (s s' : Stand), a = [.d s.enc, .d s'.enc] ∧ s.wt.length = s'.wt.length ∧ s.wt.length ≤ 1000 ∧ s'.ls.length ≤ 1000 ∧ z = .d (.bool (underB s s'))
abbrev sp__law_under : Sp := spP q__law_under
theorem e__law_under {ta : TA} {s s' : Stand} (h : EvA dr ta δ [.d s.enc, .d s'.enc]) (h1 : s.wt.length = s'.wt.length) (h2 : s.wt.length ≤ 1000) (h3 : s'.ls.length ≤ 1000) : Ev dr (tCall sp__law_under [] C8.E0 ta) δ (.d (.bool (underB s s'))) := ev_call h ⟨_, _, rfl, h1, h2, h3, rfl⟩
abbrev s__law_under : Stmt := Hd.top 79
abbrev N__law_under : List Str := ["_law_one", "_law_other", "_law_i"]
theorem nd__law_under : N__law_under.Nodup := by decide +kernel
theorem sc__law_under : C8.scC N__law_under ["_law_one", "_law_other"] (C8.fnScope s__law_under) = true := by decide +kernel
def t__law_under (K : PySem.W.Frag) : TS :=
  (tSeq (tIfS (tOr (tTest (tOp rNe (tOp (rIxT K) (tVar 0) (tC (.int 0))) (tOp (rIxT K) (tVar 1) (tC (.int 0))))) (tOr (tTest (tOp (rNeD K) (tOp (rIxT K) (tVar 0) (tC (.int 2))) (tOp (rIxT K) (tVar 1) (tC (.int 2))))) (tTest (tOp (rNeD K) (tLc (iTup K (tOp (rIxT K) (tVar 1) (tC (.int 3)))) (gName 2) (tTest (tOp (rIn K true) (tVar 2) (tOp (rIxT K) (tVar 0) (tC (.int 3))))) (tVar 2) [2]) (tLst tNil))))) (tSeq (tRet (tC (.bl false)))
  tNext) tNext)
  (tSeq (tRet (tOp (rEqD K) (tLc (iRng1 (tCons (tCB (rLen K) (tCons (tOp (rIxT K) (tVar 0) (tC (.int 1))) tNil)) tNil)) (gName 2) (tTest (tOp oGt (tOp (rIxT K) (tOp (rIxT K) (tVar 0) (tC (.int 1))) (tVar 2)) (tOp (rIxT K) (tOp (rIxT K) (tVar 1) (tC (.int 1))) (tVar 2)))) (tVar 2) [2]) (tLst tNil)))
  tNext))
theorem d__law_under {P : Program} {w : World} {K : PySem.W.Frag} {mg : Str → Option Value} {base : Heap} (T : Top K mg) (f : Addr) (cdv : Value) (A : Around) (outer : List Env) (s : Shared) (H : Hp) (E : XK)
    (hr : Room 0 (A.deeper (PyProof.Rows.envOfC "_law_under" (C8.fnScope s__law_under) s.heap.objs.size f cdv))) :
    PSs (cxOf C8.CX0 P w K mg base N__law_under "_law_under" (C8.fnScope s__law_under) f cdv A outer s H E).nox (C8.fnBody s__law_under) (t__law_under K) :=
  (pss_cons (ps_if (PW.pt (pw_or (pt_cmpR op_ne (pe_ix ix_tup (pv 0) pe_int (fun _ _ => rfl)) (pe_ix ix_tup (pv 1) pe_int (fun _ _ => rfl)) (nomark _)) (pw_or (pt_cmpR (op_neD hr.units) (pe_ix ix_tup (pv 0) pe_int (fun _ _ => rfl)) (pe_ix ix_tup (pv 1) pe_int (fun _ _ => rfl)) (nomark _)) (pw_or1 (pt_cmpR (op_neD hr.units) (pe_lc (own := [("_law_i", 2)]) (g := gName 2) rfl nd__law_under (pi_tup (pe_ix ix_tup (pv 1) pe_int (fun _ _ => rfl))) (blkOk_by (N := N__law_under) (sc := C8.fnScope s__law_under) (by decide +kernel)) (fun _ _ _ _ _ => pg_name (i := 2) nd__law_under rfl (by first | exact Or.inl rfl | exact Or.inr rfl)) (fun _ _ _ _ _ => pts_one (pt_cmpR op_notIn_seq (pv 2) (pe_ix ix_tup (pv 0) pe_int (fun _ _ => rfl)) (by rfl))) (fun _ _ _ _ _ => (pv 2))) (pe_lst pa_nil) (nomark _)))))) (pss_cons (ps_ret pe_bl)
  pss_nil) pss_nil)
  (pss_cons (ps_ret (pe_cmpR (op_eqD hr.units) (pe_lc (own := [("_law_i", 2)]) (g := gName 2) rfl nd__law_under (pi_range1 rfl T.n_range (pa_cons (pe_callB cr_len (by rfl) T.n_len bt_len (pa_cons (pe_ix ix_tup (pv 0) pe_int (fun _ _ => rfl)) pa_nil)) pa_nil)) (blkOk_by (N := N__law_under) (sc := C8.fnScope s__law_under) (by decide +kernel)) (fun _ _ _ _ _ => pg_name (i := 2) nd__law_under rfl (by first | exact Or.inl rfl | exact Or.inr rfl)) (fun _ _ _ _ _ => pts_one (pt_cmpR op_gt (pe_ix ix_tup (pe_ix ix_tup (pv 0) pe_int (fun _ _ => rfl)) (pv 2) (fun _ _ => rfl)) (pe_ix ix_tup (pe_ix ix_tup (pv 1) pe_int (fun _ _ => rfl)) (pv 2) (fun _ _ => rfl)) (nomark _))) (fun _ _ _ _ _ => (pv 2))) (pe_lst pa_nil) (nomark _)))
  pss_nil))
theorem c__law_under (T : Top K mg) : C8.Cal P w K mg base 1 "_law_under" sp__law_under [] := by
  refine cal_of T.f__law_under sc__law_under (t__law_under K) (fun zs z h => ?_) (fun f cdv A outer s H E hr => d__law_under T f cdv A outer s H E hr) (fun dr B E zs z hp hB hR hN => ?_)
  · obtain ⟨_, _, rfl, _⟩ := h; rfl
  obtain ⟨s, s', rfl, hl, h2, h3, rfl⟩ := hp
  refine w_if hB (et_or (et_test (ev_op (ev_op (ev_var (d := s.enc) rfl) ev_int (rr_ixT at0)) (ev_op (ev_var (d := s'.enc) rfl) ev_int (rr_ixT at0)) rr_neI)) fun _ => (et_or (et_test (ev_op (ev_op (ev_var (d := s.enc) rfl) ev_int (rr_ixT at2)) (ev_op (ev_var (d := s'.enc) rfl) ev_int (rr_ixT at2)) (rr_neD ((sh_dI _).ok (by decide)) ((sh_dI _).ok (by decide))))) fun _ => (et_test (ev_op (en_lcT s'.ls PyData.int (fun i => !decide (i ∈ s.ls)) PyData.int (ev_op (ev_var (d := s'.enc) rfl) ev_int (rr_ixT at3)) (by omega) (by simp) (fun a ha => (et_test (ev_op (ev_var rfl) (ev_op (ev_var (d := s.enc) rfl) ev_int (rr_ixT at3)) rr_niT))) (fun a ha hf => (ev_var rfl))).ev (en_lst ead_nil (by nested_key)).ev (rr_neNil (shaped_li _)))))) (fun hb => ?_) (fun hb => ?_)
  · refine w_ret hB (Ev.is ev_bl ?_) hR
    rw [eqv_dI, isEmpty_filter] at hb
    simp only [Bool.not_not] at hb
    have e : underB s s' = false := by
      unfold underB
      cases h : decide (s.ph = s'.ph) <;> cases h' : decide (s.bz = s'.bz) <;> simp [h, h'] at hb ⊢
      intro _
      simpa using hb
    rw [e]
  refine w_nx ?_
  refine w_ret hB (Ev.is (ev_op (en_lcR1 (fun i => decide (s'.wt.getD i.toNat 0 < s.wt.getD i.toNat 0)) PyData.int (ea_cons (ev_cb (ea_cons (ev_op (ev_var (d := s.enc) rfl) ev_int (rr_ixT at1)) ea_nil) rc_lenT) ea_nil) (by simp; omega) (by omega) (by simp) (fun i hi1 hi2 => ?_) (fun i hi1 hi2 hf => (ev_var rfl))).ev (en_lst ead_nil (by nested_key)).ev (rr_eqNil (shaped_li _))) ?_) hR
  · simp only [List.length_map] at hi2
    exact (et_test (ev_op (ev_op (ev_op (ev_var (d := s.enc) rfl) ev_int (rr_ixT at1)) (ev_var rfl) (rr_ixT (at_map hi1 (getDI hi1 hi2)))) (ev_op (ev_op (ev_var (d := s'.enc) rfl) ev_int (rr_ixT at1)) (ev_var rfl) (rr_ixT (at_map hi1 (getDI hi1 (by omega))))) (rr_I0 fun _ => .bl _)))
  · rw [eqv_dI, isEmpty_filter] at hb
    rw [isEmpty_filter]
    simp only [Bool.not_not, List.length_map, Int.toNat_natCast] at hb ⊢
    rw [leB_upto hl]
    unfold underB
    cases h : decide (s.ph = s'.ph) <;> cases h' : decide (s.bz = s'.bz) <;> simp [h, h'] at hb ⊢
    intro _
    simpa using hb
end
end Ed
end
section
set_option maxHeartbeats 4000000
namespace Ed
open PySem L2
local macro_rules | `(tactic| nested_key) => `(tactic| first
  | rfl
  | assumption
  | omega
  | exact Nat.le_of_ble_eq_true rfl
  | decide
  | (simp only [List.length_map, small]; omega)
  | (simp [small]; done)
  | (simp only [Vd.sd, setAll, List.set, mutAll, okm, Fr] at *; simp_all; done))

section
variable {P : Program} {w : World} {K : PySem.W.Frag} {mg : Str → Option Value} {base : Heap} {dr : Option Addr} {δ : List Sd} {ta : TA} {te : TE}
/-! _law_days -/
def prU : Nat → List (List Int)
  | 0 => []
  | j + 1 => prU j ++ (upto 0 j).map fun i => [i, (j : Int)]
def hhN (t : Task) : Nat := t.num.length * (if t.hands = 2 then 1 else 0)
def dhL (t : Task) (s : Stand) : List (List Int) := if t.off.getD s.ph.toNat 0 = 0 then ([] :: (upto 0 t.num.length).map fun i => [i]) ++ prU (hhN t) else [[]]
def okL (t : Task) (s : Stand) (d : List Int) : Bool := !tiedB t.tied d s.ls && s.bz.all fun i => decide (i ∈ d)
def daysL (t : Task) (s : Stand) : List (List Int) := ((dhL t s).filter (okL t s)).mergeSort (PySem.W.dataLe false dI)
theorem mem_daysL {t : Task} {s : Stand} {d : List Int} : d ∈ daysL t s ↔ d ∈ dhL t s ∧ okL t s d = true := by
  unfold daysL
  rw [(List.mergeSort_perm _ _).mem_iff, List.mem_filter]
theorem mem_prU {j : Nat} {d : List Int} : d ∈ prU j ↔ ∃ i k : Int, 0 ≤ i ∧ i < k ∧ k < j ∧ d = [i, k] := by
  induction j with
  | zero => simp [prU]; omega
  | succ j ih =>
    simp only [prU, List.mem_append, ih, List.mem_map, mem_upto]
    constructor
    · rintro (⟨i, k, h0, h1, h2, rfl⟩ | ⟨i, hi, rfl⟩)
      · exact ⟨i, k, h0, h1, by omega, rfl⟩
      · exact ⟨i, j, by omega, by omega, by omega, rfl⟩
    · rintro ⟨i, k, h0, h1, h2, rfl⟩
      by_cases h : k < (j : Int)
      · exact .inl ⟨i, k, h0, h1, h, rfl⟩
      · exact .inr ⟨i, by omega, by rw [show k = (j : Int) by omega]⟩
theorem prU_len : ∀ j : Nat, j ≤ 8 → (prU j).length ≤ 8 * j
  | 0, _ => by simp [prU]
  | j + 1, h => by
    have := prU_len j (by omega)
    simp only [prU, List.length_append, List.length_map, upto_len]
    omega
theorem mem_adF {n h : Int} {d : List Int} : ∀ {k : Nat} {acc : List (List Int)}, d ∈ (upto 0 k).foldl (adStep n h) acc ↔ d ∈ acc ∨ (∃ i : Int, 0 ≤ i ∧ i < k ∧ d = [i]) ∨ (1 < h ∧ ∃ i j : Int, 0 ≤ i ∧ i < k ∧ i < j ∧ j < n ∧ d = [i, j]) := by
  intro k
  induction k with
  | zero =>
    intro acc
    simp [upto]
    omega
  | succ k ih =>
    intro acc
    rw [upto_succ, List.foldl_append, List.foldl_cons, List.foldl_nil]
    have ih := ih (acc := acc)
    generalize (upto 0 k).foldl (adStep n h) acc = X at ih ⊢
    unfold adStep
    by_cases hh : 1 < h
    · rw [if_pos hh]
      simp only [List.mem_append, ih, List.mem_cons, List.not_mem_nil, or_false, List.mem_map, mem_upto]
      constructor
      · rintro (((h1 | ⟨i, a, b, rfl⟩ | ⟨_, i, j, a, b, c, e, rfl⟩) | rfl) | ⟨j, ⟨a, b⟩, rfl⟩)
        · exact .inl h1
        · exact .inr (.inl ⟨i, a, by omega, rfl⟩)
        · exact .inr (.inr ⟨hh, i, j, a, by omega, c, e, rfl⟩)
        · exact .inr (.inl ⟨k, by omega, by omega, rfl⟩)
        · exact .inr (.inr ⟨hh, k, j, by omega, by omega, by omega, by omega, rfl⟩)
      · rintro (h1 | ⟨i, a, b, rfl⟩ | ⟨_, i, j, a, b, c, e, rfl⟩)
        · exact .inl (.inl (.inl h1))
        · by_cases q : i < (k : Int)
          · exact .inl (.inl (.inr (.inl ⟨i, a, q, rfl⟩)))
          · exact .inl (.inr (by rw [show i = (k : Int) by omega]))
        · by_cases q : i < (k : Int)
          · exact .inl (.inl (.inr (.inr ⟨hh, i, j, a, q, c, e, rfl⟩)))
          · exact .inr ⟨j, ⟨by omega, by omega⟩, by rw [show i = (k : Int) by omega]⟩
    · rw [if_neg hh]
      simp only [List.mem_append, ih, List.mem_cons, List.not_mem_nil, or_false]
      constructor
      · rintro ((h1 | ⟨i, a, b, rfl⟩ | ⟨q, _⟩) | rfl)
        · exact .inl h1
        · exact .inr (.inl ⟨i, a, by omega, rfl⟩)
        · exact absurd q hh
        · exact .inr (.inl ⟨k, by omega, by omega, rfl⟩)
      · rintro (h1 | ⟨i, a, b, rfl⟩ | ⟨q, _⟩)
        · exact .inl (.inl h1)
        · by_cases q : i < (k : Int)
          · exact .inl (.inr (.inl ⟨i, a, q, rfl⟩))
          · exact .inr (by rw [show i = (k : Int) by omega])
        · exact absurd q hh
theorem mem_allDays {n : Nat} {h : Int} {d : List Int} : d ∈ allDays n h ↔ d = [] ∨ (∃ i : Int, 0 ≤ i ∧ i < n ∧ d = [i]) ∨ (1 < h ∧ ∃ i j : Int, 0 ≤ i ∧ i < j ∧ j < n ∧ d = [i, j]) := by
  unfold allDays
  rw [Int.toNat_natCast, mem_adF]
  simp only [List.mem_cons, List.not_mem_nil, or_false]
  constructor
  · rintro (h1 | h1 | ⟨q, i, j, a, b, c, e, rfl⟩)
    · exact .inl h1
    · exact .inr (.inl h1)
    · exact .inr (.inr ⟨q, i, j, a, c, e, rfl⟩)
  · rintro (h1 | h1 | ⟨q, i, j, a, c, e, rfl⟩)
    · exact .inl h1
    · exact .inr (.inl h1)
    · exact .inr (.inr ⟨q, i, j, a, by omega, c, e, rfl⟩)
/-- the law's days are the program's -/
theorem days_mem {t : Task} {s : Stand} (ht : TaskOk t) (hs : SW t s) {d : List Int} : d ∈ daysL t s ↔ d ∈ laterDays t s := by
  rw [mem_daysL]
  unfold laterDays
  rw [List.mem_filter, mem_allDays]
  have h01 : t.off.getD s.ph.toNat 0 = 0 ∨ t.off.getD s.ph.toNat 0 = 1 := by
    have hg := getDI hs.ph0 hs.ph1
    exact ht.off.2.2 _ (List.mem_of_getElem? hg)
  have hc : ∀ d : List Int, canB t s d = true ↔ (d.length : Int) ≤ t.hands ∧ (t.off.getD s.ph.toNat 0 = 1 → d = []) ∧ okL t s d = true := by
    intro d
    unfold canB okL
    simp only [Bool.and_eq_true, Bool.not_eq_true', Bool.or_eq_false_iff, decide_eq_false_iff_not, Bool.and_eq_false_iff]
    constructor
    · rintro ⟨⟨a, b⟩, c, e⟩
      refine ⟨by omega, fun q => ?_, e, c⟩
      rcases b with b | b
      · exact absurd q b
      · exact List.length_eq_zero_iff.mp (by omega)
    · rintro ⟨a, b, e, c⟩
      refine ⟨⟨by omega, ?_⟩, c, e⟩
      by_cases q : t.off.getD s.ph.toNat 0 = 1
      · right; rw [b q]; simp
      · exact .inl q
  rw [hc]
  have hh := ht.hands
  unfold dhL hhN
  rcases h01 with h | h
  · rw [if_pos h]
    simp only [List.mem_append, List.mem_cons, List.mem_map, mem_upto, mem_prU]
    constructor
    · rintro ⟨((rfl | ⟨i, ⟨a, b⟩, rfl⟩) | ⟨i, k, a, b, c, rfl⟩), ok⟩
      · exact ⟨.inl rfl, by simp; omega, fun q => rfl, ok⟩
      · exact ⟨.inr (.inl ⟨i, a, by omega, rfl⟩), by simp; omega, fun q => by omega, ok⟩
      · have h2 : t.hands = 2 := by
          rcases hh with e | e
          · rw [e] at c; simp at c; omega
          · exact e
        rw [h2] at c
        simp at c
        exact ⟨.inr (.inr ⟨by omega, i, k, a, b, c, rfl⟩), by simp; omega, fun q => by omega, ok⟩
    · rintro ⟨(rfl | ⟨i, a, b, rfl⟩ | ⟨q, i, k, a, b, c, rfl⟩), _, _, ok⟩
      · exact ⟨.inl (.inl rfl), ok⟩
      · exact ⟨.inl (.inr ⟨i, ⟨a, by omega⟩, rfl⟩), ok⟩
      · have h2 : t.hands = 2 := by omega
        exact ⟨.inr ⟨i, k, a, b, by rw [h2]; simpa using c, rfl⟩, ok⟩
  · rw [if_neg (by omega)]
    simp only [List.mem_cons, List.not_mem_nil, or_false]
    constructor
    · rintro ⟨rfl, ok⟩
      exact ⟨.inl rfl, by simp; omega, fun q => rfl, ok⟩
    · rintro ⟨_, _, q, ok⟩
      exact ⟨q h, ok⟩
theorem later_len {t : Task} {s : Stand} {d : List Int} (h : d ∈ laterDays t s) : d.length ≤ 2 := by
  unfold laterDays at h
  rcases mem_allDays.mp (List.mem_filter.mp h).1 with rfl | ⟨i, _, _, rfl⟩ | ⟨_, i, j, _, _, _, rfl⟩ <;> simp
def q__law_days : List Vd → Vd → Prop := fun a z => ∃ (t : Task) (s : Stand), a = [.d t.enc, .d s.enc] ∧ TaskOk t ∧ SW t s ∧ z = .l ((daysL t s).map dI)
abbrev sp__law_days : Sp := spP q__law_days
theorem e__law_days {ta : TA} {t : Task} {s : Stand} (h : EvA dr ta δ [.d t.enc, .d s.enc]) (ht : TaskOk t) (hs : SW t s) : Ev dr (tCall sp__law_days [] C8.E0 ta) δ (.l ((daysL t s).map dI)) := ev_call h ⟨_, _, rfl, ht, hs, rfl⟩
abbrev s__law_days : Stmt := Hd.top 74
abbrev N__law_days : List Str := ["_law_task_here", "_law_stand", "_law_numbers", "_law_hands", "_law_off_here", "_law_long_here", "_law_tied_here", "_law_phase", "_law_waits", "_law_busy", "_law_last", "_law_days_here", "_law_j", "_law_found", "_law_day", "_law_barred", "_law_i", "_law_one"]
theorem nd__law_days : N__law_days.Nodup := by decide +kernel
theorem sc__law_days : C8.scC N__law_days ["_law_task_here", "_law_stand"] (C8.fnScope s__law_days) = true := by decide +kernel
def t__law_days (K : PySem.W.Frag) : TS :=
  (tSeq (tAsg (tVar 0) (gTup K 5 (unp [2, 3, 4, 5, 6])))
  (tSeq (tAsg (tVar 1) (gTup K 4 (unp [7, 8, 9, 10])))
  (tSeq (tAsg (tLst (tCons (tTup tNil) tNil)) (gName 11))
  (tSeq (tIfS (tTest (tOp rEq (tOp (rIxT K) (tVar 4) (tVar 7)) (tC (.int 0)))) (tSeq (tAsg (tOp rCat (tVar 11) (tLc (iRng1 (tCons (tCB (rLen K) (tCons (tVar 2) tNil)) tNil)) (gName 16) tYes (tTup (tCons (tVar 16) tNil)) [16])) (gName 11))
  (tSeq (tFor (iRng1 (tCons (tOp oMul (tCB (rLen K) (tCons (tVar 2) tNil)) (tCB rInt1 (tCons (tOp rEq (tVar 3) (tC (.int 2))) tNil))) tNil)) (gName 12) (tSeq (tAsg (tOp rCat (tVar 11) (tLc (iRng1 (tCons (tVar 12) tNil)) (gName 16) tYes (tTup (tCons (tVar 16) (tCons (tVar 12) tNil))) [16])) (gName 11))
  tNext))
  tNext)) tNext)
  (tSeq (tAsg (tLst tNil) (gName 13))
  (tSeq (tFor (iList K (tVar 11)) (gName 14) (tSeq (tAsg (tLc (iTup K (tVar 6)) (gName 17) (tOr (tAnd (tTest (tOp (rIn K false) (tOp (rIxT K) (tVar 17) (tC (.int 0))) (tVar 14))) (tTest (tOp (rIn K false) (tOp (rIxT K) (tVar 17) (tC (.int 1))) (tVar 10)))) (tAnd (tTest (tOp (rIn K false) (tOp (rIxT K) (tVar 17) (tC (.int 1))) (tVar 14))) (tTest (tOp (rIn K false) (tOp (rIxT K) (tVar 17) (tC (.int 0))) (tVar 10))))) (tVar 17) [17]) (gName 15))
  (tSeq (tIfS (tAnd (tTest (tOp (rEqD K) (tVar 15) (tLst tNil))) (tTest (tOp (rEqD K) (tLc (iTup K (tVar 9)) (gName 16) (tTest (tOp (rIn K true) (tVar 16) (tVar 14))) (tVar 16) [16]) (tLst tNil)))) (tSeq (tDrop (tBM K "list" rAppend (tVar 13) (tCons (tVar 14) tNil)))
  tNext) tNext)
  tNext)))
  (tSeq (tRet (tCB (rSortT K) (tCons (tVar 13) tNil)))
  tNext)))))))
theorem d__law_days {P : Program} {w : World} {K : PySem.W.Frag} {mg : Str → Option Value} {base : Heap} (T : Top K mg) (f : Addr) (cdv : Value) (A : Around) (outer : List Env) (s : Shared) (H : Hp) (E : XK)
    (hr : Room 0 (A.deeper (PyProof.Rows.envOfC "_law_days" (C8.fnScope s__law_days) s.heap.objs.size f cdv))) :
    PSs (cxOf C8.CX0 P w K mg base N__law_days "_law_days" (C8.fnScope s__law_days) f cdv A outer s H E).nox (C8.fnBody s__law_days) (t__law_days K) :=
  (pss_cons (ps_asg (pv 0) (pg_tup (by rfl) (pgs_cons (pg_name (i := 2) nd__law_days rfl (by first | exact Or.inl rfl | exact Or.inr rfl)) (pgs_cons (pg_name (i := 3) nd__law_days rfl (by first | exact Or.inl rfl | exact Or.inr rfl)) (pgs_cons (pg_name (i := 4) nd__law_days rfl (by first | exact Or.inl rfl | exact Or.inr rfl)) (pgs_cons (pg_name (i := 5) nd__law_days rfl (by first | exact Or.inl rfl | exact Or.inr rfl)) (pgs_cons (pg_name (i := 6) nd__law_days rfl (by first | exact Or.inl rfl | exact Or.inr rfl)) pgs_nil)))))))
  (pss_cons (ps_asg (pv 1) (pg_tup (by rfl) (pgs_cons (pg_name (i := 7) nd__law_days rfl (by first | exact Or.inl rfl | exact Or.inr rfl)) (pgs_cons (pg_name (i := 8) nd__law_days rfl (by first | exact Or.inl rfl | exact Or.inr rfl)) (pgs_cons (pg_name (i := 9) nd__law_days rfl (by first | exact Or.inl rfl | exact Or.inr rfl)) (pgs_cons (pg_name (i := 10) nd__law_days rfl (by first | exact Or.inl rfl | exact Or.inr rfl)) pgs_nil))))))
  (pss_cons (ps_set (i := 11) nd__law_days rfl (by first | exact Or.inl rfl | exact Or.inr rfl) (pe_lst (pa_cons (pe_tup pa_nil) pa_nil)))
  (pss_cons (ps_if (pt_cmpR op_eq (pe_ix ix_tup (pv 4) (pv 7) (fun _ _ => rfl)) pe_int (nomark _)) (pss_cons (ps_set (i := 11) nd__law_days rfl (by first | exact Or.inl rfl | exact Or.inr rfl) (pe_op op_cat (pv 11) (pe_lc (own := [("_law_i", 16)]) (g := gName 16) rfl nd__law_days (pi_range1 rfl T.n_range (pa_cons (pe_callB cr_len (by rfl) T.n_len bt_len (pa_cons (pv 2) pa_nil)) pa_nil)) (blkOk_by (N := N__law_days) (sc := C8.fnScope s__law_days) (by decide +kernel)) (fun _ _ _ _ _ => pg_name (i := 16) nd__law_days rfl (by first | exact Or.inl rfl | exact Or.inr rfl)) (fun _ _ _ _ _ => pts_nil) (fun _ _ _ _ _ => (pe_tup (pa_cons (pv 16) pa_nil))))))
  (pss_cons (ps_for PassesOwn.never rfl (pi_range1 rfl T.n_range (pa_cons (pe_op op_mul (pe_callB cr_len (by rfl) T.n_len bt_len (pa_cons (pv 2) pa_nil)) (pe_callTy cr_int (by rfl) T.n_int bt_int (pa_cons (pe_cmpR op_eq (pv 3) pe_int (nomark _)) pa_nil))) pa_nil)) (pg_name (i := 12) nd__law_days rfl (by first | exact Or.inl rfl | exact Or.inr rfl)) (pss_cons (ps_set (i := 11) nd__law_days rfl (by first | exact Or.inl rfl | exact Or.inr rfl) (pe_op op_cat (pv 11) (pe_lc (own := [("_law_i", 16)]) (g := gName 16) rfl nd__law_days (pi_range1 rfl T.n_range (pa_cons (pv 12) pa_nil)) (blkOk_by (N := N__law_days) (sc := C8.fnScope s__law_days) (by decide +kernel)) (fun _ _ _ _ _ => pg_name (i := 16) nd__law_days rfl (by first | exact Or.inl rfl | exact Or.inr rfl)) (fun _ _ _ _ _ => pts_nil) (fun _ _ _ _ _ => (pe_tup (pa_cons (pv 16) (pa_cons (pv 12) pa_nil)))))))
  pss_nil))
  pss_nil)) pss_nil)
  (pss_cons (ps_set (i := 13) nd__law_days rfl (by first | exact Or.inl rfl | exact Or.inr rfl) (pe_lst pa_nil))
  (pss_cons (ps_for PassesOwn.never rfl (pi_list (pv 11)) (pg_name (i := 14) nd__law_days rfl (by first | exact Or.inl rfl | exact Or.inr rfl)) (pss_cons (by first | exact ps_setLc (i := 15) (own := [("_law_one", 17)]) (g := gName 17) rfl nd__law_days rfl rfl (sw_true rfl rfl rfl (by decide +kernel)) (pi_tup (pv 6)) (blkOk_by (N := N__law_days) (sc := C8.fnScope s__law_days) (by decide +kernel)) (fun _ _ _ _ _ => pg_name (i := 17) nd__law_days rfl (by first | exact Or.inl rfl | exact Or.inr rfl)) (fun _ _ _ _ _ => pts_one (PW.pt (pw_or (PW.pt (pw_and (pt_cmpR op_in_seq (pe_ix ix_tup (pv 17) pe_int (fun _ _ => rfl)) (pv 14) (by rfl)) (pw_and1 (pt_cmpR op_in_seq (pe_ix ix_tup (pv 17) pe_int (fun _ _ => rfl)) (pv 10) (by rfl))))) (pw_or1 (PW.pt (pw_and (pt_cmpR op_in_seq (pe_ix ix_tup (pv 17) pe_int (fun _ _ => rfl)) (pv 14) (by rfl)) (pw_and1 (pt_cmpR op_in_seq (pe_ix ix_tup (pv 17) pe_int (fun _ _ => rfl)) (pv 10) (by rfl))))))))) (fun _ _ _ _ _ => (pv 17)) | exact ps_set (i := 15) nd__law_days rfl (by first | exact Or.inl rfl | exact Or.inr rfl) (pe_lc (own := [("_law_one", 17)]) (g := gName 17) rfl nd__law_days (pi_tup (pv 6)) (blkOk_by (N := N__law_days) (sc := C8.fnScope s__law_days) (by decide +kernel)) (fun _ _ _ _ _ => pg_name (i := 17) nd__law_days rfl (by first | exact Or.inl rfl | exact Or.inr rfl)) (fun _ _ _ _ _ => pts_one (PW.pt (pw_or (PW.pt (pw_and (pt_cmpR op_in_seq (pe_ix ix_tup (pv 17) pe_int (fun _ _ => rfl)) (pv 14) (by rfl)) (pw_and1 (pt_cmpR op_in_seq (pe_ix ix_tup (pv 17) pe_int (fun _ _ => rfl)) (pv 10) (by rfl))))) (pw_or1 (PW.pt (pw_and (pt_cmpR op_in_seq (pe_ix ix_tup (pv 17) pe_int (fun _ _ => rfl)) (pv 14) (by rfl)) (pw_and1 (pt_cmpR op_in_seq (pe_ix ix_tup (pv 17) pe_int (fun _ _ => rfl)) (pv 10) (by rfl))))))))) (fun _ _ _ _ _ => (pv 17))))
  (pss_cons (ps_if (PW.pt (pw_and (pt_cmpR (op_eqD hr.units) (pv 15) (pe_lst pa_nil) (nomark _)) (pw_and1 (pt_cmpR (op_eqD hr.units) (pe_lc (own := [("_law_i", 16)]) (g := gName 16) rfl nd__law_days (pi_tup (pv 9)) (blkOk_by (N := N__law_days) (sc := C8.fnScope s__law_days) (by decide +kernel)) (fun _ _ _ _ _ => pg_name (i := 16) nd__law_days rfl (by first | exact Or.inl rfl | exact Or.inr rfl)) (fun _ _ _ _ _ => pts_one (pt_cmpR op_notIn_seq (pv 16) (pv 14) (by rfl))) (fun _ _ _ _ _ => (pv 16))) (pe_lst pa_nil) (nomark _))))) (pss_cons (ps_expr (pe_bm PySem.F.plainAttrs_list PySem.F.slot_list_append PySem.F.type_list_append mt_append (pv 13) (pa_cons (pv 14) pa_nil)))
  pss_nil) pss_nil)
  pss_nil)))
  (pss_cons (ps_ret (pe_callB (cr_sortT (Room.u64 hr)) (by rfl) T.n_sorted bt_sorted (pa_cons (pv 13) pa_nil)))
  pss_nil)))))))
theorem alike_dI (a b : List Int) : PySem.W.alike (dI a) (dI b) = true := by
  unfold dI
  simp only [PySem.W.alike]
  exact PySem.W.alike_ints a b
theorem sortOk_dI {ds : List (List Int)} (h : (∃ r, ds = [] :: r) ∨ ∀ d ∈ ds, d ≠ []) (hl : ds.length ≤ 900000) : SortOk (ds.map dI) := by
  refine ⟨PySem.W.AllAlike.of alike_dI, ?_, fun d hd => by obtain ⟨x, _, rfl⟩ := List.mem_map.mp hd; exact Nat.le_trans (sh_dI x).2 (by decide), by rw [List.length_map]; exact hl⟩
  rcases h with ⟨r, rfl⟩ | h
  · exact .inr ⟨⟨r.map dI, rfl⟩, fun d hd => by obtain ⟨x, _, rfl⟩ := List.mem_map.mp hd; exact ⟨_, rfl⟩⟩
  · refine .inl (.inl fun d hd => ?_)
    obtain ⟨x, hx, rfl⟩ := List.mem_map.mp hd
    cases x with
    | nil => exact absurd rfl (h [] hx)
    | cons a l => exact ⟨_, _, rfl⟩
theorem c__law_days (T : Top K mg) : C8.Cal P w K mg base 1 "_law_days" sp__law_days [] := by
  refine cal_of T.f__law_days sc__law_days (t__law_days K) (fun zs z h => ?_) (fun f cdv A outer s H E hr => d__law_days T f cdv A outer s H E hr) (fun dr B E zs z hp hB hR hN => ?_)
  · obtain ⟨_, _, rfl, _⟩ := h; rfl
  obtain ⟨t, s, rfl, ht, hs, rfl⟩ := hp
  have hn := ht.num.1
  have hbz := hs.bz
  have htl := ht.tied.1
  have hlen : (List.map PyData.int t.num).length = t.num.length := List.length_map ..
  refine w_unp hB (ev_var (d := t.enc) rfl) rfl rfl ?_
  refine w_unp hB (ev_var (d := s.enc) rfl) rfl rfl ?_
  have fin : ∀ (q : Addr) (c12 : Sd) (r : List (List Int)), (∀ p, okm p c12) → r.length ≤ 500 → (∀ d ∈ r, d ≠ []) → [] :: r = dhL t s →
      W dr B E (tSeq (tAsg (tLst tNil) (gName 13))
  (tSeq (tFor (iList K (tVar 11)) (gName 14) (tSeq (tAsg (tLc (iTup K (tVar 6)) (gName 17) (tOr (tAnd (tTest (tOp (rIn K false) (tOp (rIxT K) (tVar 17) (tC (.int 0))) (tVar 14))) (tTest (tOp (rIn K false) (tOp (rIxT K) (tVar 17) (tC (.int 1))) (tVar 10)))) (tAnd (tTest (tOp (rIn K false) (tOp (rIxT K) (tVar 17) (tC (.int 1))) (tVar 14))) (tTest (tOp (rIn K false) (tOp (rIxT K) (tVar 17) (tC (.int 0))) (tVar 10))))) (tVar 17) [17]) (gName 15))
  (tSeq (tIfS (tAnd (tTest (tOp (rEqD K) (tVar 15) (tLst tNil))) (tTest (tOp (rEqD K) (tLc (iTup K (tVar 9)) (gName 16) (tTest (tOp (rIn K true) (tVar 16) (tVar 14))) (tVar 16) [16]) (tLst tNil)))) (tSeq (tDrop (tBM K "list" rAppend (tVar 13) (tCons (tVar 14) tNil)))
  tNext) tNext)
  tNext)))
  (tSeq (tRet (tCB (rSortT K) (tCons (tVar 13) tNil)))
  tNext))) [.d t.enc, .d s.enc, .d (dI t.num), .d (.int t.hands), .d (dI t.off), .d (dI t.long), .d (.tuple (t.tied.map pr)), .d (.int s.ph), .d (dI s.wt), .d (dI s.bz), .d (dI s.ls), .l q (([] :: r).map dI), c12, .x, .x, .x, .x, .x] := by
    intro q c12 r hc12 hr hne hdh
    have hdl : ([] :: r).length ≤ 501 := by simp; omega
    refine w_asgN hB (en_lst ead_nil (by nested_key)) fun p13 np13 mp13 fr13 => ?_
    have hq13 : q ≠ p13 := fr_get (i := 11) fr13 rfl
    have hc12 := hc12 p13
    refine w_forS (q := q) (k := 11) ([] :: r) dI (fun i δ' => ∃ c14 c15 : Sd, δ' = [.d t.enc, .d s.enc, .d (dI t.num), .d (.int t.hands), .d (dI t.off), .d (dI t.long), .d (.tuple (t.tied.map pr)), .d (.int s.ph), .d (dI s.wt), .d (dI s.bz), .d (dI s.ls), .l q (([] :: r).map dI), c12, .l p13 (((([] :: r).take i).filter (okL t s)).map dI), c14, c15, .x, .x] ∧ okm p13 c15) hB (fun i δ' h => by obtain ⟨c14, c15, rfl, _⟩ := h; rfl) ⟨.x, .x, rfl, trivial⟩ (fun i d δ' ha hI => ?_) (fun δ' hI => ?_)
    · obtain ⟨c14, c15, rfl, k15⟩ := hI
      refine w_asgN hB (en_lcT t.tied pr (fun p => (decide (p.1 ∈ d) && decide (p.2 ∈ s.ls)) || (decide (p.2 ∈ d) && decide (p.1 ∈ s.ls))) pr (ev_var rfl) (by omega) (by simp) (fun a ha => (et_or (et_and (et_test (ev_op (ev_op (ev_var (d := pr a) rfl) ev_int (rr_ixT at0)) (ev_var rfl) rr_inT)) fun _ => (et_test (ev_op (ev_op (ev_var (d := pr a) rfl) ev_int (rr_ixT at1)) (ev_var rfl) rr_inT))) fun _ => (et_and (et_test (ev_op (ev_op (ev_var (d := pr a) rfl) ev_int (rr_ixT at1)) (ev_var rfl) rr_inT)) fun _ => (et_test (ev_op (ev_op (ev_var (d := pr a) rfl) ev_int (rr_ixT at0)) (ev_var rfl) rr_inT))))) (fun a ha hf => (ev_var rfl))) fun p15 np15 mp15 fr15 => ?_
      have h15 : p13 ≠ p15 := fr_get (i := 13) fr15 rfl
      refine w_if hB (b := okL t s d) (EvT.is (et_and (et_test (ev_op (ev_varL rfl) (en_lst ead_nil (by nested_key)).ev (rr_eqNil (Sh.ok (n := 2) (Sh.lst (Sh.map fun p => sh_dI [p.1, p.2])) (by decide))))) fun _ => (et_test (ev_op (en_lcT s.bz PyData.int (fun i => !decide (i ∈ d)) PyData.int (ev_var rfl) (by omega) (by simp) (fun a ha => (et_test (ev_op (ev_var rfl) (ev_var rfl) rr_niT))) (fun a ha hf => (ev_var rfl))).ev (en_lst ead_nil (by nested_key)).ev (rr_eqNil (shaped_li _))))) ?_) (fun hb => ?_) (fun hb => ?_)
      · rw [isEmpty_filter, isEmpty_filter]
        unfold okL tiedB
        simp only [Bool.not_not]
        congr 1
        rw [List.all_eq_not_any_not]
        simp
      · refine w_app hB rfl mp13 (ev_var rfl) (by rw [List.length_map]; have := List.length_filter_le (okL t s) (([] :: r).take i); rw [List.length_take] at this; omega) ⟨trivial, trivial, trivial, trivial, trivial, trivial, trivial, trivial, trivial, trivial, trivial, hq13, hc12, trivial, trivial, Ne.symm h15, trivial, trivial, trivial⟩ ?_
        refine w_nx ?_
        refine w_end ⟨.d (dI d), .l p15 ((t.tied.filter (fun p => (decide (p.1 ∈ d) && decide (p.2 ∈ s.ls)) || (decide (p.2 ∈ d) && decide (p.1 ∈ s.ls)))).map pr), ?_, Ne.symm h15⟩
        have e := fm_succ (f := okL t s) (g := dI) ha
        rw [hb, if_pos rfl] at e
        rw [e]
        rfl
      · refine w_nx ?_
        refine w_end ⟨.d (dI d), .l p15 ((t.tied.filter (fun p => (decide (p.1 ∈ d) && decide (p.2 ∈ s.ls)) || (decide (p.2 ∈ d) && decide (p.1 ∈ s.ls)))).map pr), ?_, Ne.symm h15⟩
        have e := fm_succ (f := okL t s) (g := dI) ha
        rw [hb, if_neg (by decide)] at e
        rw [e]
        rfl
    · obtain ⟨c14, c15, rfl, k15⟩ := hI
      rw [List.take_length]
      refine w_ret hB (Ev.is (EvN.ev (en_sortT (([] :: r).filter (okL t s)) dI (sortOk_dI ?_ (by have := List.length_filter_le (okL t s) ([] :: r); omega)) (ev_varL rfl))) ?_) hR
      · rw [List.filter_cons]
        split
        · exact .inl ⟨_, rfl⟩
        · exact .inr fun d hd => hne d (List.mem_filter.mp hd).1
      · unfold daysL
        rw [hdh]
  refine w_asgN hB (en_lst (ds := [dI []]) (ead_cons (ev_tup ead_nil (by nested_key)) ead_nil) (by nested_key)) fun q0 nq0 mq0 frq0 => ?_
  refine w_if hB (et_test (ev_op (ev_op (ev_var rfl) (ev_var rfl) (rr_ixT (at_map hs.ph0 (getDI hs.ph0 hs.ph1)))) ev_int rr_eqI)) (fun hb => ?_) (fun hb => ?_)
  · have h0 : t.off.getD s.ph.toNat 0 = 0 := by simpa using hb
    refine w_asgN hB (en_op (ev_varL rfl) (en_lcR1 (fun _ => true) (fun i => dI [i]) (ea_cons (ev_cb (ea_cons (ev_var rfl) ea_nil) rc_lenT) ea_nil) (by rw [hlen]; omega) (by omega) (by simp) (fun i hi1 hi2 => et_yes) (fun i hi1 hi2 hf => (ev_tup (ead_cons (ev_var rfl) ead_nil) (by nested_key)))).ev (rn_cat (by rw [filt_true, List.length_map, upto_len, hlen]; simp [small]; omega))) fun q1 nq1 mq1 frq1 => ?_
    have hm : ((t.num.map PyData.int).length : Int) * (if decide (t.hands = 2) = true then 1 else 0) = (hhN t : Int) := by
      rw [hlen]; unfold hhN
      by_cases e : t.hands = 2 <;> simp [e]
    have hm8 : hhN t ≤ 8 := by
      unfold hhN
      by_cases e : t.hands = 2 <;> simp [e]; omega
    refine w_forR1 (n := (hhN t : Int)) (fun j δ' => ∃ (q : Addr) (c12 : Sd), δ' = [.d t.enc, .d s.enc, .d (dI t.num), .d (.int t.hands), .d (dI t.off), .d (dI t.long), .d (.tuple (t.tied.map pr)), .d (.int s.ph), .d (dI s.wt), .d (dI s.bz), .d (dI s.ls), .l q ((([] :: (upto 0 t.num.length).map fun i => [i]) ++ prU j).map dI), c12, .x, .x, .x, .x, .x] ∧ ∀ p, okm p c12) hB (ea_cons (Ev.is (ev_op (ev_cb (ea_cons (ev_var rfl) ea_nil) rc_lenT) (ev_cb (ea_cons (ev_op (ev_var rfl) ev_int rr_eqI) ea_nil) rc_intB) (rr_I (.inl (by rw [hlen]; omega)) fun _ => .int _)) (by rw [hm])) ea_nil) (by omega) (by omega) ⟨q1, .x, ?_, fun _ => trivial⟩ (fun j δ' hj hI => ?_) (fun δ' hI => ?_)
    · rw [hlen, Int.toNat_natCast, filt_true]
      simp only [prU, List.append_nil, List.map_cons, List.map_map]
      rfl
    · obtain ⟨q, c12, rfl, h12⟩ := hI
      have hpl := prU_len j (by omega)
      refine w_asgN hB (en_op (ev_varL rfl) (en_lcR1 (fun _ => true) (fun i => dI [i, (j : Int)]) (ea_cons (ev_var rfl) ea_nil) (by omega) (by omega) (by simp) (fun i hi1 hi2 => et_yes) (fun i hi1 hi2 hf => (ev_tup (ead_cons (ev_var rfl) (ead_cons (ev_var rfl) ead_nil)) (by nested_key)))).ev (rn_cat (by rw [filt_true, List.length_map, List.length_map, upto_len, List.length_append, List.length_cons, List.length_map, upto_len]; unfold small; omega))) fun q2 nq2 mq2 frq2 => ?_
      refine w_end ⟨q2, .d (.int j), ?_, fun _ => trivial⟩
      rw [filt_true]
      simp only [prU, List.map_append, List.map_map, Int.toNat_natCast, List.append_assoc]
      rfl
    · obtain ⟨q, c12, rfl, h12⟩ := hI
      rw [Int.toNat_natCast]
      have hpl := prU_len (hhN t) hm8
      refine w_nx ?_
      refine fin q c12 ((upto 0 t.num.length).map (fun i => [i]) ++ prU (hhN t)) h12 (by rw [List.length_append, List.length_map, upto_len]; omega) (fun d hd => ?_) (by unfold dhL; rw [if_pos h0]; rfl)
      rcases List.mem_append.mp hd with h | h
      · obtain ⟨i, _, rfl⟩ := List.mem_map.mp h; simp
      · obtain ⟨i, k, _, _, _, rfl⟩ := mem_prU.mp h; simp
  · refine w_nx ?_
    refine fin q0 .x [] (fun _ => trivial) (by simp) (fun d hd => nomatch hd) ?_
    unfold dhL
    rw [if_neg (by simpa using hb)]
end
end Ed
end
section
set_option maxHeartbeats 4000000
namespace Ed
open PySem L2
local macro_rules | `(tactic| nested_key) => `(tactic| first
  | rfl
  | assumption
  | omega
  | exact Nat.le_of_ble_eq_true rfl
  | decide
  | (simp only [List.length_map, small]; omega)
  | (simp [small]; done)
  | (simp only [Vd.sd, setAll, List.set, mutAll, okm, Fr] at *; simp_all; done))

section
variable {P : Program} {w : World} {K : PySem.W.Frag} {mg : Str → Option Value} {base : Heap} {dr : Option Addr} {δ : List Sd} {ta : TA} {te : TE}
/-! _law_step -/
def stepL (t : Task) (s : Stand) (d : List Int) : Option Stand := if d ∈ daysL t s then nextS t s d else none
def q__law_step : List Vd → Vd → Prop := fun a z => ∃ (t : Task) (s : Stand) (day : List Int), a = [.d t.enc, .d s.enc, .d (dI day)] ∧ TaskOk t ∧ SW t s ∧ day.length ≤ 1000 ∧ z = .d (oenc (stepL t s day))
abbrev sp__law_step : Sp := spP q__law_step
theorem e__law_step {ta : TA} {t : Task} {s : Stand} {day : List Int} (h : EvA dr ta δ [.d t.enc, .d s.enc, .d (dI day)]) (ht : TaskOk t) (hs : SW t s) (hd : day.length ≤ 1000) : Ev dr (tCall sp__law_step [] C8.E0 ta) δ (.d (oenc (stepL t s day))) := ev_call h ⟨_, _, _, rfl, ht, hs, hd, rfl⟩
abbrev s__law_step : Stmt := Hd.top 77
abbrev N__law_step : List Str := ["_law_task_here", "_law_stand", "_law_day"]
theorem nd__law_step : N__law_step.Nodup := by decide +kernel
theorem sc__law_step : C8.scC N__law_step ["_law_task_here", "_law_stand", "_law_day"] (C8.fnScope s__law_step) = true := by decide +kernel
def t__law_step (K : PySem.W.Frag) : TS :=
  (tSeq (tIfS (tTest (tOp (rNotInD K) (tVar 2) (tCall sp__law_days [] C8.E0 (tCons (tVar 0) (tCons (tVar 1) tNil))))) (tSeq (tRet (tC .non))
  tNext) tNext)
  (tSeq (tRet (tCall sp__law_next_stand [] C8.E0 (tCons (tVar 0) (tCons (tVar 1) (tCons (tVar 2) tNil)))))
  tNext))
theorem d__law_step {P : Program} {w : World} {K : PySem.W.Frag} {mg : Str → Option Value} {base : Heap} (T : Top K mg) (f : Addr) (cdv : Value) (A : Around) (outer : List Env) (s : Shared) (H : Hp) (E : XK)
    (hr : Room 1 (A.deeper (PyProof.Rows.envOfC "_law_step" (C8.fnScope s__law_step) s.heap.objs.size f cdv))) :
    PSs (cxOf C8.CX0 P w K mg base N__law_step "_law_step" (C8.fnScope s__law_step) f cdv A outer s H E).nox (C8.fnBody s__law_step) (t__law_step K) :=
  (pss_cons (ps_if (pt_cmpR (op_notInD (Room.u65 hr)) (pv 2) (C8.pe_c (c__law_days T) hr (by decide) rfl (pa_cons (pv 0) (pa_cons (pv 1) pa_nil))) (by rfl)) (pss_cons (ps_ret pe_non)
  pss_nil) pss_nil)
  (pss_cons (ps_ret (C8.pe_c (c__law_next_stand T) hr (by decide) rfl (pa_cons (pv 0) (pa_cons (pv 1) (pa_cons (pv 2) pa_nil)))))
  pss_nil))
theorem any_dI {xs : List (List Int)} {d : List Int} : ((xs.map dI).any fun z => PyData.eqv z (dI d)) = decide (d ∈ xs) := by
  rw [Bool.eq_iff_iff, List.any_eq_true, decide_eq_true_eq]
  constructor
  · rintro ⟨z, hz, h⟩
    obtain ⟨x, hx, rfl⟩ := List.mem_map.mp hz
    rw [eqv_dI, decide_eq_true_eq] at h
    rw [← h]; exact hx
  · intro h
    exact ⟨_, List.mem_map.mpr ⟨d, h, rfl⟩, by rw [eqv_dI]; simp⟩
theorem c__law_step (T : Top K mg) : C8.Cal P w K mg base 2 "_law_step" sp__law_step [] := by
  refine cal_of T.f__law_step sc__law_step (t__law_step K) (fun zs z h => ?_) (fun f cdv A outer s H E hr => d__law_step T f cdv A outer s H E hr) (fun dr B E zs z hp hB hR hN => ?_)
  · obtain ⟨_, _, _, rfl, _⟩ := h; rfl
  obtain ⟨t, s, day, rfl, ht, hs, hd, rfl⟩ := hp
  refine w_if hB (et_test (ev_op (ev_var rfl) (e__law_days (ea_cons (ev_var rfl) (ea_cons (ev_var rfl) ea_nil)) ht hs) (rr_niD ((sh_dI _).ok (by decide)) (shaped_ld _)))) (fun hb => ?_) (fun hb => ?_)
  · rw [any_dI] at hb
    refine w_ret hB (Ev.is ev_non ?_) hR
    unfold stepL
    rw [if_neg (by simpa using hb)]; rfl
  · rw [any_dI] at hb
    refine w_nx ?_
    refine w_ret hB (Ev.is (e__law_next_stand (ea_cons (ev_var rfl) (ea_cons (ev_var rfl) (ea_cons (ev_var rfl) ea_nil))) ht hs hd) ?_) hR
    unfold stepL
    rw [if_pos (by simpa using hb)]
/-! _law_walked -/
def walkL (t : Task) : Option Stand → List (List Int) → Option Stand
  | o, [] => o
  | o, d :: ds => walkL t (o.bind fun s => stepL t s d) ds
theorem stepL_sw {t : Task} {s s' : Stand} {d : List Int} (ht : TaskOk t) (hd : d.length ≤ 1000) (h : stepL t s d = some s') : SW t s' := by
  unfold stepL at h
  split at h
  · exact nextS_sw ht hd h
  · cases h
theorem walkL_sw {t : Task} (ht : TaskOk t) : ∀ {ds : List (List Int)} {o : Option Stand} {s' : Stand}, (∀ s, o = some s → SW t s) → (∀ d ∈ ds, d.length ≤ 1000) → walkL t o ds = some s' → SW t s'
  | [], o, s', ho, _, h => ho s' h
  | d :: ds, o, s', ho, hd, h => by
    refine walkL_sw ht (ds := ds) (o := o.bind fun s => stepL t s d) (fun s hs => ?_) (fun x hx => hd x (List.mem_cons_of_mem _ hx)) h
    cases o with
    | none => cases hs
    | some s0 => exact stepL_sw ht (hd d List.mem_cons_self) hs
def q__law_walked : List Vd → Vd → Prop := fun a z => ∃ (t : Task) (o : Option Stand) (ds : List (List Int)), a = [.d t.enc, .d (oenc o), .d (dII ds)] ∧ TaskOk t ∧ (∀ s, o = some s → SW t s) ∧ ds.length ≤ 100000 ∧ (∀ d ∈ ds, d.length ≤ 1000) ∧ z = .d (oenc (walkL t o ds))
abbrev sp__law_walked : Sp := spP q__law_walked
theorem e__law_walked {ta : TA} {t : Task} {o : Option Stand} {ds : List (List Int)} (h : EvA dr ta δ [.d t.enc, .d (oenc o), .d (dII ds)]) (ht : TaskOk t) (hs : ∀ s, o = some s → SW t s) (hl : ds.length ≤ 100000) (hd : ∀ d ∈ ds, d.length ≤ 1000) : Ev dr (tCall sp__law_walked [] C8.E0 ta) δ (.d (oenc (walkL t o ds))) := ev_call h ⟨_, _, _, rfl, ht, hs, hl, hd, rfl⟩
abbrev s__law_walked : Stmt := Hd.top 78
abbrev N__law_walked : List Str := ["_law_task_here", "_law_stand", "_law_days_here", "_law_day"]
theorem nd__law_walked : N__law_walked.Nodup := by decide +kernel
theorem sc__law_walked : C8.scC N__law_walked ["_law_task_here", "_law_stand", "_law_days_here"] (C8.fnScope s__law_walked) = true := by decide +kernel
def t__law_walked (K : PySem.W.Frag) : TS :=
  (tSeq (tFor (iTup K (tVar 2)) (gName 3) (tSeq (tIfS (tTest (tOp rNotN (tVar 1) (tC .non))) (tSeq (tAsg (tCall sp__law_step [] C8.E0 (tCons (tVar 0) (tCons (tVar 1) (tCons (tVar 3) tNil)))) (gName 1))
  tNext) tNext)
  tNext))
  (tSeq (tRet (tVar 1))
  tNext))
theorem d__law_walked {P : Program} {w : World} {K : PySem.W.Frag} {mg : Str → Option Value} {base : Heap} (T : Top K mg) (f : Addr) (cdv : Value) (A : Around) (outer : List Env) (s : Shared) (H : Hp) (E : XK)
    (hr : Room 2 (A.deeper (PyProof.Rows.envOfC "_law_walked" (C8.fnScope s__law_walked) s.heap.objs.size f cdv))) :
    PSs (cxOf C8.CX0 P w K mg base N__law_walked "_law_walked" (C8.fnScope s__law_walked) f cdv A outer s H E).nox (C8.fnBody s__law_walked) (t__law_walked K) :=
  (pss_cons (ps_for PassesOwn.never rfl (pi_tup (pv 2)) (pg_name (i := 3) nd__law_walked rfl (by first | exact Or.inl rfl | exact Or.inr rfl)) (pss_cons (ps_if (pt_cmpR op_notN' (pv 1) pe_non (nomark _)) (pss_cons (ps_set (i := 1) nd__law_walked rfl (by first | exact Or.inl rfl | exact Or.inr rfl) (C8.pe_c (c__law_step T) hr (by decide) rfl (pa_cons (pv 0) (pa_cons (pv 1) (pa_cons (pv 3) pa_nil)))))
  pss_nil) pss_nil)
  pss_nil))
  (pss_cons (ps_ret (pv 1))
  pss_nil))
theorem c__law_walked (T : Top K mg) : C8.Cal P w K mg base 3 "_law_walked" sp__law_walked [] := by
  refine cal_of T.f__law_walked sc__law_walked (t__law_walked K) (fun zs z h => ?_) (fun f cdv A outer s H E hr => d__law_walked T f cdv A outer s H E hr) (fun dr B E zs z hp hB hR hN => ?_)
  · obtain ⟨_, _, _, rfl, _⟩ := h; rfl
  obtain ⟨t, o, ds, rfl, ht, hs, hl, hd, rfl⟩ := hp
  refine w_forT ds dI (fun i δ' => ∃ (o' : Option Stand) (c : Sd), δ' = [.d t.enc, .d (oenc o'), .d (dII ds), c] ∧ (∀ s, o' = some s → SW t s) ∧ walkL t o ds = walkL t o' (ds.drop i)) hB (ev_var rfl) ⟨o, .x, rfl, hs, rfl⟩ (fun B' hB' hb mu i a δ' ha hI => ?_) (fun δ' hI => ?_)
  · obtain ⟨o', c, rfl, hs', he⟩ := hI
    rw [drop_at ha] at he
    have hda := hd a (List.mem_of_getElem? ha)
    refine w_if hB' (et_test (ev_op (ev_var rfl) ev_non rr_notN)) (fun hb' => ?_) (fun hb' => ?_)
    · rw [isNon_oenc] at hb'
      cases o' with
      | none => simp at hb'
      | some s' =>
        refine w_asg hB' (e__law_step (s := s') (ea_cons (ev_var rfl) (ea_cons (ev_var rfl) (ea_cons (ev_var rfl) ea_nil))) ht (hs' s' rfl) hda) ?_
        refine w_nx ?_
        exact w_end ⟨stepL t s' a, _, rfl, fun s hs => stepL_sw ht hda hs, he⟩
    · rw [isNon_oenc] at hb'
      cases o' with
      | some s' => simp at hb'
      | none =>
        refine w_nx ?_
        exact w_end ⟨none, _, rfl, (fun s hs => nomatch hs), he⟩
  · obtain ⟨o', c, rfl, hs', he⟩ := hI
    rw [List.drop_length] at he
    refine w_ret hB (Ev.is (ev_var rfl) ?_) hR
    rw [he]; rfl
/-! _law_on_holds -/
def onLw (t : Task) (s : Stand) (lead ring : List (List Int)) : Bool := match walkL t (walkL t (some s) lead) ring with
  | none => false
  | some one => match walkL t (some one) ring with
    | none => false
    | some two => underB one two
def q__law_on_holds : List Vd → Vd → Prop := fun a z => ∃ (t : Task) (s : Stand) (lead ring : List (List Int)), a = [.d t.enc, .d s.enc, .d (dII lead), .d (dII ring)] ∧ TaskOk t ∧ SW t s ∧ lead.length ≤ 100000 ∧ ring.length ≤ 100000 ∧ (∀ d ∈ lead, d.length ≤ 1000) ∧ (∀ d ∈ ring, d.length ≤ 1000) ∧ z = .d (.bool (onLw t s lead ring))
abbrev sp__law_on_holds : Sp := spP q__law_on_holds
theorem e__law_on_holds {ta : TA} {t : Task} {s : Stand} {lead ring : List (List Int)} (h : EvA dr ta δ [.d t.enc, .d s.enc, .d (dII lead), .d (dII ring)]) (ht : TaskOk t) (hs : SW t s) (h1 : lead.length ≤ 100000) (h2 : ring.length ≤ 100000) (h3 : ∀ d ∈ lead, d.length ≤ 1000) (h4 : ∀ d ∈ ring, d.length ≤ 1000) :
    Ev dr (tCall sp__law_on_holds [] C8.E0 ta) δ (.d (.bool (onLw t s lead ring))) := ev_call h ⟨_, _, _, _, rfl, ht, hs, h1, h2, h3, h4, rfl⟩
abbrev s__law_on_holds : Stmt := Hd.top 80
abbrev N__law_on_holds : List Str := ["_law_task_here", "_law_stand", "_law_lead", "_law_ring", "_law_one", "_law_other"]
theorem nd__law_on_holds : N__law_on_holds.Nodup := by decide +kernel
theorem sc__law_on_holds : C8.scC N__law_on_holds ["_law_task_here", "_law_stand", "_law_lead", "_law_ring"] (C8.fnScope s__law_on_holds) = true := by decide +kernel
def t__law_on_holds (K : PySem.W.Frag) : TS :=
  (tSeq (tAsg (tCall sp__law_walked [] C8.E0 (tCons (tVar 0) (tCons (tCall sp__law_walked [] C8.E0 (tCons (tVar 0) (tCons (tVar 1) (tCons (tVar 2) tNil)))) (tCons (tVar 3) tNil)))) (gName 4))
  (tSeq (tAsg (tCall sp__law_walked [] C8.E0 (tCons (tVar 0) (tCons (tVar 4) (tCons (tVar 3) tNil)))) (gName 5))
  (tSeq (tRet (tAndV (tOp rNotN (tVar 4) (tC .non)) (tAndV (tOp rNotN (tVar 5) (tC .non)) (tCall sp__law_under [] C8.E0 (tCons (tVar 4) (tCons (tVar 5) tNil))))))
  tNext)))
theorem d__law_on_holds {P : Program} {w : World} {K : PySem.W.Frag} {mg : Str → Option Value} {base : Heap} (T : Top K mg) (f : Addr) (cdv : Value) (A : Around) (outer : List Env) (s : Shared) (H : Hp) (E : XK)
    (hr : Room 3 (A.deeper (PyProof.Rows.envOfC "_law_on_holds" (C8.fnScope s__law_on_holds) s.heap.objs.size f cdv))) :
    PSs (cxOf C8.CX0 P w K mg base N__law_on_holds "_law_on_holds" (C8.fnScope s__law_on_holds) f cdv A outer s H E).nox (C8.fnBody s__law_on_holds) (t__law_on_holds K) :=
  (pss_cons (ps_set (i := 4) nd__law_on_holds rfl (by first | exact Or.inl rfl | exact Or.inr rfl) (C8.pe_c (c__law_walked T) hr (by decide) rfl (pa_cons (pv 0) (pa_cons (C8.pe_c (c__law_walked T) hr (by decide) rfl (pa_cons (pv 0) (pa_cons (pv 1) (pa_cons (pv 2) pa_nil)))) (pa_cons (pv 3) pa_nil)))))
  (pss_cons (ps_set (i := 5) nd__law_on_holds rfl (by first | exact Or.inl rfl | exact Or.inr rfl) (C8.pe_c (c__law_walked T) hr (by decide) rfl (pa_cons (pv 0) (pa_cons (pv 4) (pa_cons (pv 3) pa_nil)))))
  (pss_cons (ps_ret (pe_and (pe_cmpR op_notN' (pv 4) pe_non (nomark _)) (pe_and (pe_cmpR op_notN' (pv 5) pe_non (nomark _)) (pe_one (C8.pe_c (c__law_under T) hr (by decide) rfl (pa_cons (pv 4) (pa_cons (pv 5) pa_nil)))))))
  pss_nil)))
theorem c__law_on_holds (T : Top K mg) : C8.Cal P w K mg base 4 "_law_on_holds" sp__law_on_holds [] := by
  refine cal_of T.f__law_on_holds sc__law_on_holds (t__law_on_holds K) (fun zs z h => ?_) (fun f cdv A outer s H E hr => d__law_on_holds T f cdv A outer s H E hr) (fun dr B E zs z hp hB hR hN => ?_)
  · obtain ⟨_, _, _, _, rfl, _⟩ := h; rfl
  obtain ⟨t, s, lead, ring, rfl, ht, hs, h1, h2, h3, h4, rfl⟩ := hp
  have hn := ht.num.1
  have s0 : ∀ x, some s = some x → SW t x := fun x hx => by cases hx; exact hs
  have s1 : ∀ x, walkL t (some s) lead = some x → SW t x := fun x hx => walkL_sw ht s0 h3 hx
  have s2 : ∀ x, walkL t (walkL t (some s) lead) ring = some x → SW t x := fun x hx => walkL_sw ht s1 h4 hx
  refine w_asg hB (e__law_walked (ea_cons (ev_var rfl) (ea_cons (e__law_walked (o := some s) (ea_cons (ev_var rfl) (ea_cons (ev_var rfl) (ea_cons (ev_var rfl) ea_nil))) ht s0 h1 h3) (ea_cons (ev_var rfl) ea_nil))) ht s1 h2 h4) ?_
  refine w_asg hB (e__law_walked (o := walkL t (walkL t (some s) lead) ring) (ea_cons (ev_var rfl) (ea_cons (ev_var rfl) (ea_cons (ev_var rfl) ea_nil))) ht s2 h2 h4) ?_
  cases e : walkL t (walkL t (some s) lead) ring with
  | none =>
    refine w_ret hB (Ev.is (ev_andV (b := false) (ev_op (ev_var rfl) ev_non rr_notN) fun h => ?_) ?_) hR
    · simp [oenc, isNon] at h
    · unfold onLw; rw [e]; rfl
  | some one =>
    have sw1 := s2 one e
    cases e2 : walkL t (some one) ring with
    | none =>
      refine w_ret hB (Ev.is (ev_andV (ev_op (ev_var rfl) ev_non rr_notN) fun _ => (ev_andV (b := false) (ev_op (ev_var rfl) ev_non rr_notN) fun h => ?_)) ?_) hR
      · simp [oenc, isNon] at h
      · unfold onLw; rw [e]; simp only [e2]; rfl
    | some two =>
      have sw2 := walkL_sw ht (fun x hx => by cases hx; exact sw1) h4 e2
      refine w_ret hB (Ev.is (ev_andV (ev_op (ev_var (d := one.enc) rfl) ev_non rr_notN) fun _ => (ev_andV (ev_op (ev_var (d := two.enc) rfl) ev_non rr_notN) fun _ => (e__law_under (s := one) (s' := two) (ea_cons (ev_var rfl) (ea_cons (ev_var rfl) ea_nil)) (by rw [sw1.wl, sw2.wl]) (by rw [sw1.wl]; omega) sw2.ls))) ?_) hR
      unfold onLw; rw [e]; simp only [e2, Stand.enc, isNon, Bool.not_false, Bool.true_and]
end
end Ed
end
section
set_option maxHeartbeats 4000000
namespace Ed
open PySem L2
local macro_rules | `(tactic| nested_key) => `(tactic| first
  | rfl
  | assumption
  | omega
  | exact Nat.le_of_ble_eq_true rfl
  | decide
  | (simp only [List.length_map, small]; omega)
  | (simp [small]; done)
  | (simp only [Vd.sd, setAll, List.set, mutAll, okm, Fr] at *; simp_all; done))

section
variable {P : Program} {w : World} {K : PySem.W.Frag} {mg : Str → Option Value} {base : Heap} {dr : Option Addr} {δ : List Sd} {ta : TA} {te : TE}
/-! _law_count_holds -/
def deedF (t : Task) (d : Int) (i : Nat) : Int := if decide ((i : Int) ∈ t.long) = true then max 0 (2 * (d / t.num.getD i 0) - 1) else d / t.num.getD i 0
def deedsL (t : Task) (d : Int) : Int := ((List.range t.num.length).map (deedF t d)).sum
def freeL (t : Task) (d p : Int) : List Int := (upto 0 d.toNat).filter fun k => decide (t.off.getD ((p + k) % (t.off.length : Int)).toNat 0 = 0)
def countLw (t : Task) (d p : Int) : Bool := decide (t.hands * ((freeL t d p).length : Int) < deedsL t d)
def q__law_count_holds : List Vd → Vd → Prop := fun a z => ∃ (t : Task) (d p : Int), a = [.d t.enc, .d (.int d), .d (.int p)] ∧ TaskOk t ∧ countP t d p ∧ d < 400000 ∧ z = .d (.bool (countLw t d p))
abbrev sp__law_count_holds : Sp := spP q__law_count_holds
theorem e__law_count_holds {ta : TA} {t : Task} {d p : Int} (h : EvA dr ta δ [.d t.enc, .d (.int d), .d (.int p)]) (ht : TaskOk t) (hc : countP t d p) (hd : d < 400000) : Ev dr (tCall sp__law_count_holds [] C8.E0 ta) δ (.d (.bool (countLw t d p))) := ev_call h ⟨_, _, _, rfl, ht, hc, hd, rfl⟩
abbrev s__law_count_holds : Stmt := Hd.top 81
abbrev N__law_count_holds : List Str := ["_law_task_here", "_law_days_here", "_law_phase", "_law_numbers", "_law_hands", "_law_off_here", "_law_long_here", "_law_tied_here", "_law_deeds", "_law_i", "_law_often", "_law_t"]
theorem nd__law_count_holds : N__law_count_holds.Nodup := by decide +kernel
theorem sc__law_count_holds : C8.scC N__law_count_holds ["_law_task_here", "_law_days_here", "_law_phase"] (C8.fnScope s__law_count_holds) = true := by decide +kernel
def t__law_count_holds (K : PySem.W.Frag) : TS :=
  (tSeq (tAsg (tVar 0) (gTup K 5 (unp [3, 4, 5, 6, 7])))
  (tSeq (tAsg (tC (.int 0)) (gName 8))
  (tSeq (tFor (iRng1 (tCons (tCB (rLen K) (tCons (tVar 3) tNil)) tNil)) (gName 9) (tSeq (tAsg (tOp oDiv (tVar 1) (tOp (rIxT K) (tVar 3) (tVar 9))) (gName 10))
  (tSeq (tAsg (tOp oAdd (tVar 8) (tOp (rIxL K) (tLst (tCons (tVar 10) (tCons (tCB rMax2 (tCons (tC (.int 0)) (tCons (tOp oSub (tOp oMul (tC (.int 2)) (tVar 10)) (tC (.int 1))) tNil))) tNil))) (tCB rInt1 (tCons (tOp (rIn K false) (tVar 9) (tVar 6)) tNil)))) (gName 8))
  tNext)))
  (tSeq (tRet (tOp oGt (tVar 8) (tOp oMul (tVar 4) (tCB (rLen K) (tCons (tLc (iRng1 (tCons (tVar 1) tNil)) (gName 11) (tTest (tOp rEq (tOp (rIxT K) (tVar 5) (tOp oMod (tOp oAdd (tVar 2) (tVar 11)) (tCB (rLen K) (tCons (tVar 5) tNil)))) (tC (.int 0)))) (tVar 11) [11]) tNil)))))
  tNext))))
theorem d__law_count_holds {P : Program} {w : World} {K : PySem.W.Frag} {mg : Str → Option Value} {base : Heap} (T : Top K mg) (f : Addr) (cdv : Value) (A : Around) (outer : List Env) (s : Shared) (H : Hp) (E : XK)
    (hr : Room 0 (A.deeper (PyProof.Rows.envOfC "_law_count_holds" (C8.fnScope s__law_count_holds) s.heap.objs.size f cdv))) :
    PSs (cxOf C8.CX0 P w K mg base N__law_count_holds "_law_count_holds" (C8.fnScope s__law_count_holds) f cdv A outer s H E).nox (C8.fnBody s__law_count_holds) (t__law_count_holds K) :=
  (pss_cons (ps_asg (pv 0) (pg_tup (by rfl) (pgs_cons (pg_name (i := 3) nd__law_count_holds rfl (by first | exact Or.inl rfl | exact Or.inr rfl)) (pgs_cons (pg_name (i := 4) nd__law_count_holds rfl (by first | exact Or.inl rfl | exact Or.inr rfl)) (pgs_cons (pg_name (i := 5) nd__law_count_holds rfl (by first | exact Or.inl rfl | exact Or.inr rfl)) (pgs_cons (pg_name (i := 6) nd__law_count_holds rfl (by first | exact Or.inl rfl | exact Or.inr rfl)) (pgs_cons (pg_name (i := 7) nd__law_count_holds rfl (by first | exact Or.inl rfl | exact Or.inr rfl)) pgs_nil)))))))
  (pss_cons (ps_set (i := 8) nd__law_count_holds rfl (by first | exact Or.inl rfl | exact Or.inr rfl) pe_int)
  (pss_cons (ps_for PassesOwn.never rfl (pi_range1 rfl T.n_range (pa_cons (pe_callB cr_len (by rfl) T.n_len bt_len (pa_cons (pv 3) pa_nil)) pa_nil)) (pg_name (i := 9) nd__law_count_holds rfl (by first | exact Or.inl rfl | exact Or.inr rfl)) (pss_cons (ps_set (i := 10) nd__law_count_holds rfl (by first | exact Or.inl rfl | exact Or.inr rfl) (pe_op op_fdiv (pv 1) (pe_ix ix_tup (pv 3) (pv 9) (fun _ _ => rfl))))
  (pss_cons (ps_set (i := 8) nd__law_count_holds rfl (by first | exact Or.inl rfl | exact Or.inr rfl) (pe_op op_add (pv 8) (pe_ix ix_list (pe_lst (pa_cons (pv 10) (pa_cons (pe_callB (cr_max2 rfl) (by rfl) T.n_max bt_max (pa_cons pe_int (pa_cons (pe_op op_sub (pe_op op_mul pe_int (pv 10)) pe_int) pa_nil))) pa_nil))) (pe_callTy cr_int (by rfl) T.n_int bt_int (pa_cons (pe_cmpR op_in_seq (pv 9) (pv 6) (by rfl)) pa_nil)) (fun _ _ => rfl))))
  pss_nil)))
  (pss_cons (ps_ret (pe_cmpR op_gt (pv 8) (pe_op op_mul (pv 4) (pe_callB cr_len (by rfl) T.n_len bt_len (pa_cons (pe_lc (own := [("_law_t", 11)]) (g := gName 11) rfl nd__law_count_holds (pi_range1 rfl T.n_range (pa_cons (pv 1) pa_nil)) (blkOk_by (N := N__law_count_holds) (sc := C8.fnScope s__law_count_holds) (by decide +kernel)) (fun _ _ _ _ _ => pg_name (i := 11) nd__law_count_holds rfl (by first | exact Or.inl rfl | exact Or.inr rfl)) (fun _ _ _ _ _ => pts_one (pt_cmpR op_eq (pe_ix ix_tup (pv 5) (pe_op op_mod (pe_op op_add (pv 2) (pv 11)) (pe_callB cr_len (by rfl) T.n_len bt_len (pa_cons (pv 5) pa_nil))) (fun _ _ => rfl)) pe_int (nomark _))) (fun _ _ _ _ _ => (pv 11))) pa_nil))) (nomark _)))
  pss_nil))))
theorem c__law_count_holds (T : Top K mg) : C8.Cal P w K mg base 1 "_law_count_holds" sp__law_count_holds [] := by
  refine cal_of T.f__law_count_holds sc__law_count_holds (t__law_count_holds K) (fun zs z h => ?_) (fun f cdv A outer s H E hr => d__law_count_holds T f cdv A outer s H E hr) (fun dr B E zs z hp hB hR hN => ?_)
  · obtain ⟨_, _, _, rfl, _⟩ := h; rfl
  obtain ⟨t, d, p, rfl, ht, ⟨c1, c2, c3, c4⟩, hd, rfl⟩ := hp
  have hn := ht.num.1
  have ho := ht.off.1
  have hlen : (List.map PyData.int t.num).length = t.num.length := List.length_map ..
  have hol : (List.map PyData.int t.off).length = t.off.length := List.length_map ..
  refine w_unp hB (ev_var (d := t.enc) rfl) rfl rfl ?_
  refine w_asg hB ev_int ?_
  refine w_forR1 (fun i δ' => ∃ c9 c10 : Sd, δ' = [.d t.enc, .d (.int d), .d (.int p), .d (dI t.num), .d (.int t.hands), .d (dI t.off), .d (dI t.long), .d (.tuple (t.tied.map pr)), .d (.int ((List.range i).map (deedF t d)).sum), c9, c10, .x]) hB (ea_cons (ev_cb (ea_cons (ev_var rfl) ea_nil) rc_lenT) ea_nil) (by rw [hlen]; omega) (by omega) ⟨.x, .x, rfl⟩ (fun i δ' hi hI => ?_) (fun δ' hI => ?_)
  · obtain ⟨c9, c10, rfl⟩ := hI
    rw [hlen] at hi
    have h0 : (0 : Int) ≤ (i : Int) := by omega
    have hg := getDI h0 hi
    have hm := ht.num.2 _ (List.mem_of_getElem? hg)
    refine w_asg hB (ev_op (ev_var rfl) (ev_op (ev_var rfl) (ev_var rfl) (rr_ixT (at_map h0 hg))) (rr_I (⟨by omega, by omega⟩ : CDiv d _) fun _ => .int _)) ?_
    refine w_asg hB (z := .d (.int (((List.range (i + 1)).map (deedF t d)).sum))) (Ev.is (ev_op (ev_var rfl) (Ev.is (z' := .d (.int (deedF t d i))) (ev_op (en_lst (ead_cons (ev_var rfl) (ead_cons (ev_cb (ea_cons ev_int (ea_cons (ev_op (ev_op ev_int (ev_var rfl) (rr_I (.inl (by decide)) fun _ => .int _)) ev_int (rr_I0 fun _ => .int _)) ea_nil)) rc_max2) ead_nil)) (by nested_key)).ev (ev_cb (ea_cons (ev_op (ev_var rfl) (ev_var rfl) rr_inT) ea_nil) rc_intB) (rr_ixL ix_two)) ?_) (rr_I0 fun _ => .int _)) ?_) ?_
    · unfold deedF
      rw [Int.toNat_natCast]
      split <;> rfl
    · rw [sum_succ]
    · exact w_end ⟨_, _, rfl⟩
  · obtain ⟨c9, c10, rfl⟩ := hI
    refine w_ret hB (Ev.is (ev_op (ev_var rfl) (ev_op (ev_var rfl) (ev_cb (ea_cons (en_lcR1 (fun k => decide (t.off.getD ((p + k) % (t.off.length : Int)).toNat 0 = 0)) PyData.int (ea_cons (ev_var rfl) ea_nil) (by omega) (by omega) (by simp) (fun i hi1 hi2 => ?_) (fun i hi1 hi2 hf => (ev_var rfl))).ev ea_nil) rc_lenL) (rr_I (.inl (by rcases ht.hands with e | e <;> rw [e] <;> decide)) fun _ => .int _)) (rr_I0 fun _ => .bl _)) ?_) hR
    · have hq0 : 0 ≤ (p + i) % (t.off.length : Int) := Int.emod_nonneg _ (by omega)
      have hq1 : (p + i) % (t.off.length : Int) < t.off.length := Int.emod_lt_of_pos _ (by omega)
      exact (et_test (ev_op (ev_op (ev_var rfl) (ev_op (ev_op (ev_var rfl) (ev_var rfl) (rr_I0 fun _ => .int _)) (ev_cb (ea_cons (ev_var rfl) ea_nil) rc_lenT) (rr_I (by rw [hol]; omega) fun _ => .int _)) (rr_ixT (by rw [hol]; exact at_map hq0 (getDI hq0 hq1)))) ev_int rr_eqI))
    · unfold countLw deedsL freeL
      simp only [List.length_map, Int.toNat_natCast]
/-! _law_walk_holds -/
def stAt (st : List Stand) (i : Nat) : Stand := st.getD i ⟨0, [], [], []⟩
def rowOk (t : Task) (st : List Stand) (i : Nat) (d : List Int) : Bool := match nextS t (stAt st i) d with
  | none => true
  | some l => (st.take i).any (underB l)
def rowsOk (t : Task) (st : List Stand) (i : Nat) : Bool := (daysL t (stAt st i)).all (rowOk t st i)
def walkHL (t : Task) (s : Stand) (st : List Stand) : Bool := (List.range st.length).all (rowsOk t st) && st.any (underB s)
def q__law_walk_holds : List Vd → Vd → Prop := fun a z => ∃ (t : Task) (s : Stand) (st : List Stand), a = [.d t.enc, .d s.enc, .d (.tuple (st.map Stand.enc))] ∧ TaskOk t ∧ SW t s ∧ (∀ x ∈ st, SW t x) ∧ st.length ≤ 100000 ∧ z = .d (.bool (walkHL t s st))
abbrev sp__law_walk_holds : Sp := spP q__law_walk_holds
theorem e__law_walk_holds {ta : TA} {t : Task} {s : Stand} {st : List Stand} (h : EvA dr ta δ [.d t.enc, .d s.enc, .d (.tuple (st.map Stand.enc))]) (ht : TaskOk t) (hs : SW t s) (hst : ∀ x ∈ st, SW t x) (hl : st.length ≤ 100000) : Ev dr (tCall sp__law_walk_holds [] C8.E0 ta) δ (.d (.bool (walkHL t s st))) := ev_call h ⟨_, _, _, rfl, ht, hs, hst, hl, rfl⟩
abbrev s__law_walk_holds : Stmt := Hd.top 82
abbrev N__law_walk_holds : List Str := ["_law_task_here", "_law_stand", "_law_stands", "_law_at", "_law_day", "_law_later", "_law_one"]
theorem nd__law_walk_holds : N__law_walk_holds.Nodup := by decide +kernel
theorem sc__law_walk_holds : C8.scC N__law_walk_holds ["_law_task_here", "_law_stand", "_law_stands"] (C8.fnScope s__law_walk_holds) = true := by decide +kernel
def t__law_walk_holds (K : PySem.W.Frag) : TS :=
  (tSeq (tFor (iRng1 (tCons (tCB (rLen K) (tCons (tVar 2) tNil)) tNil)) (gName 3) (tSeq (tFor (iList K (tCall sp__law_days [] C8.E0 (tCons (tVar 0) (tCons (tOp (rIxT K) (tVar 2) (tVar 3)) tNil)))) (gName 4) (tSeq (tAsg (tCall sp__law_next_stand [] C8.E0 (tCons (tVar 0) (tCons (tOp (rIxT K) (tVar 2) (tVar 3)) (tCons (tVar 4) tNil)))) (gName 5))
  (tSeq (tIfS (tAnd (tTest (tOp rNotN (tVar 5) (tC .non))) (tTest (tOp (rEqD K) (tLc (iTup K (tSl (rSlA K) (tVar 2) tNoPart (tPart (tVar 3)))) (gName 6) (tB (tCall sp__law_under [] C8.E0 (tCons (tVar 5) (tCons (tVar 6) tNil)))) (tVar 6) [6]) (tLst tNil)))) (tSeq (tRet (tC (.bl false)))
  tNext) tNext)
  tNext)))
  tNext))
  (tSeq (tRet (tOp (rNeD K) (tLc (iTup K (tVar 2)) (gName 6) (tB (tCall sp__law_under [] C8.E0 (tCons (tVar 1) (tCons (tVar 6) tNil)))) (tVar 6) [6]) (tLst tNil)))
  tNext))
theorem d__law_walk_holds {P : Program} {w : World} {K : PySem.W.Frag} {mg : Str → Option Value} {base : Heap} (T : Top K mg) (f : Addr) (cdv : Value) (A : Around) (outer : List Env) (s : Shared) (H : Hp) (E : XK)
    (hr : Room 1 (A.deeper (PyProof.Rows.envOfC "_law_walk_holds" (C8.fnScope s__law_walk_holds) s.heap.objs.size f cdv))) :
    PSs (cxOf C8.CX0 P w K mg base N__law_walk_holds "_law_walk_holds" (C8.fnScope s__law_walk_holds) f cdv A outer s H E).nox (C8.fnBody s__law_walk_holds) (t__law_walk_holds K) :=
  (pss_cons (ps_for PassesOwn.never rfl (pi_range1 rfl T.n_range (pa_cons (pe_callB cr_len (by rfl) T.n_len bt_len (pa_cons (pv 2) pa_nil)) pa_nil)) (pg_name (i := 3) nd__law_walk_holds rfl (by first | exact Or.inl rfl | exact Or.inr rfl)) (pss_cons (ps_for PassesOwn.never rfl (pi_list (C8.pe_c (c__law_days T) hr (by decide) rfl (pa_cons (pv 0) (pa_cons (pe_ix ix_tup (pv 2) (pv 3) (fun _ _ => rfl)) pa_nil)))) (pg_name (i := 4) nd__law_walk_holds rfl (by first | exact Or.inl rfl | exact Or.inr rfl)) (pss_cons (ps_set (i := 5) nd__law_walk_holds rfl (by first | exact Or.inl rfl | exact Or.inr rfl) (C8.pe_c (c__law_next_stand T) hr (by decide) rfl (pa_cons (pv 0) (pa_cons (pe_ix ix_tup (pv 2) (pv 3) (fun _ _ => rfl)) (pa_cons (pv 4) pa_nil)))))
  (pss_cons (ps_if (PW.pt (pw_and (pt_cmpR op_notN' (pv 5) pe_non (nomark _)) (pw_and1 (pt_cmpR (op_eqD hr.units) (pe_lc (own := [("_law_one", 6)]) (g := gName 6) rfl nd__law_walk_holds (pi_tup (pe_slice sl_tupA (pv 2) po_none (po_some (pv 3)))) (blkOk_by (N := N__law_walk_holds) (sc := C8.fnScope s__law_walk_holds) (by decide +kernel)) (fun _ _ _ _ _ => pg_name (i := 6) nd__law_walk_holds rfl (by first | exact Or.inl rfl | exact Or.inr rfl)) (fun _ _ _ _ _ => pts_one (pt_val (C8.pe_c (c__law_under T) hr (by decide) rfl (pa_cons (pv 5) (pa_cons (pv 6) pa_nil))))) (fun _ _ _ _ _ => (pv 6))) (pe_lst pa_nil) (nomark _))))) (pss_cons (ps_ret pe_bl)
  pss_nil) pss_nil)
  pss_nil)))
  pss_nil))
  (pss_cons (ps_ret (pe_cmpR (op_neD hr.units) (pe_lc (own := [("_law_one", 6)]) (g := gName 6) rfl nd__law_walk_holds (pi_tup (pv 2)) (blkOk_by (N := N__law_walk_holds) (sc := C8.fnScope s__law_walk_holds) (by decide +kernel)) (fun _ _ _ _ _ => pg_name (i := 6) nd__law_walk_holds rfl (by first | exact Or.inl rfl | exact Or.inr rfl)) (fun _ _ _ _ _ => pts_one (pt_val (C8.pe_c (c__law_under T) hr (by decide) rfl (pa_cons (pv 1) (pa_cons (pv 6) pa_nil))))) (fun _ _ _ _ _ => (pv 6))) (pe_lst pa_nil) (nomark _)))
  pss_nil))
theorem isEmpty_filterM {α β : Type} {xs : List α} {f : α → Bool} {g : α → β} : ((xs.filter f).map g).isEmpty = !xs.any f := by
  rw [List.any_eq_not_all_not]
  induction xs with
  | nil => rfl
  | cons x xs ih =>
    by_cases h : f x = true
    · simp [h]
    · have h' : f x = false := by simpa using h
      simp only [List.filter_cons, h', Bool.false_eq_true, if_false, ih, List.all_cons, Bool.not_false, Bool.true_and]
theorem c__law_walk_holds (T : Top K mg) : C8.Cal P w K mg base 2 "_law_walk_holds" sp__law_walk_holds [] := by
  refine cal_of T.f__law_walk_holds sc__law_walk_holds (t__law_walk_holds K) (fun zs z h => ?_) (fun f cdv A outer s H E hr => d__law_walk_holds T f cdv A outer s H E hr) (fun dr B E zs z hp hB hR hN => ?_)
  · obtain ⟨_, _, _, rfl, _⟩ := h; rfl
  obtain ⟨t, s, st, rfl, ht, hs, hst, hl, rfl⟩ := hp
  have hn := ht.num.1
  have hlen : (List.map Stand.enc st).length = st.length := List.length_map ..
  have under : ∀ {a b : Stand} {ta : TA} {δ : List Sd}, SW t a → SW t b → EvA dr ta δ [.d a.enc, .d b.enc] → Ev dr (tCall sp__law_under [] C8.E0 ta) δ (.d (.bool (underB a b))) := fun ha hb h => e__law_under h (by rw [ha.wl, hb.wl]) (by rw [ha.wl]; omega) hb.ls
  refine w_forR1 (fun i δ' => ∃ c3 c4 c5 : Sd, δ' = [.d t.enc, .d s.enc, .d (.tuple (st.map Stand.enc)), c3, c4, c5, .x] ∧ (List.range i).all (rowsOk t st) = true) hB (ea_cons (ev_cb (ea_cons (ev_var rfl) ea_nil) rc_lenT) ea_nil) (by rw [hlen]; omega) (by omega) ⟨.x, .x, .x, rfl, rfl⟩ (fun i δ' hi hI => ?_) (fun δ' hI => ?_)
  · obtain ⟨c3, c4, c5, rfl, hok⟩ := hI
    rw [hlen] at hi
    have hi' : i < st.length := by omega
    have hg : st[i]? = some (stAt st i) := by
      unfold stAt
      rw [List.getD_eq_getElem?_getD, List.getElem?_eq_getElem hi']; rfl
    have hsi : SW t (stAt st i) := hst _ (List.mem_of_getElem? hg)
    have at_i : atI (st.map Stand.enc) (i : Int) = some (stAt st i).enc := at_map (by omega) (by rw [Int.toNat_natCast]; exact hg)
    refine w_forL (daysL t (stAt st i)) dI (fun k δ' => ∃ c4 c5 : Sd, δ' = [.d t.enc, .d s.enc, .d (.tuple (st.map Stand.enc)), .d (.int i), c4, c5, .x] ∧ ((daysL t (stAt st i)).take k).all (rowOk t st i) = true) hB (e__law_days (ea_cons (ev_var rfl) (ea_cons (ev_op (ev_var rfl) (ev_var rfl) (rr_ixT at_i)) ea_nil)) ht hsi) ⟨c4, c5, rfl, by simp⟩ (fun B' hB' hb k d δ' ha hI => ?_) (fun δ' hI => ?_)
    · obtain ⟨c4, c5, rfl, hk⟩ := hI
      have hdm := List.mem_of_getElem? ha
      have hd2 := later_len ((days_mem ht hsi).mp hdm)
      have hR' : ∀ v H', B' H' → Jd dr H' → (Vd.d (.bool (walkHL t s st))).ok dr H' v → E.rt v H' := fun v H' b j h => hR v H' (hb H' b) j h
      refine w_asg hB' (e__law_next_stand (ea_cons (ev_var rfl) (ea_cons (ev_op (ev_var rfl) (ev_var rfl) (rr_ixT at_i)) (ea_cons (ev_var rfl) ea_nil))) ht hsi (by omega)) ?_
      cases e : nextS t (stAt st i) d with
      | none =>
        refine w_if hB' (b := false) (EvT.is (et_and (b := false) (et_test (ev_op (ev_var rfl) ev_non rr_notN)) fun h => ?_) (by simp [oenc, isNon])) (fun h => nomatch h) (fun _ => ?_)
        · simp [oenc, isNon] at h
        · refine w_nx ?_
          refine w_end ⟨_, _, rfl, ?_⟩
          rw [take_succ' ha, List.all_append, hk]
          simp [rowOk, e]
      | some l =>
        have hsl := nextS_sw ht (show d.length ≤ 1000 by omega) e
        refine w_if hB' (b := !(st.take i).any (underB l)) (EvT.is (et_and (et_test (ev_op (ev_var (d := l.enc) rfl) ev_non rr_notN)) fun _ => (et_test (ev_op (en_lcT (st.take i) Stand.enc (fun x => underB l x) Stand.enc (Ev.is (ev_slT (ev_var rfl) eo_none (eo_some (ev_var rfl))) (by rw [cutD_takeM (by omega), Int.toNat_natCast])) (by rw [List.length_take]; omega) (by simp) (fun a ha => (et_B (under hsl (hst a ((List.take_sublist _ _).subset ha)) (ea_cons (ev_var rfl) (ea_cons (ev_var rfl) ea_nil))))) (fun a ha hf => (ev_var rfl))).ev (en_lst ead_nil (by nested_key)).ev (rr_eqNil (shaped_ls _))))) (by rw [isEmpty_filterM]; simp [Stand.enc, isNon])) (fun hb' => ?_) (fun hb' => ?_)
        · refine w_ret hB' (Ev.is ev_bl ?_) hR'
          have e1 : walkHL t s st = false := by
            have hro : rowOk t st i d = false := by unfold rowOk; rw [e]; simpa using hb'
            have hrs : rowsOk t st i = false := by
              unfold rowsOk
              rw [List.all_eq_false]
              exact ⟨d, hdm, by rw [hro]; decide⟩
            unfold walkHL
            rw [show (List.range st.length).all (rowsOk t st) = false from List.all_eq_false.mpr ⟨i, List.mem_range.mpr hi', by rw [hrs]; decide⟩]
            rfl
          rw [e1]
        · refine w_nx ?_
          refine w_end ⟨_, _, rfl, ?_⟩
          rw [take_succ' ha, List.all_append, hk]
          simp only [List.all_cons, List.all_nil, Bool.and_true, Bool.true_and]
          unfold rowOk
          rw [e]
          simpa using hb'
    · obtain ⟨c4, c5, rfl, hk⟩ := hI
      rw [List.take_length] at hk
      refine w_end ⟨_, _, _, rfl, ?_⟩
      rw [List.range_succ, List.all_append, hok]
      simp only [List.all_cons, List.all_nil, Bool.and_true, Bool.true_and]
      exact hk
  · obtain ⟨c3, c4, c5, rfl, hok⟩ := hI
    rw [hlen, Int.toNat_natCast] at hok
    refine w_ret hB (Ev.is (ev_op (en_lcT st Stand.enc (fun x => underB s x) Stand.enc (ev_var rfl) (by omega) (by simp) (fun a ha => (et_B (under hs (hst a ha) (ea_cons (ev_var rfl) (ea_cons (ev_var rfl) ea_nil))))) (fun a ha hf => (ev_var rfl))).ev (en_lst ead_nil (by nested_key)).ev (rr_neNil (shaped_ls _))) ?_) hR
    rw [isEmpty_filterM, Bool.not_not]
    unfold walkHL
    rw [hok]; rfl
end
end Ed
end
section
set_option maxHeartbeats 4000000
namespace Ed
open PySem L2
local macro_rules | `(tactic| nested_key) => `(tactic| first
  | rfl
  | assumption
  | omega
  | exact Nat.le_of_ble_eq_true rfl
  | decide
  | (simp only [List.length_map, small]; omega)
  | (simp [small]; done)
  | (simp only [Vd.sd, setAll, List.set, mutAll, okm, Fr] at *; simp_all; done))

/-! the stands of a task: few -/
def succ (t : Task) (s : Stand) : List Stand := (daysL t s).filterMap (nextS t s)
def waitsAll : List Int → List (List Int)
  | [] => [[]]
  | n :: ns => (upto 1 n.toNat).flatMap fun x => (waitsAll ns).map (x :: ·)
def pairsAll : List Int → List (List Int)
  | [] => []
  | x :: xs => (xs.map fun y => [x, y]) ++ pairsAll xs
def busyAll (t : Task) : List (List Int) := [] :: (t.long.map fun i => [i]) ++ (if t.hands = 2 then pairsAll t.long else [])
def lastAll : List (List Int) := [] :: ((upto 0 6).map fun i => [i]) ++ pairsAll (upto 0 6)
def allSt (t : Task) : List Stand := (upto 0 t.off.length).flatMap fun ph => (waitsAll t.num).flatMap fun wt => (busyAll t).flatMap fun bz => lastAll.map fun ls => ⟨ph, wt, bz, ls⟩
theorem flatMap_len {α β : Type} {f : α → List β} {n : Nat} : ∀ {xs : List α}, (∀ x ∈ xs, (f x).length = n) → (xs.flatMap f).length = xs.length * n
  | [], _ => by simp
  | x :: xs, h => by
    rw [List.flatMap_cons, List.length_append, h x List.mem_cons_self, flatMap_len fun y hy => h y (List.mem_cons_of_mem _ hy), List.length_cons, Nat.add_mul]
    omega
theorem waitsAll_len : ∀ {ns : List Int}, (∀ n ∈ ns, 1 ≤ n ∧ n ≤ 40) → ((waitsAll ns).length : Int) = prodI ns
  | [], _ => rfl
  | n :: ns, h => by
    have ih := waitsAll_len (ns := ns) fun x hx => h x (List.mem_cons_of_mem _ hx)
    have hn := h n List.mem_cons_self
    unfold waitsAll prodI
    rw [flatMap_len (n := (waitsAll ns).length) (fun x _ => by rw [List.length_map]), upto_len, Int.natCast_mul, ih, Int.toNat_of_nonneg (by omega)]
theorem waitsAll_mem : ∀ {ns ws : List Int}, ws.length = ns.length → (∀ (i : Nat) (x n : Int), ws[i]? = some x → ns[i]? = some n → 1 ≤ x ∧ x ≤ n) → ws ∈ waitsAll ns
  | [], [], _, _ => by simp [waitsAll]
  | n :: ns, x :: ws, hl, h => by
    have h0 := h 0 x n rfl rfl
    unfold waitsAll
    rw [List.mem_flatMap]
    refine ⟨x, mem_upto.mpr ⟨by omega, by omega⟩, List.mem_map.mpr ⟨ws, waitsAll_mem (by simpa using hl) (fun i y m hy hm => h (i + 1) y m (by simpa using hy) (by simpa using hm)), rfl⟩⟩
  | [], _ :: _, hl, _ => by simp at hl
  | _ :: _, [], hl, _ => by simp at hl
theorem pairsAll_len : ∀ xs : List Int, 2 * (pairsAll xs).length = xs.length * (xs.length - 1)
  | [] => rfl
  | x :: xs => by
    have ih := pairsAll_len xs
    simp only [pairsAll, List.length_append, List.length_map, List.length_cons]
    rw [tri_succ]
    omega
theorem pairsAll_mem : ∀ {xs : List Int} {i j : Int}, xs.Pairwise (· < ·) → i ∈ xs → j ∈ xs → i < j → [i, j] ∈ pairsAll xs
  | x :: xs, i, j, hp, hi, hj, hij => by
    rw [List.pairwise_cons] at hp
    unfold pairsAll
    rw [List.mem_append]
    rcases List.mem_cons.mp hi with e1 | h1
    · rcases List.mem_cons.mp hj with e2 | h2
      · omega
      · exact .inl (List.mem_map.mpr ⟨j, h2, by rw [e1]⟩)
    · rcases List.mem_cons.mp hj with e2 | h2
      · have := hp.1 i h1; omega
      · exact .inr (pairsAll_mem hp.2 h1 h2 hij)
theorem busyAll_len {t : Task} (hh : t.hands = 1 ∨ t.hands = 2) : ((busyAll t).length : Int) = rowsN t := by
  have h := pairsAll_len t.long
  have hq : ((t.long.length * (t.long.length - 1) : Nat) : Int) = (t.long.length : Int) * ((t.long.length : Int) - 1) := by
    cases t.long.length with
    | zero => simp
    | succ n => simp
  unfold busyAll rowsN
  rcases hh with e | e
  · rw [if_neg (by omega), e]; simp; omega
  · rw [if_pos e, e, ← hq]
    simp only [List.length_append, List.length_cons, List.length_map]
    omega
theorem lastAll_len : lastAll.length = 22 := by decide
theorem allSt_len {t : Task} (ht : TaskL t) : (allSt t).length ≤ 3300 := by
  have e1 : (allSt t).length = t.off.length * ((waitsAll t.num).length * ((busyAll t).length * 22)) := by
    unfold allSt
    rw [flatMap_len (n := (waitsAll t.num).length * ((busyAll t).length * 22)), upto_len]
    intro ph _
    rw [flatMap_len (n := (busyAll t).length * 22)]
    intro wt _
    rw [flatMap_len (n := 22)]
    intro bz _
    rw [List.length_map, lastAll_len]
  have hr := ht.room
  rw [← waitsAll_len ht.ok.num.2, ← busyAll_len ht.ok.hands] at hr
  have h2 : (waitsAll t.num).length * ((busyAll t).length * t.off.length) ≤ 150 := by
    have : (((waitsAll t.num).length * ((busyAll t).length * t.off.length) : Nat) : Int) ≤ 150 := by
      rw [Int.natCast_mul, Int.natCast_mul]; exact hr
    omega
  rw [e1]
  have e2 : t.off.length * ((waitsAll t.num).length * ((busyAll t).length * 22)) = (waitsAll t.num).length * ((busyAll t).length * t.off.length) * 22 := by
    generalize (waitsAll t.num).length = a
    generalize (busyAll t).length = b
    generalize t.off.length = c
    rw [Nat.mul_comm c, Nat.mul_assoc a, Nat.mul_assoc a, Nat.mul_assoc b, Nat.mul_assoc b, Nat.mul_comm 22 c]
  rw [e2]
  omega
theorem two_cases {l : List Int} (h : l.length ≤ 2) : l = [] ∨ (∃ i, l = [i]) ∨ ∃ i j, l = [i, j] := by
  match l, h with
  | [], _ => exact .inl rfl
  | [i], _ => exact .inr (.inl ⟨i, rfl⟩)
  | [i, j], _ => exact .inr (.inr ⟨i, j, rfl⟩)
  | _ :: _ :: _ :: _, h => simp at h
theorem allSt_mem {t : Task} (ht : TaskL t) {s : Stand} (hs : StandOk t s) : s ∈ allSt t := by
  have hh := ht.ok.hands
  have hlp := (rise_to ht.ok.long).2
  unfold allSt
  rw [List.mem_flatMap]
  refine ⟨s.ph, mem_upto.mpr ⟨by have := hs.ph0; omega, by have := hs.ph1; omega⟩, ?_⟩
  rw [List.mem_flatMap]
  refine ⟨s.wt, waitsAll_mem hs.wl hs.wt, ?_⟩
  rw [List.mem_flatMap]
  refine ⟨s.bz, ?_, List.mem_map.mpr ⟨s.ls, ?_, rfl⟩⟩
  · have hb := hs.bl
    have hr := (rise_to hs.bz).2
    have hm := hs.bm
    unfold busyAll
    rcases two_cases (l := s.bz) (by omega) with e | ⟨i, e⟩ | ⟨i, j, e⟩
    · rw [e]; simp
    · rw [e] at hm ⊢
      have := hm i (by simp)
      simp [this]
    · rw [e] at hm hr hb ⊢
      have h2 : t.hands = 2 := by simp at hb; omega
      rw [if_pos h2]
      have hij : i < j := by simpa using hr
      exact List.mem_append_right _ (pairsAll_mem hlp (hm i (by simp)) (hm j (by simp)) hij)
  · have hl := hs.ll
    have hr := (rise_to hs.ls).2
    have hm : ∀ i ∈ s.ls, 0 ≤ i ∧ i ≤ 5 := fun i hi => ends_rng ht (hs.lm i hi)
    unfold lastAll
    rcases two_cases (l := s.ls) (by omega) with e | ⟨i, e⟩ | ⟨i, j, e⟩
    · rw [e]; simp
    · rw [e] at hm ⊢
      have := hm i (by simp)
      refine List.mem_append_left _ (List.mem_cons_of_mem _ (List.mem_map.mpr ⟨i, mem_upto.mpr ⟨by omega, by omega⟩, rfl⟩))
    · rw [e] at hm hr ⊢
      have hij : i < j := by simpa using hr
      have h1 := hm i (by simp)
      have h2 := hm j (by simp)
      exact List.mem_append_right _ (pairsAll_mem (upto_pw 0 6) (mem_upto.mpr ⟨by omega, by omega⟩) (mem_upto.mpr ⟨by omega, by omega⟩) hij)
/-- stands, no two alike: few -/
theorem few_stands {t : Task} (ht : TaskL t) {l : List Stand} (hn : l.Nodup) (h : ∀ s ∈ l, StandOk t s) : l.length ≤ 3300 :=
  Nat.le_trans (nodup_len hn fun s hs => allSt_mem ht (h s hs)) (allSt_len ht)
/-! a later stand is a stand -/
theorem nextS_ok {t : Task} (ht : TaskL t) {s s' : Stand} (hs : StandOk t s) {d : List Int} (hd : d ∈ daysL t s) (h : nextS t s d = some s') : StandOk t s' := by
  have hsw := hs.sw ht.ok
  have hd' := (days_mem ht.ok hsw).mp hd
  unfold laterDays at hd'
  rw [List.mem_filter, mem_allDays] at hd'
  obtain ⟨hd1, hc⟩ := hd'
  have hdl : (d.length : Int) ≤ t.hands := by
    unfold canB at hc
    simp only [Bool.and_eq_true, Bool.not_eq_true', Bool.or_eq_false_iff, decide_eq_false_iff_not] at hc
    omega
  have hf := ht.few
  have hdr : (∀ i ∈ d, 0 ≤ i ∧ i < t.num.length) ∧ d.Pairwise (· < ·) := by
    rcases hd1 with rfl | ⟨i, a, b, rfl⟩ | ⟨_, i, j, a, b, c, rfl⟩
    · exact ⟨(fun i hi => nomatch hi), .nil⟩
    · exact ⟨fun k hk => by rw [List.mem_singleton.mp hk]; exact ⟨a, b⟩, List.pairwise_singleton _ _⟩
    · refine ⟨fun k hk => ?_, by simpa using b⟩
      simp only [List.mem_cons, List.not_mem_nil, or_false] at hk
      rcases hk with rfl | rfl <;> omega
  have ho := ht.ok.off.1
  unfold nextS at h
  split at h
  · cases h
  rename_i hz
  cases h
  have sub : ∀ {p : Int → Bool}, riseB 7 0 (d.filter p) = true := fun {p} => rise_of (fun x hx => by have := hdr.1 x (List.mem_filter.mp hx).1; omega) (hdr.2.filter _)
  have len : ∀ {p : Int → Bool}, ((d.filter p).length : Int) ≤ t.hands := fun {p} => by have := List.length_filter_le p d; omega
  refine ⟨Int.emod_nonneg _ (by omega), Int.emod_lt_of_pos _ (by omega), ?_, ?_, sub, len, ?_, sub, len, ?_, ?_, ?_⟩
  · simp [waitsF, upto_len]
  · intro i x n hx hn
    simp only at hx
    have hil : i < t.num.length := (List.getElem?_eq_some_iff.mp hn).1
    unfold waitsF at hx hz
    rw [List.getElem?_map, upto_get hil] at hx
    have hx' : waitF t s d (0 + (i : Int)) = x := by simpa using hx
    have hx0 : x ≠ 0 := fun e => hz (by rw [← e, ← hx']; exact List.mem_map.mpr ⟨0 + (i : Int), mem_upto.mpr ⟨by omega, by omega⟩, rfl⟩)
    rw [Int.zero_add] at hx'
    have hn1 := ht.ok.num.2 n (List.mem_of_getElem? hn)
    have hgn : t.num.getD i 0 = n := by rw [List.getD_eq_getElem?_getD, hn]; rfl
    unfold waitF at hx'
    rw [Int.toNat_natCast, hgn] at hx'
    split at hx'
    · omega
    · have hw : s.wt[i]? = some (s.wt.getD i 0) := by
        rw [List.getD_eq_getElem?_getD, List.getElem?_eq_getElem (by rw [hs.wl]; exact hil)]; rfl
      have := hs.wt i _ n hw hn
      omega
  · intro i hi
    have := (List.mem_filter.mp hi).2
    simp only [Bool.and_eq_true, decide_eq_true_eq] at this
    exact this.1
  · intro i hi
    simpa using (List.mem_filter.mp hi).2
  · refine Int.le_trans ?_ hdl
    have hnd : d.Nodup := List.nodup_iff_pairwise_ne.mpr (hdr.2.imp fun h e => by omega)
    have h1 : (d.filter (fun i => decide (i ∈ t.long) && !decide (i ∈ s.bz)) ++ (d.filter fun i => decide (i ∈ endsOf t.tied)).filter (fun i => !decide (i ∈ d.filter (fun i => decide (i ∈ t.long) && !decide (i ∈ s.bz))))).Nodup := by
      rw [List.nodup_append]
      refine ⟨hnd.filter _, (hnd.filter _).filter _, fun a ha b hb e => ?_⟩
      subst e
      have := (List.mem_filter.mp hb).2
      simp only [Bool.not_eq_true', decide_eq_false_iff_not] at this
      exact this ha
    have h2 := nodup_len (m := d) h1 fun x hx => by
      rcases List.mem_append.mp hx with h | h
      · exact (List.mem_filter.mp h).1
      · exact (List.mem_filter.mp (List.mem_filter.mp h).1).1
    rw [List.length_append] at h2
    simp only
    omega
  · intro i hi hie
    exact List.mem_filter.mpr ⟨(List.mem_filter.mp hi).1, by simpa using hie⟩
theorem succ_ok {t : Task} (ht : TaskL t) {s x : Stand} (hs : StandOk t s) (h : x ∈ succ t s) : StandOk t x := by
  unfold succ at h
  obtain ⟨d, hd, e⟩ := List.mem_filterMap.mp h
  exact nextS_ok ht hs hd e
end Ed
end
section
set_option maxHeartbeats 4000000
namespace Ed
open PySem L2
local macro_rules | `(tactic| nested_key) => `(tactic| first
  | rfl
  | assumption
  | omega
  | exact Nat.le_of_ble_eq_true rfl
  | decide
  | (simp only [List.length_map, small]; omega)
  | (simp [small]; done)
  | (simp only [Vd.sd, setAll, List.set, mutAll, okm, Fr] at *; simp_all; done))

/-! stands as keys -/
theorem nks_ints : ∀ {a b : List Int}, nks (a.map PyData.int) = nks (b.map PyData.int) → a = b
  | [], [], _ => rfl
  | x :: a, y :: b, h => by
    simp only [List.map_cons, nks, nk] at h
    injection h with h1 h2
    injection h1 with h1
    rw [h1, nks_ints h2]
  | [], _ :: _, h => by simp [nks] at h
  | _ :: _, [], h => by simp [nks] at h
theorem dep_ints : ∀ a : List Int, NestedKey.depthAll (nks (a.map PyData.int)) = 0
  | [] => rfl
  | x :: a => by simp only [List.map_cons, nks, nk, NestedKey.depthAll, NestedKey.depth, dep_ints a]; rfl
theorem nk_dI {a b : List Int} (h : nk (dI a) = nk (dI b)) : a = b := by
  unfold dI at h
  simp only [nk] at h
  injection h with h
  exact nks_ints h
theorem ky_stand : Ky Stand.enc where
  inj := fun a b h => by
    obtain ⟨p, w, z, l⟩ := a
    obtain ⟨p', w', z', l'⟩ := b
    unfold Stand.enc at h
    simp only [nk, nks] at h
    injection h with h
    injection h with h1 h
    injection h with h2 h
    injection h with h3 h
    injection h with h4 _
    injection h1 with h1
    rw [h1, nk_dI h2, nk_dI h3, nk_dI h4]
  dep := fun a => by
    unfold Stand.enc dI
    simp only [nk, nks, NestedKey.depth, NestedKey.depthAll, dep_ints]
    decide
  tup := fun a => ⟨_, rfl⟩
theorem fr_getG {p q : Addr} {gd : Gd} : ∀ {δ : List Sd} {i : Nat}, Fr p δ → δ[i]? = some (.g q gd) → q ≠ p ∧ gd.free p
  | [], _, _, e => by simp at e
  | s :: r, 0, h, e => by
    simp at e; subst e; exact h.1
  | s :: r, i + 1, h, e => by
    refine fr_getG (δ := r) (i := i) ?_ (by simpa using e)
    cases s with
    | l _ _ => exact h.2
    | g _ _ => exact h.2
    | x => exact h
    | d _ => exact h
    | r _ => exact h
    | v _ => exact h
section
variable {P : Program} {w : World} {K : PySem.W.Frag} {mg : Str → Option Value} {base : Heap} {dr : Option Addr} {δ : List Sd} {ta : TA} {te : TE} {B : Hp → Prop} {E : Ends} {tz : TS}
/-- x = xs.pop() -/
theorem w_popL {i k : Nat} {p : Addr} {ds : List PyData} {d : PyData} (hB : BOk dr B) (hi : δ[i]? = some (.l p (ds ++ [d]))) (hm : Mu B p) (hk : mutAll p (δ.set i .x)) (kk : W dr B E tz ((δ.set i (.l p ds)).set k (.d d))) :
    W dr B E (tSeq (tAsg (tBM0 K "list" rPop (tVar i)) (gName k)) tz) δ := fun σ H s j b => by
  obtain ⟨o, e1, e2, n, xs, g1, g2⟩ := s i _ hi
  subst e2
  have hl := g2.length
  rw [List.length_append, List.length_singleton] at hl
  obtain ⟨v, hv, hd⟩ := g2.get (i := ds.length) (d := d) (by simp)
  have g3 : DTs H xs.dropLast ds := by
    have := g2.dropLast
    rwa [List.dropLast_concat] at this
  have t : Tx H (upd H p (.lst xs.dropLast)) := Tx.upd fun xs' z => by rw [g1] at z; cases z
  refine ⟨_, e1, Or.inl ⟨rfl, _, SqL.of g1⟩, p, xs, v, rfl, rfl, g1, by rw [hl]; simpa using hv, ?_⟩
  exact kk _ _ ((s.mutd hi g1 hk g3).set ⟨v, rfl, hd.tx t⟩) (j.upd n) (hm H _ (fun xs' z => by rw [g1] at z; cases z) b)
/-! _law_ways: plain -/
abbrev ks (ts : List (Ent Stand)) : List Stand := ts.map fun e => e.k
theorem hasE_ks {ts : List (Ent Stand)} {a : Stand} : hasE ts a = decide (a ∈ ks ts) := by
  unfold hasE
  rw [Bool.eq_iff_iff, List.any_eq_true, decide_eq_true_eq, List.mem_map]
  constructor
  · rintro ⟨e, he, h⟩; exact ⟨e, he, by simpa using h⟩
  · rintro ⟨e, he, h⟩; exact ⟨e, he, by simpa using h⟩
theorem ks_st {ts : List (Ent Stand)} {e : Ent Stand} : ks (stE ts e) = if e.k ∈ ks ts then ks ts else ks ts ++ [e.k] := by
  unfold stE
  rw [hasE_ks]
  by_cases h : e.k ∈ ks ts
  · rw [if_pos (by simpa using h), if_pos h]
    unfold ks
    rw [List.map_map]
    refine List.map_congr_left fun x _ => ?_
    simp only [Function.comp]
    split <;> rfl
  · rw [if_neg (by simpa using h), if_neg h]; simp [ks]
theorem mem_st {ts : List (Ent Stand)} {e x : Ent Stand} (h : x ∈ stE ts e) : (x.k = e.k ∧ x.v = e.v ∧ x.d = e.d) ∨ (x.k ≠ e.k ∧ x ∈ ts) := by
  unfold stE at h
  split at h
  · obtain ⟨y, hy, rfl⟩ := List.mem_map.mp h
    by_cases q : y.k = e.k
    · rw [if_pos q]; exact .inl ⟨q, rfl, rfl⟩
    · rw [if_neg q]; exact .inr ⟨q, hy⟩
  · rename_i hn
    rcases List.mem_append.mp h with h | h
    · refine .inr ⟨fun q => hn ?_, h⟩
      rw [hasE_ks, decide_eq_true_eq, ← q]
      exact List.mem_map.mpr ⟨x, h, rfl⟩
    · rw [List.mem_singleton.mp h]; exact .inl ⟨rfl, rfl, rfl⟩
theorem get_mem {ts : List (Ent Stand)} {a : Stand} (h : a ∈ ks ts) : ∃ e, getE ts a = some e ∧ e ∈ ts ∧ e.k = a := by
  have h1 : (getE ts a).isSome = true := by rw [← hasE_get, hasE_ks]; simpa using h
  obtain ⟨e, he⟩ := Option.isSome_iff_exists.mp h1
  refine ⟨e, he, List.mem_of_find?_eq_some he, ?_⟩
  simpa using List.find?_some he
def DoneE (t : Task) (ts : List (Ent Stand)) (e : Ent Stand) (n : Nat) : Prop := e.d = .list ((succ t e.k).map Stand.enc) ∧ ∀ y ∈ (succ t e.k).take n, y ∈ ks ts
structure WInv (t : Task) (s0 : Stand) (ts : List (Ent Stand)) (wl : List Stand) (n : Stand → Nat) : Prop where
  nd : (ks ts).Nodup
  wn : wl.Nodup
  ws : ∀ x ∈ wl, x ∈ ks ts
  s0 : s0 ∈ ks ts
  ok : ∀ x ∈ ks ts, StandOk t x
  done : ∀ e ∈ ts, e.k ∉ wl → DoneE t ts e (n e.k)
def full (t : Task) (s : Stand) : Nat := (succ t s).length
def cur (t : Task) (one : Stand) (i : Nat) (s : Stand) : Nat := if s = one then i else full t s
theorem winv_pop {t : Task} {s0 one : Stand} {ts : List (Ent Stand)} {wl : List Stand} (h : WInv t s0 ts (wl ++ [one]) (full t)) (ka : Addr) (v : V) : WInv t s0 (stE ts ⟨one, ka, v, .list ((succ t one).map Stand.enc)⟩) wl (cur t one 0) := by
  have h1 : one ∈ ks ts := h.ws one (by simp)
  have hk : ks (stE ts ⟨one, ka, v, .list ((succ t one).map Stand.enc)⟩) = ks ts := by rw [ks_st, if_pos h1]
  have hwn := List.nodup_append.mp h.wn
  refine ⟨by rw [hk]; exact h.nd, hwn.1, fun x hx => by rw [hk]; exact h.ws x (List.mem_append_left _ hx), by rw [hk]; exact h.s0, fun x hx => h.ok x (by rw [← hk]; exact hx), fun e he hw => ?_⟩
  rcases mem_st he with ⟨q1, _, q3⟩ | ⟨q1, q2⟩
  · simp only at q1 q3
    refine ⟨by rw [q3, q1], fun y hy => ?_⟩
    unfold cur at hy
    rw [if_pos q1] at hy
    simp at hy
  · have := h.done e q2 (by simp [hw, q1])
    refine ⟨this.1, fun y hy => ?_⟩
    rw [hk]
    unfold cur at hy
    rw [if_neg q1] at hy
    exact this.2 y hy
theorem winv_old {t : Task} {s0 one y : Stand} {ts : List (Ent Stand)} {wl : List Stand} {i : Nat} (h : WInv t s0 ts wl (cur t one i)) (hy : (succ t one)[i]? = some y) (hk : y ∈ ks ts) : WInv t s0 ts wl (cur t one (i + 1)) := by
  refine ⟨h.nd, h.wn, h.ws, h.s0, h.ok, fun e he hw => ?_⟩
  obtain ⟨tha, thb⟩ := h.done e he hw
  refine ⟨tha, fun z hz => ?_⟩
  by_cases q : e.k = one
  · unfold cur at hz thb
    rw [if_pos q] at hz thb
    rw [q] at hz thb
    rw [take_succ' hy] at hz
    rcases List.mem_append.mp hz with hz | hz
    · exact thb z hz
    · rw [List.mem_singleton.mp hz]; exact hk
  · unfold cur at hz thb
    rw [if_neg q] at hz thb
    exact thb z hz
theorem winv_new {t : Task} {s0 one y : Stand} {ts : List (Ent Stand)} {wl : List Stand} {i : Nat} (h : WInv t s0 ts wl (cur t one i)) (hy : (succ t one)[i]? = some y) (hk : y ∉ ks ts) (hyo : StandOk t y) (ka : Addr) (v : V) : WInv t s0 (stE ts ⟨y, ka, v, .list []⟩) (wl ++ [y]) (cur t one (i + 1)) := by
  have hks : ks (stE ts ⟨y, ka, v, .list []⟩) = ks ts ++ [y] := by rw [ks_st, if_neg hk]
  refine ⟨?_, ?_, fun x hx => ?_, by rw [hks]; exact List.mem_append_left _ h.s0, fun x hx => ?_, fun e he hw => ?_⟩
  · rw [hks, List.nodup_append]
    exact ⟨h.nd, by simp, fun a ha b hb e => hk (by rw [List.mem_singleton.mp hb] at e; rw [← e]; exact ha)⟩
  · rw [List.nodup_append]
    exact ⟨h.wn, by simp, fun a ha b hb e => hk (by rw [List.mem_singleton.mp hb] at e; rw [← e]; exact h.ws a ha)⟩
  · rw [hks]
    rcases List.mem_append.mp hx with hx | hx
    · exact List.mem_append_left _ (h.ws x hx)
    · exact List.mem_append_right _ hx
  · rw [hks] at hx
    rcases List.mem_append.mp hx with hx | hx
    · exact h.ok x hx
    · rw [List.mem_singleton.mp hx]; exact hyo
  · rcases mem_st he with ⟨q1, _, _⟩ | ⟨q1, q2⟩
    · exact absurd (by rw [q1]; simp) hw
    · obtain ⟨tha, thb⟩ := h.done e q2 fun q => hw (List.mem_append_left _ q)
      refine ⟨tha, fun z hz => ?_⟩
      rw [hks]
      by_cases q : e.k = one
      · unfold cur at hz thb
        rw [if_pos q] at hz thb
        rw [q] at hz thb
        rw [take_succ' hy] at hz
        rcases List.mem_append.mp hz with hz | hz
        · exact List.mem_append_left _ (thb z hz)
        · exact List.mem_append_right _ hz
      · unfold cur at hz thb
        rw [if_neg q] at hz thb
        exact List.mem_append_left _ (thb z hz)
theorem winv_end {t : Task} {s0 one : Stand} {ts : List (Ent Stand)} {wl : List Stand} (h : WInv t s0 ts wl (cur t one (succ t one).length)) : WInv t s0 ts wl (full t) := by
  refine ⟨h.nd, h.wn, h.ws, h.s0, h.ok, fun e he hw => ?_⟩
  have := h.done e he hw
  have e1 : cur t one (succ t one).length e.k = full t e.k := by
    unfold cur
    split
    · rename_i q; rw [q]; rfl
    · rfl
  rwa [e1] at this
theorem winv_few {t : Task} (ht : TaskL t) {s0 : Stand} {ts : List (Ent Stand)} {wl : List Stand} {n : Stand → Nat} (h : WInv t s0 ts wl n) : ts.length ≤ 3300 ∧ wl.length ≤ 3300 := by
  have h1 := few_stands ht h.nd h.ok
  have h2 := nodup_len h.wn h.ws
  unfold ks at h1 h2
  rw [List.length_map] at h1 h2
  omega
/-- what _law_ways gives -/
structure WaysOk (t : Task) (s0 : Stand) (l : List (Stand × PyData)) : Prop where
  nd : (l.map (·.1)).Nodup
  s0 : s0 ∈ l.map (·.1)
  ok : ∀ x ∈ l.map (·.1), StandOk t x
  done : ∀ e ∈ l, e.2 = .list ((succ t e.1).map Stand.enc) ∧ ∀ y ∈ succ t e.1, y ∈ l.map (·.1)
theorem kvs_ks (ts : List (Ent Stand)) : (kvs ts).map (·.1) = ks ts := by
  unfold kvs ks
  rw [List.map_map]; rfl
theorem ways_of {t : Task} {s0 : Stand} {ts : List (Ent Stand)} (h : WInv t s0 ts [] (full t)) : WaysOk t s0 (kvs ts) := by
  refine ⟨by rw [kvs_ks]; exact h.nd, by rw [kvs_ks]; exact h.s0, fun x hx => h.ok x (by rw [← kvs_ks]; exact hx), fun e he => ?_⟩
  obtain ⟨x, hx, rfl⟩ := List.mem_map.mp he
  have := h.done x hx (by simp)
  refine ⟨this.1, fun y hy => ?_⟩
  rw [kvs_ks]
  exact this.2 y (by unfold full; rw [List.take_length]; exact hy)
def waysV (P : Program) (w : World) (t : Task) (s0 : Stand) : Gv where
  ok := fun dr H v => ∃ l, WaysOk t s0 l ∧ (kV P w Stand.enc l).ok dr H v
  ext := fun e j h => let ⟨l, h1, h2⟩ := h; ⟨l, h1, (kV P w Stand.enc l).ext e j h2⟩
  st := false
  chg := fun h => nomatch h
def q__law_ways (P : Program) (w : World) : List Vd → Vd → Prop := fun a z => ∃ (t : Task) (s : Stand), a = [.d t.enc, .d s.enc] ∧ TaskL t ∧ StandOk t s ∧ z = .g (waysV P w t s)
abbrev sp__law_ways (P : Program) (w : World) : Sp := spP (q__law_ways P w)
theorem e__law_ways {ta : TA} {t : Task} {s : Stand} (h : EvA dr ta δ [.d t.enc, .d s.enc]) (ht : TaskL t) (hs : StandOk t s) : Ev dr (tCall (sp__law_ways P w) [] C8.E0 ta) δ (.g (waysV P w t s)) := ev_call h ⟨_, _, rfl, ht, hs, rfl⟩
abbrev s__law_ways : Stmt := Hd.top 76
abbrev N__law_ways : List Str := ["_law_task_here", "_law_stand", "_law_found", "_law_waiting", "_law_one", "_law_later", "_law_other", "_law_day"]
theorem nd__law_ways : N__law_ways.Nodup := by decide +kernel
theorem sc__law_ways : C8.scC N__law_ways ["_law_task_here", "_law_stand"] (C8.fnScope s__law_ways) = true := by decide +kernel
def t__law_ways (P : Program) (w : World) (K : PySem.W.Frag) : TS :=
  (tSeq (tAsg (tOneK P w (tVar 1) (tLst tNil)) (gName 2))
  (tSeq (tAsg (tLst (tCons (tVar 1) tNil)) (gName 3))
  (tSeq (tWhile (tTest (tOp (rNeD K) (tVar 3) (tLst tNil))) (tSeq (tAsg (tBM0 K "list" rPop (tVar 3)) (gName 4))
  (tSeq (tAsg (tLc (iList K (tCall sp__law_days [] C8.E0 (tCons (tVar 0) (tCons (tVar 4) tNil)))) (gName 7) tYes (tCall sp__law_next_stand [] C8.E0 (tCons (tVar 0) (tCons (tVar 4) (tCons (tVar 7) tNil)))) [7]) (gName 5))
  (tSeq (tAsg (tLc (iList K (tVar 5)) (gName 6) (tTest (tOp rNotN (tVar 6) (tC .non))) (tVar 6) [6]) (gSub (tVar 2) (tVar 4) (rSetK P w)))
  (tSeq (tFor (iList K (tOp (rIxK P w) (tVar 2) (tVar 4))) (gName 6) (tSeq (tIfS (tTest (tOp (rInK P w true) (tVar 6) (tVar 2))) (tSeq (tAsg (tLst tNil) (gSub (tVar 2) (tVar 6) (rSetK P w)))
  (tSeq (tDrop (tBM K "list" rAppend (tVar 3) (tCons (tVar 6) tNil)))
  tNext)) tNext)
  tNext))
  tNext)))))
  (tSeq (tRet (tVar 2))
  tNext))))
theorem d__law_ways {P : Program} {w : World} {K : PySem.W.Frag} {mg : Str → Option Value} {base : Heap} (T : Top K mg) (f : Addr) (cdv : Value) (A : Around) (outer : List Env) (s : Shared) (H : Hp) (E : XK)
    (hr : Room 1 (A.deeper (PyProof.Rows.envOfC "_law_ways" (C8.fnScope s__law_ways) s.heap.objs.size f cdv))) :
    PSs (cxOf C8.CX0 P w K mg base N__law_ways "_law_ways" (C8.fnScope s__law_ways) f cdv A outer s H E).nox (C8.fnBody s__law_ways) (t__law_ways P w K) :=
  (pss_cons (ps_set (i := 2) nd__law_ways rfl (by first | exact Or.inl rfl | exact Or.inr rfl) (pe_oneK (Room.u64 hr) (pv 1) (pe_lst pa_nil)))
  (pss_cons (ps_set (i := 3) nd__law_ways rfl (by first | exact Or.inl rfl | exact Or.inr rfl) (pe_lst (pa_cons (pv 1) pa_nil)))
  (pss_cons (ps_while PassesOwn.never (pt_cmpR (op_neD hr.units) (pv 3) (pe_lst pa_nil) (nomark _)) (pss_cons (ps_set (i := 4) nd__law_ways rfl (by first | exact Or.inl rfl | exact Or.inr rfl) (pe_bm0 PySem.F.plainAttrs_list PySem.F.slot_list_pop PySem.F.type_list_pop mt_pop (pv 3)))
  (pss_cons (by first | exact ps_setLc (i := 5) (own := [("_law_day", 7)]) (g := gName 7) rfl nd__law_ways rfl rfl (sw_true rfl rfl rfl (by decide +kernel)) (pi_list (C8.pe_c (c__law_days T) hr (by decide) rfl (pa_cons (pv 0) (pa_cons (pv 4) pa_nil)))) (blkOk_by (N := N__law_ways) (sc := C8.fnScope s__law_ways) (by decide +kernel)) (fun _ _ _ _ _ => pg_name (i := 7) nd__law_ways rfl (by first | exact Or.inl rfl | exact Or.inr rfl)) (fun _ _ _ _ _ => pts_nil) (fun _ _ _ _ _ => (C8.pe_c (c__law_next_stand T) hr (by decide) rfl (pa_cons (pv 0) (pa_cons (pv 4) (pa_cons (pv 7) pa_nil))))) | exact ps_set (i := 5) nd__law_ways rfl (by first | exact Or.inl rfl | exact Or.inr rfl) (pe_lc (own := [("_law_day", 7)]) (g := gName 7) rfl nd__law_ways (pi_list (C8.pe_c (c__law_days T) hr (by decide) rfl (pa_cons (pv 0) (pa_cons (pv 4) pa_nil)))) (blkOk_by (N := N__law_ways) (sc := C8.fnScope s__law_ways) (by decide +kernel)) (fun _ _ _ _ _ => pg_name (i := 7) nd__law_ways rfl (by first | exact Or.inl rfl | exact Or.inr rfl)) (fun _ _ _ _ _ => pts_nil) (fun _ _ _ _ _ => (C8.pe_c (c__law_next_stand T) hr (by decide) rfl (pa_cons (pv 0) (pa_cons (pv 4) (pa_cons (pv 7) pa_nil)))))))
  (pss_cons (ps_asg (pe_lc (own := [("_law_other", 6)]) (g := gName 6) rfl nd__law_ways (pi_list (pv 5)) (blkOk_by (N := N__law_ways) (sc := C8.fnScope s__law_ways) (by decide +kernel)) (fun _ _ _ _ _ => pg_name (i := 6) nd__law_ways rfl (by first | exact Or.inl rfl | exact Or.inr rfl)) (fun _ _ _ _ _ => pts_one (pt_cmpR op_notN' (pv 6) pe_non (nomark _))) (fun _ _ _ _ _ => (pv 6))) (pg_sub (pv 2) (pv 4) (set_K (Room.u64 hr))))
  (pss_cons (ps_for PassesOwn.never rfl (pi_list (pe_ix (ix_K (Room.u64 hr)) (pv 2) (pv 4) (fun _ _ => rfl))) (pg_name (i := 6) nd__law_ways rfl (by first | exact Or.inl rfl | exact Or.inr rfl)) (pss_cons (ps_if (pt_cmpR (op_notInK (Room.u64 hr)) (pv 6) (pv 2) (by rfl)) (pss_cons (ps_asg (pe_lst pa_nil) (pg_sub (pv 2) (pv 6) (set_K (Room.u64 hr))))
  (pss_cons (ps_expr (pe_bm PySem.F.plainAttrs_list PySem.F.slot_list_append PySem.F.type_list_append mt_append (pv 3) (pa_cons (pv 6) pa_nil)))
  pss_nil)) pss_nil)
  pss_nil))
  pss_nil)))))
  (pss_cons (ps_ret (pv 2))
  pss_nil))))
theorem succ_eq (t : Task) (s : Stand) : (((daysL t s).map (nextS t s)).filter fun o => o.isSome).map oenc = (succ t s).map Stand.enc := by
  unfold succ
  induction daysL t s with
  | nil => rfl
  | cons d ds ih =>
    rw [List.map_cons, List.filter_cons, List.filterMap_cons]
    cases e : nextS t s d with
    | none => simpa using ih
    | some x => simp only [Option.isSome_some, if_true, List.map_cons, ih]; rfl
theorem daysL_len {t : Task} (ht : TaskOk t) (s : Stand) : (daysL t s).length ≤ 1000 := by
  unfold daysL
  rw [List.length_mergeSort]
  refine Nat.le_trans (List.length_filter_le _ _) ?_
  have hn := ht.num.1
  unfold dhL
  split
  · have h8 : hhN t ≤ 8 := by unfold hhN; split <;> omega
    have := prU_len (hhN t) h8
    rw [List.length_append, List.length_cons, List.length_map, upto_len]
    omega
  · simp
theorem succ_len {t : Task} (ht : TaskOk t) (s : Stand) : (succ t s).length ≤ 1000 := Nat.le_trans (List.length_filterMap_le _ _) (daysL_len ht s)
theorem c__law_ways (T : Top K mg) : C8.Cal P w K mg base 2 "_law_ways" (sp__law_ways P w) [] := by
  refine cal_of T.f__law_ways sc__law_ways (t__law_ways P w K) (fun zs z h => ?_) (fun f cdv A outer s H E hr => d__law_ways T f cdv A outer s H E hr) (fun dr B E zs z hp hB hR hN => ?_)
  · obtain ⟨_, _, rfl, _⟩ := h; rfl
  obtain ⟨t, s0, rfl, ht, hs0, rfl⟩ := hp
  refine w_oneK ky_stand hB (ev_var rfl) (en_lst ead_nil (by nested_key)) fun p ka0 q0 np nq0 mp frp => ?_
  refine w_asgN hB (en_lst (ds := [s0.enc]) (ead_cons (ev_var rfl) ead_nil) (by nested_key)) fun pw npw mpw frw => ?_
  obtain ⟨hppw, hfree⟩ := fr_getG (i := 2) frw rfl
  have hinv0 : WInv t s0 [⟨s0, ka0, .ref q0, .list []⟩] [s0] (full t) := ⟨by simp, by simp, fun x hx => by simpa using hx, by simp, fun x hx => by rw [show x = s0 by simpa using hx]; exact hs0, fun e he hw => absurd (by rw [List.mem_singleton.mp he]; simp) hw⟩
  refine w_while (fun m δ' => ∃ (ts : List (Ent Stand)) (wl : List Stand) (c4 c5 c6 : Sd), δ' = [.d t.enc, .d s0.enc, .g p (kG P w Stand.enc true ts), .l pw (wl.map Stand.enc), c4, c5, c6, .x] ∧ WInv t s0 ts wl (full t) ∧ (∀ e ∈ ts, e.v ≠ .ref pw) ∧ m = 2 * (3300 - ts.length) + wl.length ∧ (okm p c4 ∧ okm pw c4) ∧ (okm p c5 ∧ okm pw c5) ∧ (okm p c6 ∧ okm pw c6)) ⟨_, _, .x, .x, .x, rfl, hinv0, hfree, rfl, ⟨trivial, trivial⟩, ⟨trivial, trivial⟩, ⟨trivial, trivial⟩⟩ (fun m δ' hI => ?_) hB
  obtain ⟨ts, wl, c4, c5, c6, rfl, hinv, hfr, rfl, ⟨k4, k4'⟩, ⟨k5, k5'⟩, ⟨k6, k6'⟩⟩ := hI
  refine ⟨_, et_test (ev_op (ev_varL rfl) (EvN.ev (en_lst ead_nil (by nested_key))) (rr_neNil (shaped_ls _))), fun hb => ?_, fun hb => ?_⟩
  · have hne : wl ≠ [] := by rintro rfl; simp at hb
    obtain ⟨wl', one, rfl⟩ : ∃ wl' one, wl = wl' ++ [one] := ⟨wl.dropLast, wl.getLast hne, (List.dropLast_concat_getLast hne).symm⟩
    have hone : one ∈ ks ts := hinv.ws one (by simp)
    have hok := hinv.ok one hone
    have hsw := hok.sw ht.ok
    have hdl := daysL_len ht.ok one
    have hsl := succ_len ht.ok one
    obtain ⟨hts, hwl⟩ := winv_few ht hinv
    refine w_popL (ds := wl'.map Stand.enc) (d := one.enc) hB (by simp) mpw ⟨trivial, trivial, ⟨hppw, hfr⟩, trivial, k4', k5', k6', trivial, trivial⟩ ?_
    refine w_asgN hB (EvN.is (en_lcL (daysL t one) dI (fun _ => true) (fun d => oenc (nextS t one d)) (e__law_days (ea_cons (ev_var rfl) (ea_cons (ev_var rfl) ea_nil)) ht.ok hsw) (by omega) (by simp) (fun a ha => et_yes) (fun a ha hf => e__law_next_stand (ea_cons (ev_var rfl) (ea_cons (ev_var rfl) (ea_cons (ev_var rfl) ea_nil))) ht.ok hsw (by have := later_len ((days_mem ht.ok hsw).mp ha); omega))) (show _ = ((daysL t one).map (nextS t one)).map oenc by rw [filt_true, List.map_map]; rfl)) fun p5 np5 mp5 fr5 => ?_
    have h5w : pw ≠ p5 := fr_get (i := 3) fr5 rfl
    have h5p : p ≠ p5 := (fr_getG (i := 2) fr5 rfl).1
    refine w_setKN ky_stand hB rfl mp (EvN.is (en_lcL ((daysL t one).map (nextS t one)) oenc (fun o => o.isSome) oenc (ev_varL rfl) (by rw [List.length_map]; omega) (by simp) (fun a ha => EvT.is (et_test (ev_op (ev_var rfl) ev_non rr_notN)) (by rw [isNon_oenc]; cases a <;> rfl)) (fun a ha hf => ev_var rfl)) (succ_eq t one)) (ev_var rfl) (by omega) ⟨trivial, trivial, trivial, Ne.symm hppw, trivial, Ne.symm h5p, k6, trivial, trivial⟩ fun ka q nq mq frq => ?_
    have hqp : p ≠ q := (fr_getG (i := 2) frq rfl).1
    have hqw : pw ≠ q := fr_get (i := 3) frq rfl
    have hinv1 := winv_pop hinv ka (.ref q)
    have hone1 : one ∈ ks (stE ts ⟨one, ka, .ref q, .list ((succ t one).map Stand.enc)⟩) := by rw [ks_st, if_pos hone]; exact hone
    have hlen1 : (stE ts ⟨one, ka, .ref q, .list ((succ t one).map Stand.enc)⟩).length = ts.length := by
      have := congrArg List.length (ks_st (ts := ts) (e := ⟨one, ka, .ref q, .list ((succ t one).map Stand.enc)⟩))
      rw [if_pos hone] at this
      simpa [ks] using this
    have hfr1 : ∀ e ∈ stE ts ⟨one, ka, .ref q, .list ((succ t one).map Stand.enc)⟩, e.v ≠ .ref pw := fun e he => by
      rcases mem_st he with ⟨_, q2, _⟩ | ⟨_, q2⟩
      · rw [q2]; intro z; cases z; exact hqw rfl
      · exact hfr e q2
    obtain ⟨e1, hg1, hm1, hk1⟩ := get_mem hone1
    have he1 : e1.v = .ref q ∧ e1.d = .list ((succ t one).map Stand.enc) := by
      rcases mem_st hm1 with ⟨_, q2, q3⟩ | ⟨q1, _⟩
      · exact ⟨q2, q3⟩
      · exact absurd hk1 q1
    generalize hts1 : stE ts ⟨one, ka, .ref q, .list ((succ t one).map Stand.enc)⟩ = ts1 at hinv1 hone1 hlen1 hfr1 hg1 hm1
    refine w_forQ (q := q) (succ t one) Stand.enc (fun i δ' => ∃ (ts : List (Ent Stand)) (wl : List Stand) (c6 : Sd), δ' = [.d t.enc, .d s0.enc, .g p (kG P w Stand.enc true ts), .l pw (wl.map Stand.enc), .d one.enc, .l p5 (((daysL t one).map (nextS t one)).map oenc), c6, .x] ∧ WInv t s0 ts wl (cur t one i) ∧ (∀ e ∈ ts, e.v ≠ .ref pw) ∧ 2 * (3300 - ts.length) + wl.length ≤ 2 * (3300 - ts1.length) + wl'.length ∧ (okm p c6 ∧ okm pw c6)) hB (eq_ixK ky_stand (b := true) (ts := ts1) rfl (ev_var rfl) hg1 he1.2 he1.1) ⟨ts1, wl', c6, rfl, hinv1, hfr1, Nat.le_refl _, k6, k6'⟩ (fun B' hB' hb' mu i y δ' hy hI => ?_) (fun δ' hI => ?_)
    · obtain ⟨ts, wl, c6, rfl, hinv, hfr, hme, k6, k6'⟩ := hI
      have hyo : StandOk t y := succ_ok ht hok (List.mem_of_getElem? hy)
      obtain ⟨hts, hwl⟩ := winv_few ht hinv
      refine w_if hB' (et_test (ev_niK ky_stand (b := true) (ts := ts) (p := p) (i := 2) rfl (ev_var rfl))) (fun hb => ?_) (fun hb => ?_)
      · rw [hasE_ks] at hb
        have hyk : y ∉ ks ts := by simpa using hb
        refine w_setKN ky_stand hB' rfl (mu p hqp mp) (en_lst ead_nil (by nested_key)) (ev_var rfl) (by omega) ⟨trivial, trivial, trivial, Ne.symm hppw, trivial, Ne.symm h5p, trivial, trivial, trivial⟩ fun ka2 q2 nq2 mq2 frq2 => ?_
        have hq2w : pw ≠ q2 := fr_get (i := 3) frq2 rfl
        have hinv2 := winv_new hinv hy hyk hyo ka2 (.ref q2)
        obtain ⟨hts2, hwl2⟩ := winv_few ht hinv2
        have hfr2 : ∀ e ∈ stE ts ⟨y, ka2, .ref q2, .list []⟩, e.v ≠ .ref pw := fun e he => by
          rcases mem_st he with ⟨_, z2, _⟩ | ⟨_, z2⟩
          · rw [z2]; intro z; cases z; exact hq2w rfl
          · exact hfr e z2
        have hlen2 : (stE ts ⟨y, ka2, .ref q2, .list []⟩).length = ts.length + 1 := by
          have := congrArg List.length (ks_st (ts := ts) (e := ⟨y, ka2, .ref q2, .list []⟩))
          rw [if_neg hyk] at this
          simpa [ks] using this
        refine w_app hB' rfl (mu pw hqw mpw) (ev_var rfl) (by rw [List.length_map]; omega) ⟨trivial, trivial, ⟨hppw, hfr2⟩, trivial, trivial, Ne.symm h5w, trivial, trivial, trivial⟩ ?_
        refine w_nx ?_
        refine w_end ⟨_, wl ++ [y], .d y.enc, by simp, hinv2, hfr2, ?_, trivial, trivial⟩
        rw [hlen2, List.length_append, List.length_singleton]
        rw [hlen2] at hts2
        omega
      · rw [hasE_ks] at hb
        refine w_nx ?_
        exact w_end ⟨ts, wl, .d y.enc, rfl, winv_old hinv hy (by simpa using hb), hfr, hme, trivial, trivial⟩
    · obtain ⟨ts, wl, c6, rfl, hinv, hfr, hme, k6, k6'⟩ := hI
      refine w_end ⟨_, ?_, ts, wl, _, _, c6, rfl, winv_end hinv, hfr, rfl, ⟨trivial, trivial⟩, ⟨Ne.symm h5p, Ne.symm h5w⟩, ⟨k6, k6'⟩⟩
      rw [hlen1] at hme
      rw [List.length_append, List.length_singleton]
      omega
  · have hwe : wl = [] := by
      cases wl with
      | nil => rfl
      | cons _ _ => simp at hb
    subst hwe
    refine w_ret hB (z := .g (waysV P w t s0)) (fun σ H s j Q q => (ev_varG (i := 2) (p := p) (ts := ts) rfl rfl) σ H s j Q fun v H2 e2 h2 => q v H2 e2 ⟨_, ways_of hinv, h2⟩) hR
end
end Ed
end
section
set_option maxHeartbeats 4000000
namespace Ed
open PySem L2
local macro_rules | `(tactic| nested_key) => `(tactic| first
  | rfl
  | assumption
  | omega
  | exact Nat.le_of_ble_eq_true rfl
  | decide
  | (simp only [List.length_map, small]; omega)
  | (simp [small]; done)
  | (simp only [Vd.sd, setAll, List.set, mutAll, okm, Fr] at *; simp_all; done))

/-! _law_dead: plain -/
structure LInv (t : Task) (keys la F : List Stand) : Prop where
  nd : (la ++ F).Nodup
  all : ∀ x, x ∈ keys ↔ x ∈ la ∨ x ∈ F
  rk : ∃ (r : Stand → Nat) (n : Nat), ∀ s ∈ F, r s < n ∧ ∀ x ∈ succ t s, x ∈ F ∧ r x < r s
/-- the dead stands of those that can be come to -/
structure DeadOk (t : Task) (s0 : Stand) (F : List Stand) : Prop where
  nd : F.Nodup
  ex : ∃ keys : List Stand, s0 ∈ keys ∧ (∀ k ∈ keys, StandOk t k) ∧ (∀ k ∈ keys, k ∉ F → ∃ x ∈ succ t k, x ∈ keys ∧ x ∉ F) ∧ ∀ s ∈ F, s ∈ keys
  rk : ∃ r : Stand → Nat, ∀ s ∈ F, ∀ x ∈ succ t s, x ∈ F ∧ r x < r s
def deadB (t : Task) (la : List Stand) (k : Stand) : Bool := (succ t k).all fun x => !decide (x ∈ la)
theorem linv_step {t : Task} {keys la F D : List Stand} (h : LInv t keys la F) (hc : ∀ k ∈ keys, ∀ x ∈ succ t k, x ∈ keys) (hD : D.Perm (la.filter (deadB t la))) : LInv t keys (la.filter fun x => !decide (x ∈ la.filter (deadB t la))) (F ++ D) := by
  obtain ⟨r, n, hr⟩ := h.rk
  have hnd := List.nodup_append.mp h.nd
  have hDm : ∀ x, x ∈ D ↔ x ∈ la ∧ deadB t la x = true := fun x => by rw [hD.mem_iff, List.mem_filter]
  have hDn : D.Nodup := hD.nodup_iff.mpr (hnd.1.filter _)
  have hmem : ∀ x, x ∈ la.filter (fun x => !decide (x ∈ la.filter (deadB t la))) ↔ x ∈ la ∧ x ∉ D := fun x => by
    rw [List.mem_filter, hD.mem_iff]
    simp
    intro h; simp [h]
  refine ⟨?_, fun x => ?_, fun s => if s ∈ D then n else r s, n + 1, fun s hs => ?_⟩
  · rw [List.nodup_append]
    refine ⟨hnd.1.filter _, ?_, fun a ha b hb e => ?_⟩
    · rw [List.nodup_append]
      refine ⟨hnd.2.1, hDn, fun a ha b hb e => ?_⟩
      subst e
      exact hnd.2.2 a ((hDm a).mp hb).1 a ha rfl
    · subst e
      have ha' := (hmem a).mp ha
      rcases List.mem_append.mp hb with hb | hb
      · exact hnd.2.2 a ha'.1 a hb rfl
      · exact ha'.2 hb
  · rw [h.all x, hmem, List.mem_append]
    constructor
    · rintro (q | q)
      · by_cases z : x ∈ D
        · exact .inr (.inr z)
        · exact .inl ⟨q, z⟩
      · exact .inr (.inl q)
    · rintro (⟨q, _⟩ | q | q)
      · exact .inl q
      · exact .inr q
      · exact .inl ((hDm x).mp q).1
  · have notD : ∀ x ∈ F, x ∉ D := fun x hx hd => hnd.2.2 x ((hDm x).mp hd).1 x hx rfl
    rcases List.mem_append.mp hs with hs | hs
    · have := hr s hs
      simp only [if_neg (notD s hs)]
      refine ⟨by omega, fun x hx => ?_⟩
      have hx' := this.2 x hx
      rw [if_neg (notD x hx'.1)]
      exact ⟨List.mem_append_left _ hx'.1, hx'.2⟩
    · simp only [if_pos hs]
      refine ⟨by omega, fun x hx => ?_⟩
      obtain ⟨hl, hd⟩ := (hDm s).mp hs
      have hxl : x ∉ la := by
        unfold deadB at hd
        rw [List.all_eq_true] at hd
        simpa using hd x hx
      have hxF : x ∈ F := ((h.all x).mp (hc s ((h.all s).mpr (.inl hl)) x hx)).resolve_left hxl
      rw [if_neg (notD x hxF)]
      exact ⟨List.mem_append_left _ hxF, (hr x hxF).1⟩
theorem linv_end {t : Task} {s0 : Stand} {keys la F : List Stand} (h : LInv t keys la F) (h0 : s0 ∈ keys) (hok : ∀ k ∈ keys, StandOk t k) (hd : la.filter (deadB t la) = []) : DeadOk t s0 F := by
  obtain ⟨r, n, hr⟩ := h.rk
  have hnd := List.nodup_append.mp h.nd
  refine ⟨hnd.2.1, ⟨keys, h0, hok, fun k hk hF => ?_, fun s hs => (h.all s).mpr (.inr hs)⟩, r, fun s hs x hx => (hr s hs).2 x hx⟩
  have hl : k ∈ la := ((h.all k).mp hk).resolve_right hF
  rw [List.filter_eq_nil_iff] at hd
  have := hd k hl
  unfold deadB at this
  rw [List.all_eq_true] at this
  simp only [Bool.not_eq_true', decide_eq_false_iff_not, Classical.not_forall, Classical.not_not] at this
  obtain ⟨x, hx, hxl⟩ := this
  exact ⟨x, hx, (h.all x).mpr (.inl hxl), fun q => hnd.2.2 x hxl x q rfl⟩
theorem ks_dr {ts : List (Ent Stand)} {a : Stand} : ks (drE ts a) = (ks ts).filter fun x => decide (x ≠ a) := by
  unfold ks drE
  rw [List.filter_map]; rfl
theorem alike_st (a b : Stand) : PySem.W.alike a.enc b.enc = true := by
  unfold Stand.enc
  simp only [PySem.W.alike, PySem.W.alikeAll, alike_dI, Bool.and_self]
theorem sortOk_st {ss : List Stand} (h : ss.length ≤ 900000) : SortOk (ss.map Stand.enc) :=
  ⟨PySem.W.AllAlike.of alike_st, .inl (PySem.W.Sortable.tuples fun b => ⟨_, _, rfl⟩), fun d hd => by obtain ⟨p, _, rfl⟩ := List.mem_map.mp hd; exact Nat.le_trans (sh_stand p).2 (by decide), by rw [List.length_map]; exact h⟩
section
variable {P : Program} {w : World} {K : PySem.W.Frag} {mg : Str → Option Value} {base : Heap} {dr : Option Addr} {δ : List Sd} {ta : TA} {te : TE} {B : Hp → Prop} {E : Ends} {tz : TS}
theorem w_openW {i : Nat} {t : Task} {s0 : Stand} (h : δ[i]? = some (.v (.g (waysV P w t s0)))) (k : ∀ p ts, dr ≠ some p → WaysOk t s0 (kvs ts) → W dr B E tz (δ.set i (.g p (kG P w Stand.enc true ts)))) : W dr B E tz δ := fun σ H s j bb => by
  obtain ⟨o, e1, v, e2, l, hl, p, ts, rfl, n, h1, rfl⟩ := s i _ h
  subst e2
  refine k p ts n hl σ H (fun m t q => ?_) j bb
  rcases set_get q with ⟨e3, e4, hl'⟩ | ⟨hki, q⟩
  · subst e3 e4
    exact ⟨_, e1, rfl, n, h1⟩
  · exact s m t q
def deadZ (t : Task) (s0 : Stand) : List PyData → Prop := fun ds => ∃ F, DeadOk t s0 F ∧ ds = F.map Stand.enc
def q__law_dead (P : Program) (w : World) : List Vd → Vd → Prop := fun a z => ∃ (t : Task) (s : Stand), a = [.g (waysV P w t s)] ∧ TaskL t ∧ z = .g (anyL (deadZ t s))
abbrev sp__law_dead (P : Program) (w : World) : Sp := spP (q__law_dead P w)
theorem e__law_dead {ta : TA} {t : Task} {s : Stand} (h : EvA dr ta δ [.g (waysV P w t s)]) (ht : TaskL t) : Ev dr (tCall (sp__law_dead P w) [] C8.E0 ta) δ (.g (anyL (deadZ t s))) := ev_call h ⟨_, _, rfl, ht, rfl⟩
abbrev s__law_dead : Stmt := Hd.top 84
abbrev N__law_dead : List Str := ["_law_ways_here", "_law_lasting", "_law_found", "_law_again", "_law_dead_here", "_law_one", "_law_other"]
theorem nd__law_dead : N__law_dead.Nodup := by decide +kernel
theorem sc__law_dead : C8.scC N__law_dead ["_law_ways_here"] (C8.fnScope s__law_dead) = true := by decide +kernel
def t__law_dead (P : Program) (w : World) (K : PySem.W.Frag) : TS :=
  (tSeq (tAsg (tCB (rDctK P w K) (tCons (tLockE (tLc (iX P w (tVar 0)) (gName 5) tYes (tTup (tCons (tVar 5) (tCons (tC (.bl true)) tNil))) [5])) tNil)) (gName 1))
  (tSeq (tAsg (tLst tNil) (gName 2))
  (tSeq (tAsg (tC (.bl true)) (gName 3))
  (tSeq (tWhile (tB (tVar 3)) (tSeq (tAsg (tLockE (tLc (iX P w (tVar 1)) (gName 5) (tTest (tOp (rEqD K) (tLc (iList K (tOp (rIxK P w) (tVar 0) (tVar 5))) (gName 6) (tTest (tOp (rInK P w false) (tVar 6) (tVar 1))) (tVar 6) [6]) (tLst tNil))) (tVar 5) [5])) (gName 4))
  (tSeq (tFor (iList K (tVar 4)) (gName 5) (tSeq (tDrop (tBMK P w (rPopK P w) (tVar 1) (tCons (tVar 5) tNil)))
  tNext))
  (tSeq (tAsg (tOp rCat (tVar 2) (tCB (rSortT K) (tCons (tVar 4) tNil))) (gName 2))
  (tSeq (tAsg (tOp (rNeD K) (tVar 4) (tLst tNil)) (gName 3))
  tNext)))))
  (tSeq (tRet (tVar 2))
  tNext)))))
theorem d__law_dead {P : Program} {w : World} {K : PySem.W.Frag} {mg : Str → Option Value} {base : Heap} (T : Top K mg) (f : Addr) (cdv : Value) (A : Around) (outer : List Env) (s : Shared) (H : Hp) (E : XK)
    (hr : Room 0 (A.deeper (PyProof.Rows.envOfC "_law_dead" (C8.fnScope s__law_dead) s.heap.objs.size f cdv))) :
    PSs (cxOf C8.CX0 P w K mg base N__law_dead "_law_dead" (C8.fnScope s__law_dead) f cdv A outer s H E).nox (C8.fnBody s__law_dead) (t__law_dead P w K) :=
  (pss_cons (ps_set (i := 1) nd__law_dead rfl (by first | exact Or.inl rfl | exact Or.inr rfl) (pe_callTy (cr_dictK rfl (Room.u64 hr)) (by rfl) T.n_dict bt_dict (pa_cons (pe_lock (pe_lc (own := [("_law_one", 5)]) (g := gName 5) rfl nd__law_dead (pi_X (pv 0)) (blkOk_by (N := N__law_dead) (sc := C8.fnScope s__law_dead) (by decide +kernel)) (fun _ _ _ _ _ => pg_name (i := 5) nd__law_dead rfl (by first | exact Or.inl rfl | exact Or.inr rfl)) (fun _ _ _ _ _ => pts_nil) (fun _ _ _ _ _ => (pe_tup (pa_cons (pv 5) (pa_cons pe_bl pa_nil)))))) pa_nil)))
  (pss_cons (ps_set (i := 2) nd__law_dead rfl (by first | exact Or.inl rfl | exact Or.inr rfl) (pe_lst pa_nil))
  (pss_cons (ps_set (i := 3) nd__law_dead rfl (by first | exact Or.inl rfl | exact Or.inr rfl) pe_bl)
  (pss_cons (ps_while PassesOwn.never (pt_val (pv 3)) (pss_cons (ps_lock (ps_setLc (i := 4) (own := [("_law_one", 5)]) (g := gName 5) rfl nd__law_dead rfl rfl (sw_true rfl rfl rfl (by decide +kernel)) (pi_X (pv 1)) (blkOk_by (N := N__law_dead) (sc := C8.fnScope s__law_dead) (by decide +kernel)) (fun _ _ _ _ _ => pg_name (i := 5) nd__law_dead rfl (by first | exact Or.inl rfl | exact Or.inr rfl)) (fun _ _ _ _ _ => pts_one (pt_cmpR (op_eqD hr.units) (pe_lc (own := [("_law_other", 6)]) (g := gName 6) rfl nd__law_dead (pi_list (pe_ix (ix_K (Room.u64 hr)) (pv 0) (pv 5) (fun _ _ => rfl))) (blkOk_by (by kernel_rfl)) (fun _ _ _ _ _ => pg_name (i := 6) nd__law_dead rfl (by first | exact Or.inl rfl | exact Or.inr rfl)) (fun _ _ _ _ _ => pts_one (pt_cmpR (op_inK (Room.u64 hr)) (pv 6) (pv 1) (by rfl))) (fun _ _ _ _ _ => (pv 6))) (pe_lst pa_nil) (nomark _))) (fun _ _ _ _ _ => (pv 5))))
  (pss_cons (ps_for PassesOwn.never rfl (pi_list (pv 4)) (pg_name (i := 5) nd__law_dead rfl (by first | exact Or.inl rfl | exact Or.inr rfl)) (pss_cons (ps_expr (pe_bmK PySem.F.slot_dict_pop PySem.F.type_dict_pop (mt_popK (Room.u64 hr)) (pv 1) (pa_cons (pv 5) pa_nil)))
  pss_nil))
  (pss_cons (ps_set (i := 2) nd__law_dead rfl (by first | exact Or.inl rfl | exact Or.inr rfl) (pe_op op_cat (pv 2) (pe_callB (cr_sortT (Room.u64 hr)) (by rfl) T.n_sorted bt_sorted (pa_cons (pv 4) pa_nil))))
  (pss_cons (ps_set (i := 3) nd__law_dead rfl (by first | exact Or.inl rfl | exact Or.inr rfl) (pe_cmpR (op_neD hr.units) (pv 4) (pe_lst pa_nil) (nomark _)))
  pss_nil)))))
  (pss_cons (ps_ret (pv 2))
  pss_nil)))))
theorem c__law_dead (T : Top K mg) : C8.Cal P w K mg base 1 "_law_dead" (sp__law_dead P w) [] := by
  refine cal_of T.f__law_dead sc__law_dead (t__law_dead P w K) (fun zs z h => ?_) (fun f cdv A outer s H E hr => d__law_dead T f cdv A outer s H E hr) (fun dr B E zs z hp hB hR hN => ?_)
  · obtain ⟨_, _, rfl, _⟩ := h; rfl
  obtain ⟨t, s0, rfl, ht, rfl⟩ := hp
  refine w_openW (i := 0) rfl fun pw tsW npw hW => ?_
  have hWnd := hW.nd
  have hWs := hW.s0
  have hWok := hW.ok
  rw [kvs_ks] at hWnd hWs
  have hWok : ∀ x ∈ ks tsW, StandOk t x := fun x hx => hWok x (by rw [kvs_ks]; exact hx)
  have hWd : ∀ e ∈ tsW, e.d = .list ((succ t e.k).map Stand.enc) ∧ ∀ y ∈ succ t e.k, y ∈ ks tsW := fun e he => by
    have := hW.done (e.k, e.d) (List.mem_map.mpr ⟨e, he, rfl⟩)
    rw [kvs_ks] at this
    exact this
  have hclosed : ∀ k ∈ ks tsW, ∀ x ∈ succ t k, x ∈ ks tsW := fun k hk x hx => by
    obtain ⟨e, he, rfl⟩ := List.mem_map.mp hk
    exact (hWd e he).2 x hx
  have hWlen := few_stands ht hWnd hWok
  refine w_dctK (ks := ks tsW) (K := K) ky_stand hB (EvN.ev (EvN.is (en_lcX (P := P) (w := w) (fun _ => true) (fun a => .tuple [a.enc, .bool true]) (ts := tsW) (p := pw) (k := 0) rfl (by simp) ⟨trivial, trivial, trivial, trivial, trivial, trivial, trivial, trivial⟩ (fun e he => et_yes) (fun e he hf => ev_tup (ead_cons (ev_var rfl) (ead_cons ev_bl ead_nil)) (by nested_key))) filt_true)) hWnd (by omega) fun pl ts1 npl hts1 hval mpl frl => ?_
  obtain ⟨hwl, hwfree⟩ := fr_getG (i := 0) frl rfl
  refine w_asgN hB (en_lst ead_nil (by nested_key)) fun pf npf mpf frf => ?_
  refine w_asg hB ev_bl ?_
  have hinv0 : LInv t (ks tsW) (ks ts1) [] := ⟨by rw [List.append_nil, show ks ts1 = ks tsW from hts1]; exact hWnd, fun x => by rw [show ks ts1 = ks tsW from hts1]; simp, fun _ => 0, 0, fun s hs => nomatch hs⟩
  refine w_while (fun m δ' => ∃ (tsL : List (Ent Stand)) (F : List Stand) (b : Bool) (pf : Addr) (c4 c5 : Sd), δ' = [.g pw (kG P w Stand.enc true tsW), .g pl (kG P w Stand.enc true tsL), .l pf (F.map Stand.enc), .d (.bool b), c4, c5, .x] ∧ LInv t (ks tsW) (ks tsL) F ∧ (b = false → (ks tsL).filter (deadB t (ks tsL)) = []) ∧ m = tsL.length + (if b = true then 1 else 0) ∧ pf ≠ pl ∧ okm pl c4 ∧ okm pl c5 ∧ okl pl c4 ∧ okl pl c5) ⟨ts1, [], true, pf, .x, .x, rfl, hinv0, (fun h => nomatch h), rfl, Ne.symm (fr_getG (i := 1) frf rfl).1, trivial, trivial, trivial, trivial⟩ (fun m δ' hI => ?_) hB
  obtain ⟨tsL, F, b, pf, c4, c5, rfl, hinv, hb0, rfl, hpf, k4, k5, l4, l5⟩ := hI
  refine ⟨b, et_B (ev_var rfl), fun hb => ?_, fun hb => ?_⟩
  · subst hb
    have hnd := List.nodup_append.mp hinv.nd
    have hLsub : ∀ x ∈ ks tsL, x ∈ ks tsW := fun x hx => (hinv.all x).mpr (.inl hx)
    have hFsub : ∀ x ∈ F, x ∈ ks tsW := fun x hx => (hinv.all x).mpr (.inr hx)
    have hLlen := few_stands ht hnd.1 fun x hx => hWok x (hLsub x hx)
    have hFlen := few_stands ht hnd.2.1 fun x hx => hWok x (hFsub x hx)
    have hLl : (ks tsL).length = tsL.length := List.length_map ..
    refine w_asgN hB (en_lcX (P := P) (w := w) (deadB t (ks tsL)) Stand.enc (ts := tsL) (p := pl) (k := 1) rfl (by simp) ⟨⟨hwl, trivial⟩, trivial, trivial, trivial, l4, l5, trivial, trivial⟩ (fun e he => ?_) (fun e he hf => ev_var rfl)) fun p4 np4 mp4 fr4 => ?_
    · obtain ⟨e', hg', hm', hk'⟩ := get_mem (hLsub e.k (List.mem_map.mpr ⟨e, he, rfl⟩))
      have hd' := (hWd e' hm').1
      rw [hk'] at hd'
      have hsl := succ_len ht.ok e.k
      refine EvT.is (et_test (ev_op (EvN.ev (en_lcL (succ t e.k) Stand.enc (fun x => decide (x ∈ ks tsL)) Stand.enc (ev_ixK ky_stand (b := true) (ts := tsW) (p := pw) (i := 0) rfl (ev_var rfl) hg' hd') (by omega) (by simp) (fun a ha => EvT.is (et_test (ev_inK ky_stand (b := false) (ts := tsL) (p := pl) (i := 1) rfl (ev_var rfl))) hasE_ks) (fun a ha hf => ev_var rfl))) (EvN.ev (en_lst ead_nil (by nested_key))) (rr_eqNil (shaped_ls _)))) ?_
      rw [isEmpty_filter]; rfl
    generalize hdead : (ks tsL).filter (deadB t (ks tsL)) = dead
    have hdn : dead.Nodup := by rw [← hdead]; exact hnd.1.filter _
    have hds : ∀ x ∈ dead, x ∈ ks tsL := fun x hx => by rw [← hdead] at hx; exact (List.mem_filter.mp hx).1
    have hdl := nodup_len hdn hds
    have h4l : pl ≠ p4 := (fr_getG (i := 1) fr4 rfl).1
    refine w_forS (q := p4) (k := 4) dead Stand.enc (fun i δ' => ∃ (ts : List (Ent Stand)) (c5 : Sd), δ' = [.g pw (kG P w Stand.enc true tsW), .g pl (kG P w Stand.enc true ts), .l pf (F.map Stand.enc), .d (.bool true), .l p4 (dead.map Stand.enc), c5, .x] ∧ ks ts = (ks tsL).filter (fun x => !decide (x ∈ dead.take i)) ∧ okm pl c5 ∧ okl pl c5) hB (fun i δ' h => by obtain ⟨ts, c5, rfl, _⟩ := h; rfl) ⟨tsL, c5, rfl, (List.filter_eq_self.mpr (fun x _ => by simp)).symm, k5, l5⟩ (fun i a δ' ha hI => ?_) (fun δ' hI => ?_)
    · obtain ⟨ts, c5, rfl, hks, k5, l5⟩ := hI
      have hai : a ∉ dead.take i := fun h => by
        obtain ⟨j, hj⟩ := List.getElem?_of_mem h
        rw [List.getElem?_take] at hj
        split at hj
        · rename_i hlt
          have h1 := (List.getElem?_eq_some_iff.mp ha).1
          have h2 := (List.getElem?_eq_some_iff.mp hj).1
          have e : dead[j] = dead[i] := by rw [(List.getElem?_eq_some_iff.mp ha).2, (List.getElem?_eq_some_iff.mp hj).2]
          have := (List.getElem_inj hdn).mp e
          omega
        · cases hj
      have hak : a ∈ ks ts := by
        rw [hks, List.mem_filter]
        exact ⟨hds a (List.mem_of_getElem? ha), by simpa using hai⟩
      refine w_popK ky_stand hB (i := 1) (p := pl) (ts := ts) (a := a) rfl mpl (ev_var rfl) (by rw [hasE_ks]; simpa using hak) ⟨⟨hwl, hwfree⟩, trivial, hpf, trivial, Ne.symm h4l, trivial, trivial, trivial⟩ ?_
      refine w_end ⟨drE ts a, .d a.enc, rfl, ?_, trivial, trivial⟩
      rw [ks_dr, hks, List.filter_filter]
      refine List.filter_congr fun x _ => ?_
      rw [take_succ' ha]
      simp only [List.mem_append, List.mem_singleton]
      by_cases q1 : x ∈ dead.take i <;> by_cases q2 : x = a <;> simp [q1, q2]
    · obtain ⟨ts, c5, rfl, hks, k5, l5⟩ := hI
      rw [List.take_length] at hks
      refine w_asgN hB (en_op (ev_varL rfl) (EvN.ev (en_sortT dead Stand.enc (sortOk_st (by omega)) (ev_varL rfl))) (rn_cat (by simp only [small, List.length_map, List.length_mergeSort]; omega))) fun pf2 npf2 mpf2 frf2 => ?_
      refine w_asg hB (ev_op (ev_varL rfl) (EvN.ev (en_lst ead_nil (by nested_key))) (rr_neNil (shaped_ls _))) ?_
      have hperm : (dead.mergeSort (PySem.W.dataLe false Stand.enc)).Perm dead := List.mergeSort_perm _ _
      have hst := linv_step hinv hclosed (D := dead.mergeSort (PySem.W.dataLe false Stand.enc)) (by rw [hdead]; exact hperm)
      rw [hdead, ← hks] at hst
      have hlen : ts.length + dead.length = tsL.length := by
        have e1 : (ks ts).length = ts.length := List.length_map ..
        have e2 : (ks tsL).length = (ks ts).length + dead.length := by
          rw [hks, ← hdead]
          have e3 : (ks tsL).filter (fun x => !decide (x ∈ (ks tsL).filter (deadB t (ks tsL)))) = (ks tsL).filter (fun x => !deadB t (ks tsL) x) := List.filter_congr fun x hx => by
            cases q : deadB t (ks tsL) x <;> simp [hx, q]
          rw [e3]
          clear e3 hst hks
          generalize deadB t (ks tsL) = f
          generalize ks tsL = l
          induction l with
          | nil => rfl
          | cons x l ih => by_cases q : f x = true <;> simp [q] <;> omega
        omega
      refine w_end ⟨_, ?_, ts, F ++ dead.mergeSort (PySem.W.dataLe false Stand.enc), !(dead.map Stand.enc).isEmpty, pf2, .l p4 (dead.map Stand.enc), c5, ?_, hst, fun hb => ?_, rfl, Ne.symm (fr_getG (i := 1) frf2 rfl).1, Ne.symm h4l, k5, trivial, l5⟩
      · cases dead with
        | nil => simp at hlen ⊢; omega
        | cons _ _ => simp at hlen ⊢; omega
      · simp [Vd.sd]
      · have he : dead = [] := by
          cases dead with
          | nil => rfl
          | cons _ _ => simp at hb
        have : ks ts = ks tsL := by rw [hks, he]; simp
        rw [this, hdead, he]
  · subst hb
    have hd := linv_end hinv hWs hWok (hb0 rfl)
    exact w_ret hB (z := .g (anyL (deadZ t s0))) (fun σ H s j Q q => (ev_varL (i := 2) rfl) σ H s j Q fun v H2 e2 h2 => q v H2 e2 ⟨_, ⟨F, hd, rfl⟩, h2⟩) hR
end
end Ed
end
section
set_option maxHeartbeats 4000000
/-! M1: heights, in plain words. -/
namespace Ed
theorem leB_refl (xs : List Int) : leB xs xs = true := (leB_iff rfl).mpr fun i hi => Int.le_refl _
theorem leB_trans {xs ys zs : List Int} (h1 : xs.length = ys.length) (h2 : ys.length = zs.length) (a : leB xs ys = true) (b : leB ys zs = true) : leB xs zs = true := by
  rw [leB_iff (h1.trans h2)]
  rw [leB_iff h1] at a
  rw [leB_iff h2] at b
  exact fun i hi => Int.le_trans (a i hi) (b i (by omega))
theorem underB_refl (s : Stand) : underB s s = true := by
  simp [underB, leB_refl]
theorem underB_trans {a b c : Stand} (h1 : a.wt.length = b.wt.length) (h2 : b.wt.length = c.wt.length) (x : underB a b = true) (y : underB b c = true) : underB a c = true := by
  simp only [underB, Bool.and_eq_true, decide_eq_true_eq, List.all_eq_true] at x y ⊢
  obtain ⟨⟨x1, x2⟩, x3, x4⟩ := x
  obtain ⟨⟨y1, y2⟩, y3, y4⟩ := y
  exact ⟨⟨x1.trans y1, x2.trans y2⟩, leB_trans h1 h2 x3 y3, fun i hi => x4 i (y4 i hi)⟩
theorem underB_key {a b : Stand} (x : underB a b = true) : a.ph = b.ph ∧ a.bz = b.bz := by
  simp only [underB, Bool.and_eq_true, decide_eq_true_eq] at x
  exact x.1
abbrev Hk : Type := Int × List Int
def hkey (s : Stand) : Hk := (s.ph, s.bz)
/-- rows of heights, by key; every row under its key; together they cover what the told stands cover -/
structure HtOk (t : Task) (told : List Stand) (f : Hk → List Stand) : Prop where
  sub : ∀ k, ∀ o ∈ f k, o ∈ told ∧ hkey o = k
  cov : ∀ o ∈ told, ∃ o' ∈ f (hkey o), underB o o' = true
  len : ∀ k, (f k).length ≤ told.length
/-- the program's covers -/
def covB (f : Hk → List Stand) (s : Stand) : Bool := decide (s ∈ f (hkey s)) || (f (hkey s)).any fun o => underB s o
theorem covB_iff {t : Task} {told : List Stand} {f : Hk → List Stand} (h : HtOk t told f) (hw : ∀ o ∈ told, o.wt.length = t.num.length) {s : Stand} (hs : s.wt.length = t.num.length) : covB f s = told.any fun o => underB s o := by
  rw [Bool.eq_iff_iff]
  simp only [covB, Bool.or_eq_true, decide_eq_true_eq, List.any_eq_true]
  constructor
  · rintro (h1 | ⟨o, h1, h2⟩)
    · exact ⟨s, (h.sub _ _ h1).1, underB_refl s⟩
    · exact ⟨o, (h.sub _ _ h1).1, h2⟩
  · rintro ⟨o, h1, h2⟩
    obtain ⟨o', h3, h4⟩ := h.cov o h1
    obtain ⟨k1, k2⟩ := underB_key h2
    have ek : hkey s = hkey o := by simp [hkey, k1, k2]
    have h5 := (h.sub _ _ h3).1
    exact Or.inr ⟨o', by rw [ek]; exact h3, underB_trans (by rw [hs, hw o h1]) (by rw [hw o h1, hw o' h5]) h2 h4⟩
/-- add -/
def addF (f : Hk → List Stand) (s : Stand) : Hk → List Stand := if covB f s then f else fun k => if k = hkey s then ((f (hkey s)).filter fun o => !underB o s) ++ [s] else f k
theorem addF_ok {t : Task} {told : List Stand} {f : Hk → List Stand} (h : HtOk t told f) (hw : ∀ o ∈ told, o.wt.length = t.num.length) {s : Stand} (hs : s.wt.length = t.num.length) : HtOk t (told ++ [s]) (addF f s) := by
  unfold addF
  split
  · rename_i hc
    rw [covB_iff h hw hs, List.any_eq_true] at hc
    obtain ⟨o, h1, h2⟩ := hc
    obtain ⟨o', h3, h4⟩ := h.cov o h1
    obtain ⟨k1, k2⟩ := underB_key h2
    have ek : hkey s = hkey o := by simp [hkey, k1, k2]
    refine ⟨fun k x hx => ⟨List.mem_append_left _ (h.sub k x hx).1, (h.sub k x hx).2⟩, fun x hx => ?_, fun k => by have := h.len k; rw [List.length_append]; omega⟩
    rcases List.mem_append.mp hx with hx | hx
    · exact h.cov x hx
    · rw [List.mem_singleton.mp hx]
      exact ⟨o', by rw [ek]; exact h3, underB_trans (by rw [hs, hw o h1]) (by rw [hw o h1, hw o' (h.sub _ _ h3).1]) h2 h4⟩
  · refine ⟨fun k x hx => ?_, fun x hx => ?_, fun k => ?_⟩
    · by_cases hk : k = hkey s
      · rw [if_pos hk] at hx
        rcases List.mem_append.mp hx with hx | hx
        · obtain ⟨h1, h2⟩ := h.sub _ x (List.mem_filter.mp hx).1
          exact ⟨List.mem_append_left _ h1, by rw [h2, hk]⟩
        · rw [List.mem_singleton.mp hx]
          exact ⟨List.mem_append_right _ (by simp), hk.symm⟩
      · rw [if_neg hk] at hx
        exact ⟨List.mem_append_left _ (h.sub k x hx).1, (h.sub k x hx).2⟩
    · rcases List.mem_append.mp hx with hx | hx
      · obtain ⟨o', h3, h4⟩ := h.cov x hx
        by_cases hk : hkey x = hkey s
        · rw [if_pos hk]
          rw [hk] at h3
          by_cases hu : underB o' s = true
          · exact ⟨s, List.mem_append_right _ (by simp), underB_trans (by rw [hw x hx, hw o' (h.sub _ _ h3).1]) (by rw [hs, hw o' (h.sub _ _ h3).1]) h4 hu⟩
          · exact ⟨o', List.mem_append_left _ (List.mem_filter.mpr ⟨h3, by simp [hu]⟩), h4⟩
        · rw [if_neg hk]
          exact ⟨o', h3, h4⟩
      · rw [List.mem_singleton.mp hx, if_pos rfl]
        exact ⟨s, List.mem_append_right _ (by simp), underB_refl s⟩
    · show (if k = hkey s then _ else _ : List Stand).length ≤ _
      split
      · have h1 := List.length_filter_le (fun o => !underB o s) (f (hkey s))
        have h2 := h.len (hkey s)
        simp only [List.length_append, List.length_singleton]; omega
      · have := h.len k
        rw [List.length_append]; omega
theorem HtOk.nil (t : Task) : HtOk t [] (fun _ => []) where
  sub := fun k o h => nomatch h
  cov := fun o h => nomatch h
  len := fun k => Nat.le_refl _
end Ed
end
section
set_option maxHeartbeats 4000000
/-! H1: an instance of Heights, its dict; rules for its methods. -/
namespace Ed
open PySem L2
def hKey (k : Hk) : PyData := .tuple [.int k.1, dI k.2]
theorem ky_h : Ky hKey where
  inj := fun a b h => by
    obtain ⟨p, z⟩ := a
    obtain ⟨p', z'⟩ := b
    unfold hKey at h
    simp only [nk, nks] at h
    injection h with h
    injection h with h1 h
    injection h with h2 _
    injection h1 with h1
    rw [h1, nk_dI h2]
  dep := fun a => by
    unfold hKey dI
    simp only [nk, nks, NestedKey.depth, NestedKey.depthAll, dep_ints]
    decide
  tup := fun a => ⟨_, rfl⟩
def hsub (j : Nat) : Stmt := (C8.clsBody (Hd.top 59)).getD j (.Pass ⟨0, 0, 0, 0⟩)
structure MDef (K : PySem.W.Frag) (C : Addr) (m qual : Str) (st : Stmt) (ps : List Str) : Prop where
  ex : ∃ (f : Addr) (fd : FuncData), Meth K C m f ∧ C8.Fun K m qual st f fd ∧ Binds K fd ps []
/-- the class Heights, as the top leaves it -/
structure TopH (K : PySem.W.Frag) (mg : Str → Option Value) (C : Addr) : Prop where
  g : mg "Heights" = some (.ref C)
  cls : Cls K C
  noat : NoAttr K C "rows"
  mkr : ∃ (f : Addr) (fd : FuncData), Mk K C f ∧ C8.Fun K "__init__" "Heights.__init__" (hsub 0) f fd ∧ Binds K fd ["self"] []
  alike : MDef K C "alike" "Heights.alike" (hsub 1) ["self", "stand"]
  covers : MDef K C "covers" "Heights.covers" (hsub 2) ["self", "stand"]
  add : MDef K C "add" "Heights.add" (hsub 3) ["self", "stand"]
/-- the instance at p, its dict at d -/
def hG (P : Program) (w : World) (C d : Addr) (ts : List (Ent Hk)) : Gd where
  ok := fun dr H p => (∃ dx, H p = some (.ins C dx [("rows", .ref d)])) ∧ dr ≠ some d ∧ KOk P w hKey true ts dr H d
  free := fun a => a ≠ d ∧ ∀ e ∈ ts, e.v ≠ .ref a
  lf := fun a => a ≠ d
  ext := fun {dr H H1 p} e j n k => by
    obtain ⟨⟨dx, h⟩, nd, k⟩ := k
    exact ⟨⟨dx, e.rel _ _ n h⟩, nd, (kG P w hKey true ts).ext e j nd k⟩
  chg := fun {dr H p a o} f ne n k => by
    obtain ⟨⟨dx, h⟩, nd, k⟩ := k
    exact ⟨⟨dx, by rw [upd_ne (Ne.symm ne)]; exact h⟩, nd, (kG P w hKey true ts).chg f.2 f.1 n k⟩
  lock := fun {dr H p a o φ} h lf ne k => by
    obtain ⟨⟨dx, h'⟩, nd, k⟩ := k
    exact ⟨⟨dx, by rw [upd_ne (Ne.symm ne)]; exact h'⟩, nd, (kG P w hKey true ts).lock h trivial lf k⟩
  fresh := fun {dr H p a} k h => by
    obtain ⟨⟨dx, h'⟩, nd, k⟩ := k
    obtain ⟨f1, f2⟩ := (kG P w hKey true ts).fresh k h
    exact ⟨(fun z => by rw [z, h'] at h; cases h), f1, f2⟩
structure HRep (n : Nat) (f : Hk → List Stand) (ts : List (Ent Hk)) : Prop where
  get : ∀ k, (∀ e, getE ts k = some e → e.d = .list ((f k).map Stand.enc)) ∧ (getE ts k = none → f k = [])
  len : ts.length ≤ n
  fl : ∀ k, (f k).length ≤ n
theorem HRep.nil : HRep 0 (fun _ => []) [] := ⟨fun k => ⟨(fun e h => by simp [getE] at h), fun _ => rfl⟩, Nat.le_refl _, fun k => Nat.le_refl _⟩
theorem getE_st {ts : List (Ent Hk)} {e : Ent Hk} {k : Hk} : (k = e.k → ∃ e', getE (stE ts e) k = some e' ∧ e'.d = e.d) ∧ (k ≠ e.k → getE (stE ts e) k = getE ts k) := by
  unfold stE
  by_cases h : hasE ts e.k = true
  · rw [if_pos h]
    have hg : ∀ (l : List (Ent Hk)), (k = e.k → hasE l e.k = true → ∃ e', getE (l.map (fun x => if x.k = e.k then { x with v := e.v, d := e.d } else x)) k = some e' ∧ e'.d = e.d) ∧ (k ≠ e.k → getE (l.map (fun x => if x.k = e.k then { x with v := e.v, d := e.d } else x)) k = getE l k) := by
      intro l
      induction l with
      | nil => exact ⟨fun _ z => by simp [hasE] at z, fun _ => rfl⟩
      | cons x l ih =>
        refine ⟨fun hk hh => ?_, fun hk => ?_⟩
        · subst hk
          by_cases hx : x.k = e.k
          · exact ⟨{ x with v := e.v, d := e.d }, by simp [getE, hx], rfl⟩
          · have : hasE l e.k = true := by simpa [hasE, hx] using hh
            obtain ⟨e', h1, h2⟩ := ih.1 rfl this
            refine ⟨e', ?_, h2⟩
            unfold getE at h1 ⊢
            rw [List.map_cons, if_neg hx, List.find?_cons, decide_eq_false hx]
            exact h1
        · have ih := ih.2 hk
          unfold getE at ih ⊢
          rw [List.map_cons, List.find?_cons, List.find?_cons, ih]
          by_cases hx : x.k = e.k
          · have hxk : ¬ x.k = k := fun z => hk (z.symm.trans hx)
            rw [if_pos hx]
            simp [hxk]
          · rw [if_neg hx]
    exact ⟨fun hk => (hg ts).1 hk h, (hg ts).2⟩
  · rw [if_neg h]
    refine ⟨fun hk => ?_, fun hk => ?_⟩
    · subst hk
      have hn : getE ts e.k = none := by
        rw [hasE_get] at h
        cases q : getE ts e.k with
        | none => rfl
        | some x => rw [q] at h; exact absurd rfl h
      refine ⟨e, ?_, rfl⟩
      unfold getE at hn ⊢
      rw [List.find?_append, hn]
      simp
    · unfold getE
      rw [List.find?_append]
      have : ¬ e.k = k := fun z => hk z.symm
      simp [this]
theorem HRep.set {n : Nat} {f : Hk → List Stand} {ts : List (Ent Hk)} (h : HRep n f ts) {k0 : Hk} {l : List Stand} (hl : l.length ≤ n + 1) (a : Addr) (v : V) : HRep (n + 1) (fun k => if k = k0 then l else f k) (stE ts ⟨k0, a, v, .list (l.map Stand.enc)⟩) := by
  refine ⟨fun k => ?_, ?_, fun k => ?_⟩
  · obtain ⟨g1, g2⟩ := getE_st (ts := ts) (e := ⟨k0, a, v, .list (l.map Stand.enc)⟩) (k := k)
    by_cases hk : k = k0
    · obtain ⟨e', h1, h2⟩ := g1 hk
      refine ⟨fun e he => ?_, fun he => ?_⟩
      · rw [h1] at he
        cases he
        simp only [if_pos hk]; exact h2
      · rw [h1] at he; cases he
    · rw [g2 hk]
      simp only [if_neg hk]
      exact h.get k
  · have := stE_len ts ⟨k0, a, v, .list (l.map Stand.enc)⟩
    have := h.len
    omega
  · show (if k = k0 then l else f k).length ≤ n + 1
    split
    · exact hl
    · have := h.fl k; omega
theorem HRep.mono {n m : Nat} {f : Hk → List Stand} {ts : List (Ent Hk)} (h : HRep n f ts) (hm : n ≤ m) : HRep m f ts := ⟨h.get, Nat.le_trans h.len hm, fun k => Nat.le_trans (h.fl k) hm⟩
def hV (P : Program) (w : World) (C : Addr) (f : Hk → List Stand) (n : Nat) : Gv where
  ok := fun dr H v => ∃ a d ts, v = .ref a ∧ dr ≠ some a ∧ (hG P w C d ts).ok dr H a ∧ HRep n f ts
  ext := fun e j h => let ⟨a, d, ts, h1, h2, h3, h4⟩ := h; ⟨a, d, ts, h1, h2, (hG P w C d ts).ext e j h2 h3, h4⟩
  st := false
  chg := fun h => nomatch h
section
variable {P : Program} {w : World} {K : PySem.W.Frag} {mg : Str → Option Value} {base : Heap} {C : Addr} {dr : Option Addr} {δ : List Sd} {ta : TA} {te td tk to : TE} {B : Hp → Prop} {E : Ends} {tz : TS} {f : Hk → List Stand} {n i : Nat} {k : Hk} {z : Vd} {zs : List Vd} {ts : List (Ent Hk)} {a d : Addr}
theorem ev_varH (hi : δ[i]? = some (.g a (hG P w C d ts))) (hr : HRep n f ts) : Ev dr (tVar i) δ (.g (hV P w C f n)) := fun σ H s j Q q => by
  obtain ⟨g1, nn, g2⟩ := slot_g s hi
  exact ⟨_, g1, q _ H (Ext.refl j) ⟨a, d, ts, rfl, nn, g2, hr⟩⟩
theorem ev_getH (U : TopH K mg C) (hi : δ[i]? = some (.v (.g (hV P w C f n)))) (hk : Ev dr tk δ (.d (hKey k))) (hd : Ev dr td δ (.l [])) : Ev dr (tBMK P w (rGetK P w) (tFld K (tVar i) "rows") (tCons tk (tCons td tNil))) δ (.l ((f k).map Stand.enc)) := fun σ H s j Q q => by
  obtain ⟨o, e1, v, e2, a, d, ts, rfl, na, ⟨⟨dx, ha⟩, nd, hkk⟩, hr⟩ := s i _ hi
  subst e2
  obtain ⟨xs0, D0, _⟩ := KOk.dh ky_h hkk
  refine ⟨_, e1, a, C, dx, _, .ref d, rfl, ha, U.cls, U.noat, rfl, ⟨d, xs0, rfl, D0⟩, ?_⟩
  refine (ea_cons hk (ea_cons hd ea_nil)) σ H s j _ fun vs H1 e g => ?_
  obtain ⟨v1, v2, rfl, g1, g2⟩ := oks2 g
  have K1 : KOk P w hKey true ts dr H1 d := (kG P w hKey true ts).ext e j nd hkk
  obtain ⟨xs, D, _, r⟩ := KOk.dh ky_h K1
  refine ⟨d, nk (hKey k), xs, v1, v2, rfl, rfl, nkv ky_h g1, D, ?_⟩
  cases he : getE ts k with
  | some e' =>
    obtain ⟨u, hu, ru⟩ := (find_rel ky_h k r).1 e' he
    refine .inl ⟨_, e'.v, hu, ru, q _ H1 e ?_⟩
    have := (K1.ent e' (List.mem_of_find?_eq_some he)).val
    rw [(hr.get k).1 e' he] at this
    exact this
  | none =>
    refine .inr ⟨(find_rel ky_h k r).2 he, q _ H1 e ?_⟩
    rw [(hr.get k).2 he]; exact g2
theorem ev_meth {q : List Vd → Vd → Prop} {m : Str} (hm : (m == ("rows" : Str)) = false) (ho : Ev dr to δ (.g (hV P w C f n))) (ha : EvA dr ta δ zs) (hq : q (.g (hV P w C f n) :: zs) z) : Ev dr (tMeth C m (spP q) [] C8.E0 to ta) δ z := fun σ H s j Q qq => ho σ H s j _ fun v H1 e1 h1 => by
  obtain ⟨a, d, ts, rfl, na, ⟨⟨dx, ha'⟩, nd, hk⟩, hr⟩ := id h1
  refine ⟨a, dx, _, rfl, ha', by simp [List.lookup, hm], ?_⟩
  refine ha σ H1 (s.ext e1 j) e1.jd _ fun vs H2 e2 g2 => ?_
  show spP q (.ref a :: (vs ++ [])) H2 Q C8.E0
  rw [List.append_nil]
  exact ⟨dr, _ :: zs, z, ⟨Vd.ext e2 e1.jd h1, g2⟩, e2.jd, hq, fun v H' e3 g3 => qq v H' ((e1.trans e2).trans e3) g3⟩
theorem Sl.chg2 {H : Hp} {σ : L2.St} {gd gd' : Gd} {o : HO} (h : Sl dr H σ δ) (hi : δ[i]? = some (.g a gd)) (nn : ∀ xs, H d ≠ some (.tup xs)) (nf : ∀ o' u, H d ≠ some (.frz o' u)) (hk : mutAll d (δ.set i .x)) (ok : gd'.ok dr (upd H d o) a) : Sl dr (upd H d o) σ (δ.set i (.g a gd')) := fun k s q => by
  have t : Tx H (upd H d o) := Tx.upd nn
  rcases set_get q with ⟨e1, e2, hl⟩ | ⟨hki, q⟩
  · subst e1 e2
    obtain ⟨o', e1, e2, n', _⟩ := h k _ hi
    exact ⟨o', e1, e2, n', ok⟩
  · obtain ⟨o', e1, h1⟩ := h k s q
    have ok : okm d s := mutAll_get hk (i := k) (by rw [List.getElem?_set_ne (Ne.symm hki)]; exact q)
    refine ⟨o', e1, ?_⟩
    cases s with
    | x => trivial
    | d e => obtain ⟨v, e2, h2⟩ := h1; exact ⟨v, e2, h2.tx t⟩
    | l q' es' => obtain ⟨e2, n, xs', h2, h3⟩ := h1; exact ⟨e2, n, xs', by rw [upd_ne ok]; exact h2, h3.tx t⟩
    | r q' => exact h1
    | v z =>
      cases z with
      | d e => obtain ⟨v, e2, h2⟩ := h1; exact ⟨v, e2, DT.tx t h2⟩
      | l _ => exact ok.elim
      | ll _ => exact ok.elim
      | g gv => obtain ⟨v, e2, h2⟩ := h1; exact ⟨v, e2, gv.chg ok nn nf h2⟩
    | g q' g => obtain ⟨e2, n', h2⟩ := h1; exact ⟨e2, n', g.chg ok.2 (Ne.symm ok.1) nn h2⟩
/-- self.rows[k] = a new list -/
theorem w_setKH {ds : List PyData} (U : TopH K mg C) (hB : BOk dr B) (hi : δ[i]? = some (.g a (hG P w C d ts))) (hm : Mu B d) (h : EvN dr te δ ds) (hx : Ev dr tk δ (.d (hKey k))) (hl : ts.length < 900000) (hk : mutAll d (δ.set i .x))
    (kk : ∀ ka q, W dr B E tz (δ.set i (.g a (hG P w C d (stE ts ⟨k, ka, .ref q, .list ds⟩))))) : W dr B E (tSeq (tAsg te (gSub (tFld K (tVar i) "rows") tk (rSetK P w))) tz) δ := fun σ H s j bb =>
  h σ H s j _ fun q qs H1 hq e1 g1 g2 => by
    have s1 := s.ext e1 j
    obtain ⟨f1, na, ⟨dx, ha⟩, nd, f2⟩ := slot_g s1 hi
    refine ⟨_, f1, a, C, dx, _, .ref d, rfl, ha, U.cls, U.noat, rfl, ?_⟩
    refine hx σ H1 s1 e1.jd _ fun u H2 e2 h2 => ?_
    have f3 : KOk P w hKey true ts dr H2 d := (kG P w hKey true ts).ext e2 e1.jd nd f2
    obtain ⟨xs, D, hp, r⟩ := KOk.dh ky_h f3
    have hp := hp rfl
    have nn : ∀ xs, H2 d ≠ some (.tup xs) := fun xs z => by rw [hp] at z; cases z
    have nf : ∀ o' u, H2 d ≠ some (.frz o' u) := fun o' u z => by rw [hp] at z; cases z
    have nq := j.ne hq
    have ha2 := e2.rel _ _ na ha
    have nad : a ≠ d := fun z => by rw [z, hp] at ha2; cases ha2
    obtain ⟨ka, ee, rfl, h3, h4, h5⟩ := nkv ky_h h2
    refine ⟨d, nk (hKey k), ka, xs, rfl, rfl, ⟨ka, ee, rfl, h3, h4, h5⟩, D, hp, ?_, fun uu ru => ?_⟩
    · rw [← rel_len r]; exact small.lt (by omega)
    have ok := st_ok ky_h f3 hp r hl (e := ⟨k, ka, .ref q, .list ds⟩) ⟨h2, (⟨q, qs, rfl, nq, e2.rel _ _ nq g1, g2.tx (e2.tx e1.jd)⟩ : IsL dr H2 (.ref q) ds)⟩ ru
    exact kk ka q σ _ (Sl.chg2 (gd' := hG P w C d (stE ts ⟨k, ka, .ref q, .list ds⟩)) (s1.ext e2 e1.jd) hi nn nf hk ⟨⟨dx, by rw [upd_ne nad]; exact ha2⟩, nd, ok⟩) (e2.jd.upd nd) (hm H2 _ nn (hB.ext bb j (e1.trans e2)))
/-! ### what the methods promise -/
def sp_H_init (P : Program) (w : World) (C : Addr) : Sp := fun vs H Q _ => ∃ a dx, vs = [.ref a] ∧ H a = some (.ins C dx []) ∧ ∀ d, H d = none → (d == sysModules) = false → Q .non (upd (upd H d (.ext (RawD P w d []))) a (.ins C dx [("rows", .ref d)]))
def q_H_alike (P : Program) (w : World) (C : Addr) : List Vd → Vd → Prop := fun x z => ∃ (f : Hk → List Stand) (n : Nat) (s : Stand), x = [.g (hV P w C f n), .d s.enc] ∧ z = .l ((f (hkey s)).map Stand.enc)
abbrev sp_H_alike (P : Program) (w : World) (C : Addr) : Sp := spP (q_H_alike P w C)
structure CvOk (f : Hk → List Stand) (n : Nat) (s : Stand) : Prop where
  n : n ≤ 400000
  wl : s.wt.length ≤ 1000
  ls : s.ls.length ≤ 1000
  all : ∀ o ∈ f (hkey s), o.wt.length = s.wt.length ∧ o.ls.length ≤ 1000
def q_H_covers (P : Program) (w : World) (C : Addr) : List Vd → Vd → Prop := fun x z => ∃ (f : Hk → List Stand) (n : Nat) (s : Stand), x = [.g (hV P w C f n), .d s.enc] ∧ CvOk f n s ∧ z = .d (.bool (covB f s))
abbrev sp_H_covers (P : Program) (w : World) (C : Addr) : Sp := spP (q_H_covers P w C)
def sp_H_add (P : Program) (w : World) (C : Addr) : Sp := fun vs H Q _ => ∃ (dr : Option Addr) (a d : Addr) (v : V) (ts : List (Ent Hk)) (n : Nat) (f : Hk → List Stand) (s : Stand) (B : Hp → Prop), vs = [.ref a, v] ∧ DT H v s.enc ∧ Jd dr H ∧ dr ≠ some a ∧ (hG P w C d ts).ok dr H a ∧ HRep n f ts ∧ CvOk f n s ∧ BOk dr B ∧ Mu B d ∧ B H ∧
  ∀ H' ts', B H' → Jd dr H' → Tx H H' → (hG P w C d ts').ok dr H' a → HRep (n + 1) (addF f s) ts' → Q .non H'
theorem e_H_alike {s : Stand} (ho : Ev dr to δ (.g (hV P w C f n))) (h : EvA dr ta δ [.d s.enc]) : Ev dr (tMeth C "alike" (sp_H_alike P w C) [] C8.E0 to ta) δ (.l ((f (hkey s)).map Stand.enc)) := ev_meth (by decide +kernel) ho h ⟨f, n, s, rfl, rfl⟩
theorem e_H_covers {s : Stand} (ho : Ev dr to δ (.g (hV P w C f n))) (h : EvA dr ta δ [.d s.enc]) (hc : CvOk f n s) : Ev dr (tMeth C "covers" (sp_H_covers P w C) [] C8.E0 to ta) δ (.d (.bool (covB f s))) := ev_meth (by decide +kernel) ho h ⟨f, n, s, rfl, hc, rfl⟩
/-- only data in the slots -/
def okd : Sd → Prop
  | .x => True
  | .d _ => True
  | _ => False
def onlyD : List Sd → Prop
  | [] => True
  | s :: r => okd s ∧ onlyD r
theorem onlyD_get : ∀ {δ : List Sd} {i : Nat} {s : Sd}, onlyD δ → δ[i]? = some s → okd s
  | [], _, _, _, e => by simp at e
  | _ :: _, 0, _, h, e => by simp at e; subst e; exact h.1
  | _ :: _, i + 1, s, h, e => onlyD_get (i := i) h.2 (by simpa using e)
/-- heights.add(one) -/
theorem w_addH {s : Stand} (hB : BOk dr B) (hi : δ[i]? = some (.g a (hG P w C d ts))) (hm : Mu B d) (hr : HRep n f ts) (hx : Ev dr tk δ (.d s.enc)) (hc : CvOk f n s) (hk : onlyD (δ.set i .x))
    (kk : ∀ ts', HRep (n + 1) (addF f s) ts' → W dr B E tz (δ.set i (.g a (hG P w C d ts')))) : W dr B E (tSeq (tDrop (tMeth C "add" (sp_H_add P w C) [] C8.E0 (tVar i) (tCons tk tNil))) tz) δ := fun σ H sl j bb => by
  obtain ⟨f1, na, f2⟩ := slot_g sl hi
  obtain ⟨dx, ha⟩ := id f2.1
  have hm' : (("add" : Str) == ("rows" : Str)) = false := by decide +kernel
  refine ⟨_, f1, a, dx, _, rfl, ha, by simp [List.lookup, hm'], ?_⟩
  refine (ea_cons hx ea_nil) σ H sl j _ fun vs H1 e g => ?_
  obtain ⟨v, rfl, g1⟩ := oks1 g
  have s1 := sl.ext e j
  obtain ⟨_, _, f3⟩ := slot_g s1 hi
  refine ⟨dr, a, d, v, ts, n, f, s, B, rfl, g1, e.jd, na, f3, hr, hc, hB, hm, hB.ext bb j e, fun H' ts' b' j' t' ok' hr' => ?_⟩
  refine kk ts' hr' σ H' (fun l u q => ?_) j' b'
  rcases set_get q with ⟨e1, e2, hl⟩ | ⟨hki, q⟩
  · subst e1 e2
    exact ⟨_, f1, rfl, na, ok'⟩
  · obtain ⟨o', e1, h1⟩ := s1 l u q
    have ok := onlyD_get hk (i := l) (by rw [List.getElem?_set_ne (Ne.symm hki)]; exact q)
    refine ⟨o', e1, ?_⟩
    cases u with
    | x => trivial
    | d e => obtain ⟨v, e2, h2⟩ := h1; exact ⟨v, e2, h2.tx t'⟩
    | l _ _ => exact ok.elim
    | r _ => exact ok.elim
    | v _ => exact ok.elim
    | g _ _ => exact ok.elim
/-- heights = Heights() -/
theorem w_makeH (hB : BOk dr B) (kk : ∀ a d, dr ≠ some a → Mu B d → Fr a δ → Fr d δ → W dr B E tz (δ.set i (.g a (hG P w C d [])))) : W dr B E (tSeq (tAsg (tMake C (sp_H_init P w C) [] C8.E0 tNil) (gName i)) tz) δ := fun σ H s j bb a dx ha hdx ne => by
  generalize hH1 : upd (upd H dx (.own a)) a (.ins C dx []) = H1
  have e0 : Ext dr H (upd H dx (.own a)) := Ext.new j hdx
  have ha0 : (upd H dx (HO.own a)) a = none := by rw [upd_ne (Ne.symm ne)]; exact ha
  have e1 : Ext dr H H1 := hH1 ▸ e0.trans (Ext.new e0.jd ha0)
  have h1 : H1 a = some (.ins C dx []) := by rw [← hH1]; exact upd_same
  refine ⟨a, dx, rfl, h1, fun d hd hs => ⟨rfl, ?_⟩⟩
  have hd0 : H d = none := e1.back j hd
  have nda : a ≠ d := fun z => by rw [z, hd] at h1; cases h1
  have na := j.ne ha
  have nd := j.ne hd0
  have e2 : Ext dr H (upd (upd H1 d (.ext (RawD P w d []))) a (.ins C dx [("rows", .ref d)])) := by
    have e2 := e1.trans (Ext.new (o := .ext (RawD P w d [])) e1.jd hd)
    exact ⟨e2.rel.mut ha, e2.jd.upd na⟩
  refine kk a d na (fun H' o n b' => hB.mu bb j hd0 H' o n b') (fr_of ha s) (fr_of hd0 s) _ _ ((s.ext e2 j).set ⟨rfl, na, ⟨dx, upd_same⟩, nd, ?_⟩) e2.jd (hB.ext bb j e2)
  exact ⟨Nat.zero_le _, hs, ⟨[], ⟨.inl (by rw [upd_ne (Ne.symm nda)]; exact upd_same), fun _ => by rw [upd_ne (Ne.symm nda)]; exact upd_same⟩, .nil⟩, fun e he => nomatch he⟩
/-- a method by its body -/
theorem met_of {m qual : Str} {st : Stmt} {N ps : List Str} {k : Nat} {pre : List Vd → Vd → Prop} (c : Cls K C) (F : MDef K C m qual st ps) (S : C8.scC N ps (C8.fnScope st) = true) (t : TS) (hl : ∀ zs z, pre zs z → zs.length = ps.length)
    (hd : ∀ (f : Addr) (cdv : Value) (A : Around) (outer : List Env) (s : Shared) (H : Hp) (E : XK), Room k (A.deeper (PyProof.Rows.envOfC qual (C8.fnScope st) s.heap.objs.size f cdv)) → PSs (cxOf C8.CX0 P w K mg base N qual (C8.fnScope st) f cdv A outer s H E).nox (C8.fnBody st) t)
    (hr : ∀ (dr : Option Addr) (B : Hp → Prop) (E : Ends) (zs : List Vd) (z : Vd), pre zs z → BOk dr B → (∀ v H', B H' → Jd dr H' → z.ok dr H' v → E.rt v H') → (z = .d .none → ∀ σ H', B H' → Jd dr H' → E.nx σ H') → W dr B E t (startD N.length zs)) : C8.Met P w K mg base (k + 1) C m (spP pre) [] := by
  obtain ⟨f, fd, M, D, b⟩ := F.ex
  refine C8.met0 c M D b (C8.fnScope_by S) (fun vs H Q E h => ?_) (fun cdv A outer s H vs Q E hroom h => ?_)
  · obtain ⟨dr, zs, z, g, _, hp, _⟩ := h
    rw [g.len]
    exact hl zs z hp
  · obtain ⟨dr, zs, z, g, j, hp, q⟩ := h
    refine ⟨t, hd f cdv A outer s H E hroom, ?_⟩
    exact hr dr (Rel dr H) _ zs z hp bok_rel (fun v H' b' j' hv => q v H' ⟨b', j'⟩ hv) (fun e σ H' b' j' => q _ H' ⟨b', j'⟩ (by rw [e]; exact .non)) _ H (start_ok g) j (Rel.refl H)
end
section
variable {X : Cx} {k j : Nat} {C : Addr} {x : Str} {sp : Sp} {dvs : List V} {p pos : Pos}
theorem pe_mk0 (c : C8.Mak X.prog X.w X.K X.mg X.base k x C sp dvs) (hr : Room j X.A) (hk : k + 1 ≤ j) (hg : Gl X x) (hdb : (x == ("__debug__" : Str)) = false := by decide) : PE X (.Call (.Name x p) [] [] pos) (tMake C sp dvs C8.E0 tNil) := by
  obtain ⟨f, fd, ps, ds, M, F, hm, b, d⟩ := c.ex
  exact pe_make0 M F (hr.mono hk) hg hm b d C8.pass0 hdb
end
end Ed
end
section
set_option maxHeartbeats 4000000
namespace Ed
open PySem L2
local macro_rules | `(tactic| nested_key) => `(tactic| first
  | rfl
  | assumption
  | omega
  | exact Nat.le_of_ble_eq_true rfl
  | decide
  | (simp only [List.length_map, small]; omega)
  | (simp [small]; done)
  | (simp only [Vd.sd, setAll, List.set, mutAll, okm, Fr] at *; simp_all; done))

section
variable {P : Program} {w : World} {K : PySem.W.Frag} {mg : Str → Option Value} {base : Heap} {dr : Option Addr} {δ : List Sd} {ta : TA} {te : TE}
/-! _law_holds -/
def holdsL (t : Task) (s : Stand) : Ans → Bool
  | .on l r => onLw t s l r
  | .count d p => countLw t d p
  | .walk st => walkHL t s st
/-- answers as the law makes them -/
def AnsL (t : Task) : Ans → Prop
  | .on l r => l.length ≤ 1000 ∧ 1 ≤ r.length ∧ r.length ≤ 1000 ∧ (∀ d ∈ l, d.length ≤ 2) ∧ ∀ d ∈ r, d.length ≤ 2
  | .count d p => countP t d p ∧ d ≤ 400
  | .walk st => walkP t st
def q__law_holds : List Vd → Vd → Prop := fun a z => ∃ (t : Task) (s : Stand) (x : Ans), a = [.d t.enc, .d s.enc, .d x.enc] ∧ TaskOk t ∧ SW t s ∧ AnsL t x ∧ z = .d (.bool (holdsL t s x))
abbrev sp__law_holds : Sp := spP q__law_holds
theorem e__law_holds {ta : TA} {t : Task} {s : Stand} {x : Ans} (h : EvA dr ta δ [.d t.enc, .d s.enc, .d x.enc]) (ht : TaskOk t) (hs : SW t s) (hx : AnsL t x) : Ev dr (tCall sp__law_holds [] C8.E0 ta) δ (.d (.bool (holdsL t s x))) := ev_call h ⟨_, _, _, rfl, ht, hs, hx, rfl⟩
abbrev s__law_holds : Stmt := Hd.top 83
abbrev N__law_holds : List Str := ["_law_task_here", "_law_stand", "_law_told"]
theorem nd__law_holds : N__law_holds.Nodup := by decide +kernel
theorem sc__law_holds : C8.scC N__law_holds ["_law_task_here", "_law_stand", "_law_told"] (C8.fnScope s__law_holds) = true := by decide +kernel
def t__law_holds (K : PySem.W.Frag) : TS :=
  (tSeq (tIfS (tTest (tOp rEq (tOp (rIxT K) (tVar 2) (tC (.int 0))) (tC (.str "on")))) (tSeq (tRet (tCall sp__law_on_holds [] C8.E0 (tCons (tVar 0) (tCons (tVar 1) (tCons (tOp (rIxT K) (tVar 2) (tC (.int 1))) (tCons (tOp (rIxT K) (tVar 2) (tC (.int 2))) tNil))))))
  tNext) tNext)
  (tSeq (tIfS (tTest (tOp rEq (tOp (rIxT K) (tVar 2) (tC (.int 0))) (tC (.str "count")))) (tSeq (tRet (tCall sp__law_count_holds [] C8.E0 (tCons (tVar 0) (tCons (tOp (rIxT K) (tVar 2) (tC (.int 1))) (tCons (tOp (rIxT K) (tVar 2) (tC (.int 2))) tNil)))))
  tNext) tNext)
  (tSeq (tRet (tCall sp__law_walk_holds [] C8.E0 (tCons (tVar 0) (tCons (tVar 1) (tCons (tOp (rIxT K) (tVar 2) (tC (.int 1))) tNil)))))
  tNext)))
theorem d__law_holds {P : Program} {w : World} {K : PySem.W.Frag} {mg : Str → Option Value} {base : Heap} (T : Top K mg) (f : Addr) (cdv : Value) (A : Around) (outer : List Env) (s : Shared) (H : Hp) (E : XK)
    (hr : Room 4 (A.deeper (PyProof.Rows.envOfC "_law_holds" (C8.fnScope s__law_holds) s.heap.objs.size f cdv))) :
    PSs (cxOf C8.CX0 P w K mg base N__law_holds "_law_holds" (C8.fnScope s__law_holds) f cdv A outer s H E).nox (C8.fnBody s__law_holds) (t__law_holds K) :=
  (pss_cons (ps_if (pt_cmpR op_eq (pe_ix ix_tup (pv 2) pe_int (fun _ _ => rfl)) pe_str (nomark _)) (pss_cons (ps_ret (C8.pe_c (c__law_on_holds T) hr (by decide) rfl (pa_cons (pv 0) (pa_cons (pv 1) (pa_cons (pe_ix ix_tup (pv 2) pe_int (fun _ _ => rfl)) (pa_cons (pe_ix ix_tup (pv 2) pe_int (fun _ _ => rfl)) pa_nil))))))
  pss_nil) pss_nil)
  (pss_cons (ps_if (pt_cmpR op_eq (pe_ix ix_tup (pv 2) pe_int (fun _ _ => rfl)) pe_str (nomark _)) (pss_cons (ps_ret (C8.pe_c (c__law_count_holds T) hr (by decide) rfl (pa_cons (pv 0) (pa_cons (pe_ix ix_tup (pv 2) pe_int (fun _ _ => rfl)) (pa_cons (pe_ix ix_tup (pv 2) pe_int (fun _ _ => rfl)) pa_nil)))))
  pss_nil) pss_nil)
  (pss_cons (ps_ret (C8.pe_c (c__law_walk_holds T) hr (by decide) rfl (pa_cons (pv 0) (pa_cons (pv 1) (pa_cons (pe_ix ix_tup (pv 2) pe_int (fun _ _ => rfl)) pa_nil)))))
  pss_nil)))
theorem c__law_holds (T : Top K mg) : C8.Cal P w K mg base 5 "_law_holds" sp__law_holds [] := by
  refine cal_of T.f__law_holds sc__law_holds (t__law_holds K) (fun zs z h => ?_) (fun f cdv A outer s H E hr => d__law_holds T f cdv A outer s H E hr) (fun dr B E zs z hp hB hR hN => ?_)
  · obtain ⟨_, _, _, rfl, _⟩ := h; rfl
  obtain ⟨t, s, x, rfl, ht, hs, hx, rfl⟩ := hp
  obtain ⟨s1, s2, s3, s4, s5, s6⟩ := s_oc
  cases x with
  | on lead ring =>
    obtain ⟨h1, _, h2, h3, h4⟩ := hx
    refine w_if hB (et_test (ev_op (ev_op (ev_var (d := (Ans.on lead ring).enc) rfl) ev_int (rr_ixT at0)) ev_str rr_eqS)) (fun hb => ?_) (fun hb => ?_)
    · exact w_ret hB (e__law_on_holds (ea_cons (ev_var rfl) (ea_cons (ev_var rfl) (ea_cons (ev_op (ev_var (d := (Ans.on lead ring).enc) rfl) ev_int (rr_ixT at1)) (ea_cons (ev_op (ev_var (d := (Ans.on lead ring).enc) rfl) ev_int (rr_ixT at2)) ea_nil)))) ht hs (by omega) (by omega) (fun d hd => by have := h3 d hd; omega) (fun d hd => by have := h4 d hd; omega)) hR
    · rw [s1] at hb; simp at hb
  | count d p =>
    obtain ⟨h1, h2⟩ := hx
    refine w_if hB (et_test (ev_op (ev_op (ev_var (d := (Ans.count d p).enc) rfl) ev_int (rr_ixT at0)) ev_str rr_eqS)) (fun hb => ?_) (fun hb => w_nx ?_)
    · rw [s2] at hb; simp at hb
    refine w_if hB (et_test (ev_op (ev_op (ev_var (d := (Ans.count d p).enc) rfl) ev_int (rr_ixT at0)) ev_str rr_eqS)) (fun hb => ?_) (fun hb => ?_)
    · exact w_ret hB (e__law_count_holds (ea_cons (ev_var rfl) (ea_cons (ev_op (ev_var (d := (Ans.count d p).enc) rfl) ev_int (rr_ixT at1)) (ea_cons (ev_op (ev_var (d := (Ans.count d p).enc) rfl) ev_int (rr_ixT at2)) ea_nil))) ht h1 (by omega)) hR
    · rw [s4] at hb; simp at hb
  | walk st =>
    obtain ⟨h1, h2, h3⟩ := hx
    refine w_if hB (et_test (ev_op (ev_op (ev_var (d := (Ans.walk st).enc) rfl) ev_int (rr_ixT at0)) ev_str rr_eqS)) (fun hb => ?_) (fun hb => w_nx ?_)
    · rw [s3] at hb; simp at hb
    refine w_if hB (et_test (ev_op (ev_op (ev_var (d := (Ans.walk st).enc) rfl) ev_int (rr_ixT at0)) ev_str rr_eqS)) (fun hb => ?_) (fun hb => w_nx ?_)
    · rw [s5] at hb; simp at hb
    exact w_ret hB (e__law_walk_holds (ea_cons (ev_var rfl) (ea_cons (ev_var rfl) (ea_cons (ev_op (ev_var (d := (Ans.walk st).enc) rfl) ev_int (rr_ixT at1)) ea_nil))) ht hs (fun x hx => (h3 x hx).sw ht) (by omega)) hR
/-! _law_drawn_days -/
def drawnZ : PyData → Prop := fun e => ∃ ds : List (List Int), e = dII ds ∧ 1 ≤ ds.length ∧ ds.length ≤ 20 ∧ ∀ d ∈ ds, d.length ≤ 2
def q__law_drawn_days : List Vd → Vd → Prop := fun a z => ∃ (t : Task) (s : Stand), a = [.g drV, .d t.enc, .d s.enc] ∧ TaskOk t ∧ SW t s ∧ z = .g (anyV drawnZ)
abbrev sp__law_drawn_days : Sp := spP q__law_drawn_days
theorem e__law_drawn_days {ta : TA} {t : Task} {s : Stand} (h : EvA dr ta δ [.g drV, .d t.enc, .d s.enc]) (ht : TaskOk t) (hs : SW t s) : Ev dr (tCall sp__law_drawn_days [] C8.E0 ta) δ (.g (anyV drawnZ)) := ev_call h ⟨_, _, rfl, ht, hs, rfl⟩
abbrev s__law_drawn_days : Stmt := Hd.top 85
abbrev N__law_drawn_days : List Str := ["_law_draws_here", "_law_task_here", "_law_stand", "_law_found", "_law_turn", "_law_draw", "_law_later", "_law_day"]
theorem nd__law_drawn_days : N__law_drawn_days.Nodup := by decide +kernel
theorem sc__law_drawn_days : C8.scC N__law_drawn_days ["_law_draws_here", "_law_task_here", "_law_stand"] (C8.fnScope s__law_drawn_days) = true := by decide +kernel
def t__law_drawn_days (K : PySem.W.Frag) : TS :=
  (tSeq (tAsg (tLst tNil) (gName 3))
  (tSeq (tFor (iRng1 (tCons (tOp oAdd (tC (.int 1)) (tOp oMod (tCall sp__law_next [] C8.E0 (tCons (tVar 0) tNil)) (tC (.int 14)))) tNil)) (gName 4) (tSeq (tAsg (tCall sp__law_next [] C8.E0 (tCons (tVar 0) tNil)) (gName 5))
  (tSeq (tAsg (tLc (iList K (tCall sp__law_days [] C8.E0 (tCons (tVar 1) (tCons (tVar 2) tNil)))) (gName 7) (tTest (tOp rNotN (tCall sp__law_next_stand [] C8.E0 (tCons (tVar 1) (tCons (tVar 2) (tCons (tVar 7) tNil)))) (tC .non))) (tVar 7) [7]) (gName 6))
  (tSeq (tIfS (tTest (tOp (rEqD K) (tVar 6) (tLst tNil))) (tSeq tBreak
  tNext) tNext)
  (tSeq (tDrop (tBM K "list" rAppend (tVar 3) (tCons (tOp (rIxL K) (tVar 6) (tOp oMod (tOp oDiv (tVar 5) (tC (.int 8))) (tCB (rLen K) (tCons (tVar 6) tNil)))) tNil)))
  (tSeq (tAsg (tCall sp__law_next_stand [] C8.E0 (tCons (tVar 1) (tCons (tVar 2) (tCons (tOp (rIxL K) (tVar 3) (tUn oNeg (tC (.int 1)))) tNil)))) (gName 2))
  tNext))))))
  (tSeq (tIfS (tAnd (tTest (tOp (rNeD K) (tVar 3) (tLst tNil))) (tTest (tOp rEq (tOp oMod (tCall sp__law_next [] C8.E0 (tCons (tVar 0) tNil)) (tC (.int 4))) (tC (.int 0))))) (tSeq (tAsg (tTup tNil) (gSub (tVar 3) (tOp oMod (tCall sp__law_next [] C8.E0 (tCons (tVar 0) tNil)) (tCB (rLen K) (tCons (tVar 3) tNil))) L2.rSetL))
  tNext) tNext)
  (tSeq (tRet (tCB (rTupOf K) (tCons (tOp rCat (tVar 3) (tOp rRep (tLst (tCons (tTup tNil) tNil)) (tCB rInt1 (tCons (tOp (rEqD K) (tVar 3) (tLst tNil)) tNil)))) tNil)))
  tNext))))
theorem d__law_drawn_days {P : Program} {w : World} {K : PySem.W.Frag} {mg : Str → Option Value} {base : Heap} (T : Top K mg) (f : Addr) (cdv : Value) (A : Around) (outer : List Env) (s : Shared) (H : Hp) (E : XK)
    (hr : Room 1 (A.deeper (PyProof.Rows.envOfC "_law_drawn_days" (C8.fnScope s__law_drawn_days) s.heap.objs.size f cdv))) :
    PSs (cxOf C8.CX0 P w K mg base N__law_drawn_days "_law_drawn_days" (C8.fnScope s__law_drawn_days) f cdv A outer s H E).nox (C8.fnBody s__law_drawn_days) (t__law_drawn_days K) :=
  (pss_cons (ps_set (i := 3) nd__law_drawn_days rfl (by first | exact Or.inl rfl | exact Or.inr rfl) (pe_lst pa_nil))
  (pss_cons (ps_for PassesOwn.never rfl (pi_range1 rfl T.n_range (pa_cons (pe_op op_add pe_int (pe_op op_mod (C8.pe_c (c__law_next T) hr (by decide) rfl (pa_cons (pv 0) pa_nil)) pe_int)) pa_nil)) (pg_name (i := 4) nd__law_drawn_days rfl (by first | exact Or.inl rfl | exact Or.inr rfl)) (pss_cons (ps_set (i := 5) nd__law_drawn_days rfl (by first | exact Or.inl rfl | exact Or.inr rfl) (C8.pe_c (c__law_next T) hr (by decide) rfl (pa_cons (pv 0) pa_nil)))
  (pss_cons (by first | exact ps_setLc (i := 6) (own := [("_law_day", 7)]) (g := gName 7) rfl nd__law_drawn_days rfl rfl (sw_true rfl rfl rfl (by decide +kernel)) (pi_list (C8.pe_c (c__law_days T) hr (by decide) rfl (pa_cons (pv 1) (pa_cons (pv 2) pa_nil)))) (blkOk_by (N := N__law_drawn_days) (sc := C8.fnScope s__law_drawn_days) (by decide +kernel)) (fun _ _ _ _ _ => pg_name (i := 7) nd__law_drawn_days rfl (by first | exact Or.inl rfl | exact Or.inr rfl)) (fun _ _ _ _ _ => pts_one (pt_cmpR op_notN' (C8.pe_c (c__law_next_stand T) hr (by decide) rfl (pa_cons (pv 1) (pa_cons (pv 2) (pa_cons (pv 7) pa_nil)))) pe_non (nomark _))) (fun _ _ _ _ _ => (pv 7)) | exact ps_set (i := 6) nd__law_drawn_days rfl (by first | exact Or.inl rfl | exact Or.inr rfl) (pe_lc (own := [("_law_day", 7)]) (g := gName 7) rfl nd__law_drawn_days (pi_list (C8.pe_c (c__law_days T) hr (by decide) rfl (pa_cons (pv 1) (pa_cons (pv 2) pa_nil)))) (blkOk_by (N := N__law_drawn_days) (sc := C8.fnScope s__law_drawn_days) (by decide +kernel)) (fun _ _ _ _ _ => pg_name (i := 7) nd__law_drawn_days rfl (by first | exact Or.inl rfl | exact Or.inr rfl)) (fun _ _ _ _ _ => pts_one (pt_cmpR op_notN' (C8.pe_c (c__law_next_stand T) hr (by decide) rfl (pa_cons (pv 1) (pa_cons (pv 2) (pa_cons (pv 7) pa_nil)))) pe_non (nomark _))) (fun _ _ _ _ _ => (pv 7))))
  (pss_cons (ps_if (pt_cmpR (op_eqD hr.units) (pv 6) (pe_lst pa_nil) (nomark _)) (pss_cons ps_break
  pss_nil) pss_nil)
  (pss_cons (ps_expr (pe_bm PySem.F.plainAttrs_list PySem.F.slot_list_append PySem.F.type_list_append mt_append (pv 3) (pa_cons (pe_ix ix_list (pv 6) (pe_op op_mod (pe_op op_fdiv (pv 5) pe_int) (pe_callB cr_len (by rfl) T.n_len bt_len (pa_cons (pv 6) pa_nil))) (fun _ _ => rfl)) pa_nil)))
  (pss_cons (ps_set (i := 2) nd__law_drawn_days rfl (by first | exact Or.inl rfl | exact Or.inr rfl) (C8.pe_c (c__law_next_stand T) hr (by decide) rfl (pa_cons (pv 1) (pa_cons (pv 2) (pa_cons (pe_ix ix_list (pv 3) (pe_un un_neg pe_int) (fun _ _ => rfl)) pa_nil)))))
  pss_nil))))))
  (pss_cons (ps_if (PW.pt (pw_and (pt_cmpR (op_neD hr.units) (pv 3) (pe_lst pa_nil) (nomark _)) (pw_and1 (pt_cmpR op_eq (pe_op op_mod (C8.pe_c (c__law_next T) hr (by decide) rfl (pa_cons (pv 0) pa_nil)) pe_int) pe_int (nomark _))))) (pss_cons (ps_asg (pe_tup pa_nil) (pg_sub (pv 3) (pe_op op_mod (C8.pe_c (c__law_next T) hr (by decide) rfl (pa_cons (pv 0) pa_nil)) (pe_callB cr_len (by rfl) T.n_len bt_len (pa_cons (pv 3) pa_nil))) set_list))
  pss_nil) pss_nil)
  (pss_cons (ps_ret (pe_callTy cr_tuple (by rfl) T.n_tuple bt_tuple (pa_cons (pe_op op_cat (pv 3) (pe_op op_rep (pe_lst (pa_cons (pe_tup pa_nil) pa_nil)) (pe_callTy cr_int (by rfl) T.n_int bt_int (pa_cons (pe_cmpR (op_eqD hr.units) (pv 3) (pe_lst pa_nil) (nomark _)) pa_nil)))) pa_nil)))
  pss_nil))))
theorem laterF {t : Task} {s : Stand} (ht : TaskOk t) (hs : SW t s) {d : List Int} (h : d ∈ (daysL t s).filter fun d => (nextS t s d).isSome) : d.length ≤ 2 ∧ ∃ s', nextS t s d = some s' ∧ SW t s' := by
  obtain ⟨h1, h2⟩ := List.mem_filter.mp h
  have h3 := later_len ((days_mem ht hs).mp h1)
  obtain ⟨s', e⟩ := Option.isSome_iff_exists.mp h2
  exact ⟨h3, s', e, nextS_sw ht (by omega) e⟩
theorem c__law_drawn_days (T : Top K mg) : C8.Cal P w K mg base 2 "_law_drawn_days" sp__law_drawn_days [] := by
  refine cal_of T.f__law_drawn_days sc__law_drawn_days (t__law_drawn_days K) (fun zs z h => ?_) (fun f cdv A outer s H E hr => d__law_drawn_days T f cdv A outer s H E hr) (fun dr B E zs z hp hB hR hN => ?_)
  · obtain ⟨_, _, rfl, _⟩ := h; rfl
  obtain ⟨t, s0, rfl, ht, hs0, rfl⟩ := hp
  refine w_asgN hB (en_lst ead_nil (by nested_key)) fun p np mp fr => ?_
  have fin : ∀ (ds : List (List Int)) (c2 c4 c5 c6 : Sd), ds.length ≤ 14 → (∀ d ∈ ds, d.length ≤ 2) → okm p c2 → okm p c4 → okm p c5 → okm p c6 → W dr B E (tSeq (tIfS (tAnd (tTest (tOp (rNeD K) (tVar 3) (tLst tNil))) (tTest (tOp rEq (tOp oMod (tCall sp__law_next [] C8.E0 (tCons (tVar 0) tNil)) (tC (.int 4))) (tC (.int 0))))) (tSeq (tAsg (tTup tNil) (gSub (tVar 3) (tOp oMod (tCall sp__law_next [] C8.E0 (tCons (tVar 0) tNil)) (tCB (rLen K) (tCons (tVar 3) tNil))) L2.rSetL))
  tNext) tNext)
  (tSeq (tRet (tCB (rTupOf K) (tCons (tOp rCat (tVar 3) (tOp rRep (tLst (tCons (tTup tNil) tNil)) (tCB rInt1 (tCons (tOp (rEqD K) (tVar 3) (tLst tNil)) tNil)))) tNil)))
  tNext)) [.v (.g drV), .d t.enc, c2, .l p (ds.map dI), c4, c5, c6, .x] := by
    intro ds c2 c4 c5 c6 hl hd k2 k4 k5 k6
    have ret : ∀ ds : List (List Int), ds.length ≤ 14 → (∀ d ∈ ds, d.length ≤ 2) → W dr B E (tSeq (tRet (tCB (rTupOf K) (tCons (tOp rCat (tVar 3) (tOp rRep (tLst (tCons (tTup tNil) tNil)) (tCB rInt1 (tCons (tOp (rEqD K) (tVar 3) (tLst tNil)) tNil)))) tNil)))
  tNext) [.v (.g drV), .d t.enc, c2, .l p (ds.map dI), c4, c5, c6, .x] := by
      intro ds hl hd
      have hk : ((if (ds.map dI).isEmpty = true then (1 : Int) else 0)).toNat ≤ 1 := by split <;> decide
      refine w_ret hB (Ev.any (ev_cb (ea_cons (EvN.ev (en_op (ev_varL rfl) (EvN.ev (en_op (EvN.ev (en_lst (ds := [dI []]) (ead_cons (ev_tup ead_nil (by nested_key)) ead_nil) (by nested_key))) (ev_cb (ea_cons (ev_op (ev_varL rfl) (EvN.ev (en_lst ead_nil (by nested_key))) (rr_eqNil (shaped_ld _))) ea_nil) rc_intB) (rn_rep (by split <;> decide) (by split <;> decide) (by unfold small; rw [List.length_singleton]; omega)))) (rn_cat ?_))) ea_nil) rc_tupL) ?_) hR
      · simp only [small, List.length_map, List.length_flatten, List.map_replicate, List.length_singleton, List.sum_replicate_nat]
        omega
      · cases ds with
        | nil => exact ⟨[[]], rfl, by decide, by decide, by simp⟩
        | cons a l => exact ⟨a :: l, by simp [dII], by simp, by omega, hd⟩
    refine w_ifS (Zb := fun b => b = true → 0 < ds.length) hB (et_andA (et_test (ev_op (ev_varL rfl) (EvN.ev (en_lst ead_nil (by nested_key))) (rr_neNil (shaped_ld _)))) (fun h => et_testA (ev_op (ev_op (e__law_next (ea_cons (ev_varV rfl) ea_nil)) ev_int (rr_modA (by decide))) ev_int rr_eqA) fun b _ => by cases ds with
      | nil => simp at h
      | cons _ _ => simp) (fun _ h => nomatch h)) (fun hz => ?_) (fun hz => ?_)
    · have hpos := hz rfl
      refine w_setLA hB rfl mp (ev_tup (ds := []) ead_nil (by nested_key)) (ev_op (e__law_next (ea_cons (ev_varV rfl) ea_nil)) (ev_cb (ea_cons (ev_varL rfl) ea_nil) rc_lenL) (rr_modA (by rw [List.length_map]; omega))) (fun n h => h) ⟨rfl, trivial, k2, trivial, k4, k5, k6, trivial, trivial⟩ fun m hm => ?_
      refine w_nx ?_
      have e : (ds.map dI).set m (.tuple []) = (ds.set m []).map dI := by rw [List.map_set]; rfl
      show W dr B E _ [.v (.g drV), .d t.enc, c2, .l p ((ds.map dI).set m (.tuple [])), c4, c5, c6, .x]
      rw [e]
      refine ret (ds.set m []) (by rw [List.length_set]; exact hl) fun d hd' => ?_
      rcases List.mem_or_eq_of_mem_set hd' with h | h
      · exact hd d h
      · rw [h]; simp
    · refine w_nx ?_
      exact ret ds hl hd
  refine w_forA (φ := fun n => 1 ≤ n ∧ n ≤ 14) (fun _ i δ' => ∃ (s : Stand) (ds : List (List Int)) (c4 c5 c6 : Sd), δ' = [.v (.g drV), .d t.enc, .d s.enc, .l p (ds.map dI), c4, c5, c6, .x] ∧ SW t s ∧ ds.length = i ∧ (∀ d ∈ ds, d.length ≤ 2) ∧ okm p c4 ∧ okm p c5 ∧ okm p c6) hB (ea_cons (ev_op ev_int (ev_op (e__law_next (ea_cons (ev_varV rfl) ea_nil)) ev_int (rr_modA (by decide))) (rr_anyR fun e ⟨n, hn, he⟩ => ⟨.int (1 + n), ⟨_, by omega, rfl⟩, by subst he; exact rr_I0 fun _ => .int _⟩)) ea_nil) (fun n h => by omega)
    (fun n _ => ⟨s0, [], .x, .x, .x, rfl, hs0, rfl, (fun d h => nomatch h), trivial, trivial, trivial⟩) (fun nn i δ' hn hi hI => ?_) (fun nn δ' hn hI => ?_)
  · obtain ⟨s, ds, c4, c5, c6, rfl, hs, hlen, hd, k4, k5, k6⟩ := hI
    have hdl := daysL_len ht s
    refine w_asgA hB (e__law_next (ea_cons (ev_varV rfl) ea_nil)) fun e he => ?_
    obtain ⟨n, hn0, rfl⟩ := he
    refine w_asgN hB (en_lcL (daysL t s) dI (fun d => (nextS t s d).isSome) dI (e__law_days (ea_cons (ev_var rfl) (ea_cons (ev_var rfl) ea_nil)) ht hs) (by omega) (by simp) (fun a ha => EvT.is (et_test (ev_op (e__law_next_stand (ea_cons (ev_var rfl) (ea_cons (ev_var rfl) (ea_cons (ev_var rfl) ea_nil))) ht hs (by have := later_len ((days_mem ht hs).mp ha); omega)) ev_non rr_notN)) (by rw [isNon_oenc]; cases nextS t s a <;> rfl)) (fun a ha hf => ev_var rfl)) fun p6 np6 mp6 fr6 => ?_
    have hp6 : p ≠ p6 := fr_get (i := 3) fr6 rfl
    refine w_if hB (et_test (ev_op (ev_varL rfl) (EvN.ev (en_lst ead_nil (by nested_key))) (rr_eqNil (shaped_ld _)))) (fun hb => ?_) (fun hb => ?_)
    · refine w_brk fun σ H sl j b => ?_
      exact fin ds (.d s.enc) (.d (.int i)) (.d (.int n)) (.l p6 _) (by omega) hd trivial trivial trivial (Ne.symm hp6) σ H sl j b
    refine w_nx ?_
    have hne : 0 < ((daysL t s).filter fun d => (nextS t s d).isSome).length := by
      cases e : (daysL t s).filter fun d => (nextS t s d).isSome with
      | nil => rw [e] at hb; simp at hb
      | cons _ _ => simp
    have hm0 := Int.emod_nonneg (n / 8) (show (((daysL t s).filter fun d => (nextS t s d).isSome).length : Int) ≠ 0 by omega)
    have hm1 := Int.emod_lt_of_pos (n / 8) (show (0 : Int) < (((daysL t s).filter fun d => (nextS t s d).isSome).length : Int) by omega)
    refine w_appA hB rfl mp (ev_op (ev_varL rfl) (ev_op (ev_op (ev_var rfl) ev_int (rr_I (⟨by decide, by decide⟩ : CDiv _ _) fun _ => .int _)) (ev_cb (ea_cons (ev_varL rfl) ea_nil) rc_lenL) (rr_I (by rw [List.length_map]; omega) fun _ => .int _)) (rr_ixMem (by rw [List.length_map]; exact hm0) (by rw [List.length_map]; exact hm1))) (by rw [List.length_map]; omega) ⟨rfl, trivial, trivial, trivial, trivial, trivial, Ne.symm hp6, trivial, trivial⟩ fun e he => ?_
    obtain ⟨d, hdm, rfl⟩ := List.mem_map.mp he
    obtain ⟨hd2, s', hs', hsw'⟩ := laterF ht hs hdm
    refine w_asg hB (z := .d s'.enc) (Ev.is (e__law_next_stand (s := s) (day := d) (ea_cons (ev_var rfl) (ea_cons (ev_var rfl) (ea_cons (ev_op (ev_varL rfl) (ev_neg ev_int) (rr_ixL (by rw [show ds.map dI ++ [dI d] = (ds ++ [d]).map dI by simp]; exact at_last (by simp)))) ea_nil))) ht hs (by omega)) (by rw [hs']; rfl)) ?_
    refine w_end ⟨s', ds ++ [d], .d (.int i), .d (.int n), .l p6 _, by simp [Vd.sd]; rfl, hsw', by simp [hlen], fun x hx => ?_, trivial, trivial, Ne.symm hp6⟩
    rcases List.mem_append.mp hx with h | h
    · exact hd x h
    · rw [List.mem_singleton.mp h]; exact hd2
  · obtain ⟨s, ds, c4, c5, c6, rfl, hs, hlen, hd, k4, k5, k6⟩ := hI
    exact fin ds (.d s.enc) c4 c5 c6 (by omega) hd trivial k4 k5 k6
end
end Ed
end
section
set_option maxHeartbeats 4000000
namespace Ed
open PySem L2
local macro_rules | `(tactic| nested_key) => `(tactic| first
  | rfl
  | assumption
  | omega
  | exact Nat.le_of_ble_eq_true rfl
  | decide
  | (simp only [List.length_map, small]; omega)
  | (simp [small]; done)
  | (simp only [Vd.sd, setAll, List.set, mutAll, okm, Fr] at *; simp_all; done))

section
variable {P : Program} {w : World} {K : PySem.W.Frag} {mg : Str → Option Value} {base : Heap} {dr : Option Addr} {δ : List Sd} {ta : TA} {te : TE}
/-! _law_lasso -/
/-- on-answers with short parts -/
def onZ (n : Nat) : PyData → Prop := fun e => ∃ l r : List (List Int), e = (Ans.on l r).enc ∧ l.length ≤ n ∧ 1 ≤ r.length ∧ r.length ≤ n ∧ (∀ d ∈ l, d.length ≤ 2) ∧ ∀ d ∈ r, d.length ≤ 2
def q__law_lasso : List Vd → Vd → Prop := fun a z => ∃ (t : Task) (s : Stand), a = [.g drV, .d t.enc, .d s.enc] ∧ TaskOk t ∧ SW t s ∧ z = .g (anyV (onZ 100))
abbrev sp__law_lasso : Sp := spP q__law_lasso
theorem e__law_lasso {ta : TA} {t : Task} {s : Stand} (h : EvA dr ta δ [.g drV, .d t.enc, .d s.enc]) (ht : TaskOk t) (hs : SW t s) : Ev dr (tCall sp__law_lasso [] C8.E0 ta) δ (.g (anyV (onZ 100))) := ev_call h ⟨_, _, rfl, ht, hs, rfl⟩
abbrev s__law_lasso : Stmt := Hd.top 86
abbrev N__law_lasso : List Str := ["_law_draws_here", "_law_task_here", "_law_stand", "_law_stands", "_law_days_here", "_law_turn", "_law_here", "_law_later", "_law_there", "_law_at", "_law_day"]
theorem nd__law_lasso : N__law_lasso.Nodup := by decide +kernel
theorem sc__law_lasso : C8.scC N__law_lasso ["_law_draws_here", "_law_task_here", "_law_stand"] (C8.fnScope s__law_lasso) = true := by decide +kernel
def t__law_lasso (K : PySem.W.Frag) : TS :=
  (tSeq (tAsg (tLst (tCons (tVar 2) tNil)) (gName 3))
  (tSeq (tAsg (tLst tNil) (gName 4))
  (tSeq (tFor (iRng1 (tCons (tC (.int 60)) tNil)) (gName 5) (tSeq (tAsg (tOp (rIxL K) (tVar 3) (tUn oNeg (tC (.int 1)))) (gName 6))
  (tSeq (tAsg (tLc (iList K (tCall sp__law_days [] C8.E0 (tCons (tVar 1) (tCons (tVar 6) tNil)))) (gName 10) (tTest (tOp rNotN (tCall sp__law_next_stand [] C8.E0 (tCons (tVar 1) (tCons (tVar 6) (tCons (tVar 10) tNil)))) (tC .non))) (tVar 10) [10]) (gName 7))
  (tSeq (tIfS (tTest (tOp (rEqD K) (tVar 7) (tLst tNil))) (tSeq tBreak
  tNext) tNext)
  (tSeq (tDrop (tBM K "list" rAppend (tVar 4) (tCons (tOp (rIxL K) (tVar 7) (tOp oMod (tCall sp__law_next [] C8.E0 (tCons (tVar 0) tNil)) (tCB (rLen K) (tCons (tVar 7) tNil)))) tNil)))
  (tSeq (tAsg (tCall sp__law_next_stand [] C8.E0 (tCons (tVar 1) (tCons (tOp (rIxL K) (tVar 3) (tUn oNeg (tC (.int 1)))) (tCons (tOp (rIxL K) (tVar 4) (tUn oNeg (tC (.int 1)))) tNil)))) (gName 8))
  (tSeq (tIfS (tTest (tOp (rInD K) (tVar 8) (tVar 3))) (tSeq (tAsg (tBM K "list" (rIndexD K) (tVar 3) (tCons (tVar 8) tNil)) (gName 9))
  (tSeq (tRet (tTup (tCons (tC (.str "on")) (tCons (tCB (rTupOf K) (tCons (tSl (rSlL K) (tVar 4) tNoPart (tPart (tVar 9))) tNil)) (tCons (tCB (rTupOf K) (tCons (tSl (rSlL K) (tVar 4) (tPart (tVar 9)) tNoPart) tNil)) tNil)))))
  tNext)) tNext)
  (tSeq (tDrop (tBM K "list" rAppend (tVar 3) (tCons (tVar 8) tNil)))
  tNext))))))))
  (tSeq (tRet (tTup (tCons (tC (.str "on")) (tCons (tCB (rTupOf K) (tCons (tVar 4) tNil)) (tCons (tTup (tCons (tTup tNil) tNil)) tNil)))))
  tNext))))
theorem d__law_lasso {P : Program} {w : World} {K : PySem.W.Frag} {mg : Str → Option Value} {base : Heap} (T : Top K mg) (f : Addr) (cdv : Value) (A : Around) (outer : List Env) (s : Shared) (H : Hp) (E : XK)
    (hr : Room 1 (A.deeper (PyProof.Rows.envOfC "_law_lasso" (C8.fnScope s__law_lasso) s.heap.objs.size f cdv))) :
    PSs (cxOf C8.CX0 P w K mg base N__law_lasso "_law_lasso" (C8.fnScope s__law_lasso) f cdv A outer s H E).nox (C8.fnBody s__law_lasso) (t__law_lasso K) :=
  (pss_cons (ps_set (i := 3) nd__law_lasso rfl (by first | exact Or.inl rfl | exact Or.inr rfl) (pe_lst (pa_cons (pv 2) pa_nil)))
  (pss_cons (ps_set (i := 4) nd__law_lasso rfl (by first | exact Or.inl rfl | exact Or.inr rfl) (pe_lst pa_nil))
  (pss_cons (ps_for PassesOwn.never rfl (pi_range1 rfl T.n_range (pa_cons pe_int pa_nil)) (pg_name (i := 5) nd__law_lasso rfl (by first | exact Or.inl rfl | exact Or.inr rfl)) (pss_cons (ps_set (i := 6) nd__law_lasso rfl (by first | exact Or.inl rfl | exact Or.inr rfl) (pe_ix ix_list (pv 3) (pe_un un_neg pe_int) (fun _ _ => rfl)))
  (pss_cons (by first | exact ps_setLc (i := 7) (own := [("_law_day", 10)]) (g := gName 10) rfl nd__law_lasso rfl rfl (sw_true rfl rfl rfl (by decide +kernel)) (pi_list (C8.pe_c (c__law_days T) hr (by decide) rfl (pa_cons (pv 1) (pa_cons (pv 6) pa_nil)))) (blkOk_by (N := N__law_lasso) (sc := C8.fnScope s__law_lasso) (by decide +kernel)) (fun _ _ _ _ _ => pg_name (i := 10) nd__law_lasso rfl (by first | exact Or.inl rfl | exact Or.inr rfl)) (fun _ _ _ _ _ => pts_one (pt_cmpR op_notN' (C8.pe_c (c__law_next_stand T) hr (by decide) rfl (pa_cons (pv 1) (pa_cons (pv 6) (pa_cons (pv 10) pa_nil)))) pe_non (nomark _))) (fun _ _ _ _ _ => (pv 10)) | exact ps_set (i := 7) nd__law_lasso rfl (by first | exact Or.inl rfl | exact Or.inr rfl) (pe_lc (own := [("_law_day", 10)]) (g := gName 10) rfl nd__law_lasso (pi_list (C8.pe_c (c__law_days T) hr (by decide) rfl (pa_cons (pv 1) (pa_cons (pv 6) pa_nil)))) (blkOk_by (N := N__law_lasso) (sc := C8.fnScope s__law_lasso) (by decide +kernel)) (fun _ _ _ _ _ => pg_name (i := 10) nd__law_lasso rfl (by first | exact Or.inl rfl | exact Or.inr rfl)) (fun _ _ _ _ _ => pts_one (pt_cmpR op_notN' (C8.pe_c (c__law_next_stand T) hr (by decide) rfl (pa_cons (pv 1) (pa_cons (pv 6) (pa_cons (pv 10) pa_nil)))) pe_non (nomark _))) (fun _ _ _ _ _ => (pv 10))))
  (pss_cons (ps_if (pt_cmpR (op_eqD hr.units) (pv 7) (pe_lst pa_nil) (nomark _)) (pss_cons ps_break
  pss_nil) pss_nil)
  (pss_cons (ps_expr (pe_bm PySem.F.plainAttrs_list PySem.F.slot_list_append PySem.F.type_list_append mt_append (pv 4) (pa_cons (pe_ix ix_list (pv 7) (pe_op op_mod (C8.pe_c (c__law_next T) hr (by decide) rfl (pa_cons (pv 0) pa_nil)) (pe_callB cr_len (by rfl) T.n_len bt_len (pa_cons (pv 7) pa_nil))) (fun _ _ => rfl)) pa_nil)))
  (pss_cons (ps_set (i := 8) nd__law_lasso rfl (by first | exact Or.inl rfl | exact Or.inr rfl) (C8.pe_c (c__law_next_stand T) hr (by decide) rfl (pa_cons (pv 1) (pa_cons (pe_ix ix_list (pv 3) (pe_un un_neg pe_int) (fun _ _ => rfl)) (pa_cons (pe_ix ix_list (pv 4) (pe_un un_neg pe_int) (fun _ _ => rfl)) pa_nil)))))
  (pss_cons (ps_if (pt_cmpR (op_inD (Room.u65 hr)) (pv 8) (pv 3) (by rfl)) (pss_cons (ps_set (i := 9) nd__law_lasso rfl (by first | exact Or.inl rfl | exact Or.inr rfl) (pe_bm PySem.F.plainAttrs_list PySem.F.slot_list_index PySem.F.type_list_index (mt_indexD (Room.u65 hr)) (pv 3) (pa_cons (pv 8) pa_nil)))
  (pss_cons (ps_ret (pe_tup (pa_cons pe_str (pa_cons (pe_callTy cr_tuple (by rfl) T.n_tuple bt_tuple (pa_cons (pe_slice sl_list (pv 4) po_none (po_some (pv 9))) pa_nil)) (pa_cons (pe_callTy cr_tuple (by rfl) T.n_tuple bt_tuple (pa_cons (pe_slice sl_list (pv 4) (po_some (pv 9)) po_none) pa_nil)) pa_nil)))))
  pss_nil)) pss_nil)
  (pss_cons (ps_expr (pe_bm PySem.F.plainAttrs_list PySem.F.slot_list_append PySem.F.type_list_append mt_append (pv 3) (pa_cons (pv 8) pa_nil)))
  pss_nil))))))))
  (pss_cons (ps_ret (pe_tup (pa_cons pe_str (pa_cons (pe_callTy cr_tuple (by rfl) T.n_tuple bt_tuple (pa_cons (pv 4) pa_nil)) (pa_cons (pe_tup (pa_cons (pe_tup pa_nil) pa_nil)) pa_nil)))))
  pss_nil))))
theorem first_at {α : Type} [DecidableEq α] {x : α} : ∀ {xs : List α}, x ∈ xs → ∃ j, j < xs.length ∧ xs[j]? = some x ∧ ∀ (m : Nat) (z : α), m < j → xs[m]? = some z → z ≠ x
  | [], h => nomatch h
  | y :: ys, h => by
    by_cases e : y = x
    · exact ⟨0, by simp, by simp [e], fun m z hm => absurd hm (by omega)⟩
    · have h' : x ∈ ys := by
        rcases List.mem_cons.mp h with h | h
        · exact absurd h.symm e
        · exact h
      obtain ⟨j, h1, h2, h3⟩ := first_at h'
      refine ⟨j + 1, by simpa using h1, by simpa using h2, fun m z hm hz => ?_⟩
      cases m with
      | zero => simp at hz; subst hz; exact e
      | succ m => exact h3 m z (by omega) (by simpa using hz)
theorem any_st {xs : List Stand} {d : Stand} : ((xs.map Stand.enc).any fun z => PyData.eqv z d.enc) = decide (d ∈ xs) := by
  rw [Bool.eq_iff_iff]; simp [eqv_stand]
theorem cutD_dropM {α β : Type} {f : α → β} {xs : List α} {n : Nat} (h : n ≤ xs.length) : cutD (xs.map f) (some (n : Int)) none = (xs.drop n).map f := by
  unfold cutD
  simp only [HT.sIx, List.length_map]
  rw [if_neg (by omega)]
  rw [show min (n : Int).toNat xs.length = n by omega, ← List.map_drop, List.take_of_length_le (by simp)]
theorem c__law_lasso (T : Top K mg) : C8.Cal P w K mg base 2 "_law_lasso" sp__law_lasso [] := by
  refine cal_of T.f__law_lasso sc__law_lasso (t__law_lasso K) (fun zs z h => ?_) (fun f cdv A outer s H E hr => d__law_lasso T f cdv A outer s H E hr) (fun dr B E zs z hp hB hR hN => ?_)
  · obtain ⟨_, _, rfl, _⟩ := h; rfl
  obtain ⟨t, s0, rfl, ht, hs0, rfl⟩ := hp
  refine w_asgN hB (en_lst (ead_cons (ev_var rfl) ead_nil) (by nested_key)) fun p np mp fr => ?_
  refine w_asgN hB (en_lst ead_nil (by nested_key)) fun p4 np4 mp4 fr4 => ?_
  have h34 : p ≠ p4 := fr_get (i := 3) fr4 rfl
  have fin : ∀ (ds : List (List Int)) (c2 c3 c5 c6 c7 c8 c9 c10 : Sd), ds.length ≤ 60 → (∀ d ∈ ds, d.length ≤ 2) → W dr B E (tSeq (tRet (tTup (tCons (tC (.str "on")) (tCons (tCB (rTupOf K) (tCons (tVar 4) tNil)) (tCons (tTup (tCons (tTup tNil) tNil)) tNil))))) tNext) [.v (.g drV), .d t.enc, c2, c3, .l p4 (ds.map dI), c5, c6, c7, c8, c9, c10] := by
    intro ds c2 c3 c5 c6 c7 c8 c9 c10 hl hd
    refine w_ret hB (Ev.any (ev_tup (ead_cons ev_str (ead_cons (ev_cb (ea_cons (ev_varL rfl) ea_nil) rc_tupL) (ead_cons (ev_tup (ds := [dI []]) (ead_cons (ev_tup (ds := []) ead_nil (by nested_key)) ead_nil) (by nested_key)) ead_nil))) (by nested_key)) ?_) hR
    exact ⟨ds, [[]], rfl, by omega, by decide, by decide, hd, by simp⟩
  refine w_forR1 (fun i δ' => ∃ (ss : List Stand) (ds : List (List Int)) (c5 c6 c7 c8 c9 : Sd), δ' = [.v (.g drV), .d t.enc, .d s0.enc, .l p (ss.map Stand.enc), .l p4 (ds.map dI), c5, c6, c7, c8, c9, .x] ∧ ds.length = i ∧ ss.length = i + 1 ∧ (∀ d ∈ ds, d.length ≤ 2) ∧ (∀ x ∈ ss, SW t x) ∧ okm p c5 ∧ okm p c6 ∧ okm p c7 ∧ okm p c8 ∧ okm p c9 ∧ okm p4 c5 ∧ okm p4 c6 ∧ okm p4 c7 ∧ okm p4 c8 ∧ okm p4 c9) hB (ea_cons ev_int ea_nil) (by nested_key) (by nested_key) ⟨[s0], [], .x, .x, .x, .x, .x, rfl, rfl, rfl, (fun d h => nomatch h), (fun x h => by rw [List.mem_singleton.mp h]; exact hs0), trivial, trivial, trivial, trivial, trivial, trivial, trivial, trivial, trivial, trivial⟩ (fun i δ' hi hI => ?_) (fun δ' hI => ?_)
  · obtain ⟨ss, ds, c5, c6, c7, c8, c9, rfl, hl1, hl2, hd, hss, k5, k6, k7, k8, k9, m5, m6, m7, m8, m9⟩ := hI
    have hi60 : i < 60 := by omega
    obtain ⟨s, es⟩ : ∃ s, ss.getLast? = some s := by
      cases e : ss.getLast? with
      | none => rw [List.getLast?_eq_none_iff] at e; rw [e] at hl2; simp at hl2
      | some s => exact ⟨s, rfl⟩
    have hs : SW t s := hss s (List.mem_of_getLast? es)
    have hdl := daysL_len ht s
    refine w_asg hB (ev_op (ev_varL rfl) (ev_neg ev_int) (rr_ixL (at_last es))) ?_
    refine w_asgN hB (en_lcL (daysL t s) dI (fun d => (nextS t s d).isSome) dI (e__law_days (ea_cons (ev_var rfl) (ea_cons (ev_var rfl) ea_nil)) ht hs) (by omega) (by simp) (fun a ha => EvT.is (et_test (ev_op (e__law_next_stand (ea_cons (ev_var rfl) (ea_cons (ev_var rfl) (ea_cons (ev_var rfl) ea_nil))) ht hs (by have := later_len ((days_mem ht hs).mp ha); omega)) ev_non rr_notN)) (by rw [isNon_oenc]; cases nextS t s a <;> rfl)) (fun a ha hf => ev_var rfl)) fun p7 np7 mp7 fr7 => ?_
    have h37 : p ≠ p7 := fr_get (i := 3) fr7 rfl
    have h47 : p4 ≠ p7 := fr_get (i := 4) fr7 rfl
    refine w_if hB (et_test (ev_op (ev_varL rfl) (EvN.ev (en_lst ead_nil (by nested_key))) (rr_eqNil (shaped_ld _)))) (fun hb => ?_) (fun hb => ?_)
    · refine w_brk fun σ H sl j b => ?_
      exact fin ds (.d s0.enc) (.l p (ss.map Stand.enc)) (.d (.int i)) (.d s.enc) (.l p7 _) c8 c9 .x (by omega) hd σ H sl j b
    refine w_nx ?_
    have hne : 0 < ((daysL t s).filter fun d => (nextS t s d).isSome).length := by
      cases e : (daysL t s).filter fun d => (nextS t s d).isSome with
      | nil => rw [e] at hb; simp at hb
      | cons _ _ => simp
    refine w_appA hB rfl mp4 (ev_op (ev_varL rfl) (ev_op (e__law_next (ea_cons (ev_varV rfl) ea_nil)) (ev_cb (ea_cons (ev_varL rfl) ea_nil) rc_lenL) (rr_modA (by rw [List.length_map]; omega))) (rr_ixA fun n hn => by rw [List.length_map] at hn; exact hn)) (by rw [List.length_map]; omega) ⟨rfl, trivial, trivial, h34, trivial, trivial, trivial, Ne.symm h47, m8, m9, trivial, trivial⟩ fun e he => ?_
    obtain ⟨d, hdm, rfl⟩ := he
    obtain ⟨hd2, s', hs', hsw'⟩ := laterF ht hs hdm
    have hd' : ∀ x ∈ ds ++ [d], x.length ≤ 2 := fun x hx => by
      rcases List.mem_append.mp hx with h | h
      · exact hd x h
      · rw [List.mem_singleton.mp h]; exact hd2
    have ed : ds.map dI ++ [dI d] = (ds ++ [d]).map dI := by simp
    rw [ed]
    refine w_asg hB (z := .d s'.enc) (Ev.is (e__law_next_stand (s := s) (day := d) (ea_cons (ev_var rfl) (ea_cons (ev_op (ev_varL rfl) (ev_neg ev_int) (rr_ixL (at_last es))) (ea_cons (ev_op (ev_varL rfl) (ev_neg ev_int) (rr_ixL (at_last (by simp)))) ea_nil))) ht hs (by omega)) (by rw [hs']; rfl)) ?_
    refine w_if hB (et_test (ev_op (ev_var (d := s'.enc) rfl) (ev_varL rfl) (rr_inD ((sh_stand _).ok (by decide)) (shaped_ls _)))) (fun hb => ?_) (fun hb => w_nx ?_)
    · rw [any_st, decide_eq_true_eq] at hb
      obtain ⟨j, hj1, hj2, hj3⟩ := first_at hb
      refine w_asg hB (ev_index (j := j) (ev_varL rfl) (ev_var (d := s'.enc) rfl) (shaped_ls _) ((sh_stand _).ok (by decide)) (by rw [List.getElem?_map, hj2]; rfl) (by rw [eqv_stand]; simp) (fun m z hm hz => by
        rw [List.getElem?_map] at hz
        obtain ⟨x, hx, rfl⟩ := Option.map_eq_some_iff.mp hz
        rw [eqv_stand]; simpa using hj3 m x hm hx)) ?_
      refine w_ret hB (Ev.any (ev_tup (ead_cons ev_str (ead_cons (ev_cb (ea_cons (EvN.ev (en_slL (ev_varL rfl) eo_none (eo_some (ev_var rfl)))) ea_nil) rc_tupL) (ead_cons (ev_cb (ea_cons (EvN.ev (en_slL (ev_varL rfl) (eo_some (ev_var rfl)) eo_none)) ea_nil) rc_tupL) ead_nil))) (by nested_key)) ?_) hR
      have hlen : (ds ++ [d]).length = i + 1 := by simp [hl1]
      refine ⟨(ds ++ [d]).take j, (ds ++ [d]).drop j, ?_, by rw [List.length_take]; omega, by rw [List.length_drop]; omega, by rw [List.length_drop]; omega, fun x hx => hd' x (List.mem_of_mem_take hx), fun x hx => hd' x (List.mem_of_mem_drop hx)⟩
      rw [cutD_takeM (by omega), cutD_dropM (by omega)]
      rfl
    refine w_app hB rfl mp (ev_var rfl) (by rw [List.length_map]; omega) ⟨rfl, trivial, trivial, trivial, Ne.symm h34, trivial, trivial, Ne.symm h37, trivial, k9, trivial, trivial⟩ ?_
    refine w_end ⟨ss ++ [s'], ds ++ [d], .d (.int i), .d s.enc, .l p7 _, .d s'.enc, c9, by simp [Vd.sd]; rfl, by simp [hl1], by simp [hl2], hd', fun x hx => ?_, trivial, trivial, Ne.symm h37, trivial, k9, trivial, trivial, Ne.symm h47, trivial, m9⟩
    rcases List.mem_append.mp hx with h | h
    · exact hss x h
    · rw [List.mem_singleton.mp h]; exact hsw'
  · obtain ⟨ss, ds, c5, c6, c7, c8, c9, rfl, hl1, hl2, hd, hss, k5, k6, k7, k8, k9, m5, m6, m7, m8, m9⟩ := hI
    exact fin ds _ _ _ _ _ _ _ _ (by omega) hd
end
end Ed
end
section
set_option maxHeartbeats 4000000
namespace Ed
open PySem L2
local macro_rules | `(tactic| nested_key) => `(tactic| first
  | rfl
  | assumption
  | omega
  | exact Nat.le_of_ble_eq_true rfl
  | decide
  | (simp only [List.length_map, small]; omega)
  | (simp [small]; done)
  | (simp only [Vd.sd, setAll, List.set, mutAll, okm, Fr] at *; simp_all; done))

section
variable {K : PySem.W.Frag} {dr : Option Addr} {δ : List Sd} {te : TE} {B : Hp → Prop} {E : Ends} {tz : TS} {i : Nat}
theorem w_asgV {P : Program} {w : World} {C : Addr} {f : Hk → List Stand} {n : Nat} {k : Hk} (hB : BOk dr B) (h : Ev dr te δ (.l ((f k).map Stand.enc))) (kk : (f k).length ≤ n → W dr B E tz (δ.set i (.v (.l ((f k).map Stand.enc))))) (hi : δ[0]? = some (.v (.g (hV P w C f n)))) : W dr B E (tSeq (tAsg te (gName i)) tz) δ := fun σ H s j b => by
  obtain ⟨o, e1, v, e2, a, d, ts, rfl, na, hg, hr⟩ := s 0 _ hi
  exact w_asg hB h (kk (hr.fl k)) σ H s j b
end
section
variable {P : Program} {w : World} {K : PySem.W.Frag} {mg : Str → Option Value} {base : Heap} {C : Addr}
/-! Heights.__init__ -/
abbrev s_H_init : Stmt := hsub 0
abbrev N_H_init : List Str := ["self"]
theorem nd_H_init : N_H_init.Nodup := by decide +kernel
theorem sc_H_init : C8.scC N_H_init ["self"] (C8.fnScope s_H_init) = true := by decide +kernel
def t_H_init (P : Program) (w : World) (C : Addr) (K : PySem.W.Frag) : TS :=
  (tSeq (sFld K (tVar 0) (tNewK P w) "rows")
  tNext)
theorem d_H_init {P : Program} {w : World} {K : PySem.W.Frag} {mg : Str → Option Value} {base : Heap} (T : Top K mg) {C : Addr} (U : TopH K mg C) (f : Addr) (cdv : Value) (A : Around) (outer : List Env) (s : Shared) (H : Hp) (E : XK)
    (hr : Room 0 (A.deeper (PyProof.Rows.envOfC "Heights.__init__" (C8.fnScope s_H_init) s.heap.objs.size f cdv))) :
    PSs (cxOf C8.CX0 P w K mg base N_H_init "Heights.__init__" (C8.fnScope s_H_init) f cdv A outer s H E).nox (C8.fnBody s_H_init) (t_H_init P w C K) :=
  (pss_cons (ps_fld (pv 0) pe_newK (by rfl))
  pss_nil)
theorem c_H_init (T : Top K mg) (U : TopH K mg C) : C8.Mak P w K mg base 1 "Heights" C (sp_H_init P w C) [] := by
  obtain ⟨f, fd, M, F, b⟩ := U.mkr
  refine C8.mak0 M U.g F b .nil (C8.fnScope_by sc_H_init) (fun vs H Q E h => ?_) (fun cdv A outer s H vs Q E hroom h => ?_)
  · obtain ⟨a, dx, rfl, _⟩ := h; rfl
  · obtain ⟨a, dx, rfl, ha, q⟩ := h
    refine ⟨t_H_init P w C K, d_H_init T U f cdv A outer s H E hroom, fun d hd hs => ⟨_, rfl, a, C, dx, [], rfl, ?_, U.cls, U.noat, by decide, q d hd hs⟩⟩
    rw [upd_ne (fun z => by rw [z, hd] at ha; cases ha)]; exact ha
/-! Heights.alike -/
abbrev s_H_alike : Stmt := hsub 1
abbrev N_H_alike : List Str := ["self", "stand"]
theorem nd_H_alike : N_H_alike.Nodup := by decide +kernel
theorem sc_H_alike : C8.scC N_H_alike ["self", "stand"] (C8.fnScope s_H_alike) = true := by decide +kernel
def t_H_alike (P : Program) (w : World) (C : Addr) (K : PySem.W.Frag) : TS :=
  (tSeq (tRet (tBMK P w (rGetK P w) (tFld K (tVar 0) "rows") (tCons (tTup (tCons (tOp (rIxT K) (tVar 1) (tC (.int 0))) (tCons (tOp (rIxT K) (tVar 1) (tC (.int 2))) tNil))) (tCons (tLst tNil) tNil))))
  tNext)
theorem d_H_alike {P : Program} {w : World} {K : PySem.W.Frag} {mg : Str → Option Value} {base : Heap} (T : Top K mg) {C : Addr} (U : TopH K mg C) (f : Addr) (cdv : Value) (A : Around) (outer : List Env) (s : Shared) (H : Hp) (E : XK)
    (hr : Room 0 (A.deeper (PyProof.Rows.envOfC "Heights.alike" (C8.fnScope s_H_alike) s.heap.objs.size f cdv))) :
    PSs (cxOf C8.CX0 P w K mg base N_H_alike "Heights.alike" (C8.fnScope s_H_alike) f cdv A outer s H E).nox (C8.fnBody s_H_alike) (t_H_alike P w C K) :=
  (pss_cons (ps_ret (pe_bmK PySem.F.slot_dict_get PySem.F.type_dict_get (mt_getK (Room.u64 hr)) (pe_fld (pv 0) (by rfl)) (pa_cons (pe_tup (pa_cons (pe_ix ix_tup (pv 1) pe_int (fun _ _ => rfl)) (pa_cons (pe_ix ix_tup (pv 1) pe_int (fun _ _ => rfl)) pa_nil))) (pa_cons (pe_lst pa_nil) pa_nil))))
  pss_nil)
theorem c_H_alike (T : Top K mg) (U : TopH K mg C) : C8.Met P w K mg base 1 C "alike" (sp_H_alike P w C) [] := by
  refine met_of U.cls U.alike sc_H_alike (t_H_alike P w C K) (fun zs z h => ?_) (fun f cdv A outer s H E hr => d_H_alike T U f cdv A outer s H E hr) (fun dr B E zs z hp hB hR hN => ?_)
  · obtain ⟨_, _, _, rfl, _⟩ := h; rfl
  obtain ⟨f, n, s, rfl, rfl⟩ := hp
  exact w_ret hB (ev_getH (k := hkey s) U rfl (ev_tup (ead_cons (ev_op (ev_var (d := s.enc) rfl) ev_int (rr_ixT at0)) (ead_cons (ev_op (ev_var (d := s.enc) rfl) ev_int (rr_ixT at2)) ead_nil)) (by nested_key)) (EvN.ev (en_lst ead_nil (by nested_key)))) hR
/-! Heights.covers -/
abbrev s_H_covers : Stmt := hsub 2
abbrev N_H_covers : List Str := ["self", "stand", "some", "other"]
theorem nd_H_covers : N_H_covers.Nodup := by decide +kernel
theorem sc_H_covers : C8.scC N_H_covers ["self", "stand"] (C8.fnScope s_H_covers) = true := by decide +kernel
def t_H_covers (P : Program) (w : World) (C : Addr) (K : PySem.W.Frag) : TS :=
  (tSeq (tAsg (tMeth C "alike" (sp_H_alike P w C) [] C8.E0 (tVar 0) (tCons (tVar 1) tNil)) (gName 2))
  (tSeq (tRet (tOrV (tOp (rInD K) (tVar 1) (tVar 2)) (tCB (rAny K) (tCons (tLc (iList K (tVar 2)) (gName 3) tYes (tCall sp_lies_under [] C8.E0 (tCons (tVar 1) (tCons (tVar 3) tNil))) [3]) tNil))))
  tNext))
theorem d_H_covers {P : Program} {w : World} {K : PySem.W.Frag} {mg : Str → Option Value} {base : Heap} (T : Top K mg) {C : Addr} (U : TopH K mg C) (f : Addr) (cdv : Value) (A : Around) (outer : List Env) (s : Shared) (H : Hp) (E : XK)
    (hr : Room 1 (A.deeper (PyProof.Rows.envOfC "Heights.covers" (C8.fnScope s_H_covers) s.heap.objs.size f cdv))) :
    PSs (cxOf C8.CX0 P w K mg base N_H_covers "Heights.covers" (C8.fnScope s_H_covers) f cdv A outer s H E).nox (C8.fnBody s_H_covers) (t_H_covers P w C K) :=
  (pss_cons (ps_set (i := 2) nd_H_covers rfl (by first | exact Or.inl rfl | exact Or.inr rfl) (C8.pe_mt (c_H_alike T U) hr (by decide) (pv 0) (pa_cons (pv 1) pa_nil)))
  (pss_cons (ps_ret (pe_or (pe_cmpR (op_inD (Room.u65 hr)) (pv 1) (pv 2) (by rfl)) (pe_one (pe_callB (cr_any rfl) (by rfl) T.n_any bt_any (pa_cons (pe_lc (own := [("other", 3)]) (g := gName 3) rfl nd_H_covers (pi_list (pv 2)) (blkOk_by (N := N_H_covers) (sc := C8.fnScope s_H_covers) (by decide +kernel)) (fun _ _ _ _ _ => pg_name (i := 3) nd_H_covers rfl (by first | exact Or.inl rfl | exact Or.inr rfl)) (fun _ _ _ _ _ => pts_nil) (fun _ _ _ _ _ => (C8.pe_c (c_lies_under T) hr (by decide) rfl (pa_cons (pv 1) (pa_cons (pv 3) pa_nil))))) pa_nil)))))
  pss_nil))
theorem c_H_covers (T : Top K mg) (U : TopH K mg C) : C8.Met P w K mg base 2 C "covers" (sp_H_covers P w C) [] := by
  refine met_of U.cls U.covers sc_H_covers (t_H_covers P w C K) (fun zs z h => ?_) (fun f cdv A outer s H E hr => d_H_covers T U f cdv A outer s H E hr) (fun dr B E zs z hp hB hR hN => ?_)
  · obtain ⟨_, _, _, rfl, _⟩ := h; rfl
  obtain ⟨f, n, s, rfl, hc, rfl⟩ := hp
  refine w_asgV (f := f) (n := n) (k := hkey s) (P := P) (w := w) (C := C) hB (e_H_alike (ev_varV rfl) (ea_cons (ev_var rfl) ea_nil)) (fun hn => ?_) rfl
  refine w_open (i := 2) rfl fun q nq => ?_
  have hn2 := hc.n
  refine w_ret hB (Ev.is (ev_orV (ev_op (ev_var (d := s.enc) rfl) (ev_varL (p := q) rfl) (rr_inD ((sh_stand _).ok (by decide)) (shaped_ls _))) fun _ => (ev_cb (ea_cons (EvN.ev (EvN.is (en_lcL (f (hkey s)) Stand.enc (fun _ => true) (fun o => .bool (underB s o)) (ev_varL (p := q) rfl) (by omega) (by simp) (fun a ha => et_yes) (fun o ho hf => e_lies_under (ea_cons (ev_var rfl) (ea_cons (ev_var rfl) ea_nil)) (hc.all o ho).1.symm hc.wl (hc.all o ho).2)) (show _ = ((f (hkey s)).map (underB s)).map PyData.bool by rw [filt_true, List.map_map]; rfl))) ea_nil) rc_any)) ?_) hR
  rw [any_st, List.any_map]
  rfl
/-! Heights.add -/
abbrev s_H_add : Stmt := hsub 3
abbrev N_H_add : List Str := ["self", "stand", "some", "other"]
theorem nd_H_add : N_H_add.Nodup := by decide +kernel
theorem sc_H_add : C8.scC N_H_add ["self", "stand"] (C8.fnScope s_H_add) = true := by decide +kernel
def t_H_add (P : Program) (w : World) (C : Addr) (K : PySem.W.Frag) : TS :=
  (tSeq (tIfS (tNot (tB (tMeth C "covers" (sp_H_covers P w C) [] C8.E0 (tVar 0) (tCons (tVar 1) tNil)))) (tSeq (tAsg (tLc (iList K (tMeth C "alike" (sp_H_alike P w C) [] C8.E0 (tVar 0) (tCons (tVar 1) tNil))) (gName 3) (tNot (tB (tCall sp_lies_under [] C8.E0 (tCons (tVar 3) (tCons (tVar 1) tNil))))) (tVar 3) [3]) (gName 2))
  (tSeq (tAsg (tOp rCat (tVar 2) (tLst (tCons (tVar 1) tNil))) (gSub (tFld K (tVar 0) "rows") (tTup (tCons (tOp (rIxT K) (tVar 1) (tC (.int 0))) (tCons (tOp (rIxT K) (tVar 1) (tC (.int 2))) tNil))) (rSetK P w)))
  tNext)) tNext)
  tNext)
theorem d_H_add {P : Program} {w : World} {K : PySem.W.Frag} {mg : Str → Option Value} {base : Heap} (T : Top K mg) {C : Addr} (U : TopH K mg C) (f : Addr) (cdv : Value) (A : Around) (outer : List Env) (s : Shared) (H : Hp) (E : XK)
    (hr : Room 2 (A.deeper (PyProof.Rows.envOfC "Heights.add" (C8.fnScope s_H_add) s.heap.objs.size f cdv))) :
    PSs (cxOf C8.CX0 P w K mg base N_H_add "Heights.add" (C8.fnScope s_H_add) f cdv A outer s H E).nox (C8.fnBody s_H_add) (t_H_add P w C K) :=
  (pss_cons (ps_if (pt_not (pt_val (C8.pe_mt (c_H_covers T U) hr (by decide) (pv 0) (pa_cons (pv 1) pa_nil)))) (pss_cons (by first | exact ps_setLc (i := 2) (own := [("other", 3)]) (g := gName 3) rfl nd_H_add rfl rfl (sw_true rfl rfl rfl (by decide +kernel)) (pi_list (C8.pe_mt (c_H_alike T U) hr (by decide) (pv 0) (pa_cons (pv 1) pa_nil))) (blkOk_by (N := N_H_add) (sc := C8.fnScope s_H_add) (by decide +kernel)) (fun _ _ _ _ _ => pg_name (i := 3) nd_H_add rfl (by first | exact Or.inl rfl | exact Or.inr rfl)) (fun _ _ _ _ _ => pts_one (pt_not (pt_val (C8.pe_c (c_lies_under T) hr (by decide) rfl (pa_cons (pv 3) (pa_cons (pv 1) pa_nil)))))) (fun _ _ _ _ _ => (pv 3)) | exact ps_set (i := 2) nd_H_add rfl (by first | exact Or.inl rfl | exact Or.inr rfl) (pe_lc (own := [("other", 3)]) (g := gName 3) rfl nd_H_add (pi_list (C8.pe_mt (c_H_alike T U) hr (by decide) (pv 0) (pa_cons (pv 1) pa_nil))) (blkOk_by (N := N_H_add) (sc := C8.fnScope s_H_add) (by decide +kernel)) (fun _ _ _ _ _ => pg_name (i := 3) nd_H_add rfl (by first | exact Or.inl rfl | exact Or.inr rfl)) (fun _ _ _ _ _ => pts_one (pt_not (pt_val (C8.pe_c (c_lies_under T) hr (by decide) rfl (pa_cons (pv 3) (pa_cons (pv 1) pa_nil)))))) (fun _ _ _ _ _ => (pv 3))))
  (pss_cons (ps_asg (pe_op op_cat (pv 2) (pe_lst (pa_cons (pv 1) pa_nil))) (pg_sub (pe_fld (pv 0) (by rfl)) (pe_tup (pa_cons (pe_ix ix_tup (pv 1) pe_int (fun _ _ => rfl)) (pa_cons (pe_ix ix_tup (pv 1) pe_int (fun _ _ => rfl)) pa_nil))) (set_K (Room.u64 hr))))
  pss_nil)) pss_nil)
  pss_nil)
theorem c_H_add (T : Top K mg) (U : TopH K mg C) : C8.Met P w K mg base 3 C "add" (sp_H_add P w C) [] := by
  obtain ⟨fa, fd, M, F, b⟩ := U.add.ex
  refine C8.met0 U.cls M F b (C8.fnScope_by sc_H_add) (fun vs H Q E h => ?_) (fun cdv A outer s0 H vs Q E hroom h => ?_)
  · obtain ⟨_, _, _, _, _, _, _, _, _, rfl, _⟩ := h; rfl
  obtain ⟨dr, a, d, v, ts, n, f, s, B0, rfl, hv, j, na, hg, hr, hc, hB0, hm0, b0, q⟩ := h
  refine ⟨t_H_add P w C K, d_H_add T U fa cdv A outer s0 H E hroom, ?_⟩
  have hS : Sl dr H (L2.start N_H_add [.ref a, v]) [.g a (hG P w C d ts), .d s.enc, .x, .x] := by
    intro i t e
    match i, e with
    | 0, e => cases e; exact ⟨_, rfl, rfl, na, hg⟩
    | 1, e => cases e; exact ⟨_, rfl, v, rfl, hv⟩
    | 2, e => cases e; exact ⟨_, rfl, trivial⟩
    | 3, e => cases e; exact ⟨_, rfl, trivial⟩
    | i + 4, e => simp at e
  have hB : BOk dr (fun H' => B0 H' ∧ Tx H H') := hB0.tx
  have hm : Mu (fun H' => B0 H' ∧ Tx H H') d := hm0.tx
  have hW : W dr (fun H' => B0 H' ∧ Tx H H') { nx := fun _ H' => Q .non H', rt := Q } (t_H_add P w C K) [.g a (hG P w C d ts), .d s.enc, .x, .x] := by
    have hn2 := hc.n
    have hfl := hr.fl (hkey s)
    have htl := hr.len
    refine w_if hB (et_not (et_B (e_H_covers (f := f) (n := n) (ev_varH (a := a) (d := d) (ts := ts) rfl hr) (ea_cons (ev_var rfl) ea_nil) hc))) (fun hb => ?_) (fun hb => ?_)
    · have hcv : covB f s = false := by simpa using hb
      refine w_asgN hB (en_lcL (f (hkey s)) Stand.enc (fun o => !underB o s) Stand.enc (e_H_alike (f := f) (n := n) (s := s) (ev_varH (a := a) (d := d) (ts := ts) rfl hr) (ea_cons (ev_var rfl) ea_nil)) (by omega) (by simp) (fun o ho => et_not (et_B (e_lies_under (ea_cons (ev_var rfl) (ea_cons (ev_var rfl) ea_nil)) (hc.all o ho).1 (by have := (hc.all o ho).1; have := hc.wl; omega) hc.ls))) (fun o ho hf => ev_var rfl)) fun p np mp fr => ?_
      have hpd : p ≠ d := (fr_getG (i := 0) fr rfl).2.1
      have hfl2 : ((f (hkey s)).filter fun o => !underB o s).length ≤ n := Nat.le_trans (List.length_filter_le _ _) hfl
      refine w_setKH (k := hkey s) U hB rfl hm (EvN.is (en_op (ev_varL rfl) (EvN.ev (en_lst (ds := [s.enc]) (ead_cons (ev_var rfl) ead_nil) (by nested_key))) (rn_cat (by simp only [small, List.length_map, List.length_cons, List.length_nil]; omega))) (show _ = (((f (hkey s)).filter fun o => !underB o s) ++ [s]).map Stand.enc by rw [List.map_append]; rfl)) (ev_tup (ead_cons (ev_op (ev_var (d := s.enc) rfl) ev_int (rr_ixT at0)) (ead_cons (ev_op (ev_var (d := s.enc) rfl) ev_int (rr_ixT at2)) ead_nil)) (by nested_key)) (by omega) ⟨trivial, trivial, hpd, trivial, trivial⟩ fun ka q' => ?_
      refine w_nx ?_
      intro σ' H' s' j' b'
      obtain ⟨_, _, g⟩ := slot_g (i := 0) s' rfl
      refine q H' _ b'.1 j' b'.2 g ?_
      unfold addF
      rw [if_neg (by rw [hcv]; exact Bool.false_ne_true)]
      exact hr.set (by simp only [List.length_append, List.length_singleton]; omega) ka _
    · have hcv : covB f s = true := by simpa using hb
      refine w_nx ?_
      intro σ' H' s' j' b'
      obtain ⟨_, _, g⟩ := slot_g (i := 0) s' rfl
      refine q H' _ b'.1 j' b'.2 g ?_
      unfold addF
      rw [if_pos hcv]
      exact hr.mono (by omega)
  exact hW _ H hS j ⟨b0, Tx.refl H⟩
end
end Ed
end
section
set_option maxHeartbeats 4000000
/-! M2: the program's reading of an on-answer is the law's. -/
namespace Ed
theorem all_of_dayB {n : Nat} {h : Int} {d : List Int} (hd : dayB n d = true) (hl : (d.length : Int) ≤ h) : d ∈ allDays n h := by
  rw [mem_allDays]
  simp only [dayB, Bool.and_eq_true, decide_eq_true_eq] at hd
  obtain ⟨h1, h2⟩ := hd
  match d, h1, h2, hl with
  | [], _, _, _ => exact Or.inl rfl
  | [i], h1, _, _ =>
    simp only [riseB, wholeB, Bool.and_eq_true, decide_eq_true_eq] at h1
    exact Or.inr (Or.inl ⟨i, by omega, by omega, rfl⟩)
  | [i, j], h1, _, hl =>
    simp only [riseB, wholeB, Bool.and_eq_true, decide_eq_true_eq] at h1
    exact Or.inr (Or.inr ⟨by simp at hl; omega, i, j, by omega, by omega, by omega, rfl⟩)
  | _ :: _ :: _ :: _, _, h2, _ => simp at h2; omega
theorem dayB_of_all {n : Nat} {h : Int} {d : List Int} (hd : d ∈ allDays n h) : dayB n d = true := by
  rw [mem_allDays] at hd
  simp only [dayB, Bool.and_eq_true, decide_eq_true_eq]
  rcases hd with rfl | ⟨i, h1, h2, rfl⟩ | ⟨h0, i, j, h1, h2, h3, rfl⟩
  · exact ⟨rfl, by decide⟩
  · exact ⟨by simp only [riseB, wholeB, Bool.and_eq_true, decide_eq_true_eq, and_true]; omega, by simp⟩
  · exact ⟨by simp only [riseB, wholeB, Bool.and_eq_true, decide_eq_true_eq, and_true]; omega, by simp⟩
theorem canB_len {t : Task} {s : Stand} {d : List Int} (h : canB t s d = true) : (d.length : Int) ≤ t.hands := by
  simp only [canB, Bool.and_eq_true, Bool.not_eq_true', Bool.or_eq_false_iff, decide_eq_false_iff_not] at h
  omega
theorem stepL_eq {t : Task} {s : Stand} {d : List Int} (ht : TaskOk t) (hs : SW t s) : stepL t s d = if dayB t.num.length d && canB t s d then nextS t s d else none := by
  have e : d ∈ daysL t s ↔ (dayB t.num.length d && canB t s d) = true := by
    rw [days_mem ht hs, laterDays, List.mem_filter, Bool.and_eq_true]
    exact ⟨fun ⟨a, b⟩ => ⟨dayB_of_all a, b⟩, fun ⟨a, b⟩ => ⟨all_of_dayB a (canB_len b), b⟩⟩
  unfold stepL
  by_cases h : (dayB t.num.length d && canB t s d) = true
  · rw [if_pos h, if_pos (e.mpr h)]
  · rw [if_neg h, if_neg fun z => h (e.mp z)]
theorem walkL_none (t : Task) : ∀ ds : List (List Int), walkL t none ds = none
  | [] => rfl
  | d :: ds => by rw [walkL]; exact walkL_none t ds
theorem walkL_app (t : Task) : ∀ (o : Option Stand) (ds es : List (List Int)), walkL t (walkL t o ds) es = walkL t o (ds ++ es)
  | o, [], es => rfl
  | o, d :: ds, es => by rw [walkL, List.cons_append, walkL]; exact walkL_app t _ ds es
theorem ledF_eq {t : Task} (ht : TaskOk t) : ∀ {ds : List (List Int)} {s : Stand}, SW t s → (∀ d ∈ ds, dayB t.num.length d = true) → ledF t s ds = walkL t (some s) ds
  | [], s, hs, _ => rfl
  | d :: ds, s, hs, hd => by
    have h1 := hd d (by simp)
    have hl := dayB_len h1
    rw [ledF, walkL, Option.bind_some, stepL_eq ht hs, h1, Bool.true_and]
    by_cases h : canB t s d = true
    · rw [if_pos h, if_pos h]
      cases e : nextS t s d with
      | none => rw [walkL_none]; rfl
      | some s' => exact ledF_eq ht (nextS_sw ht (by omega) e) fun x hx => hd x (List.mem_cons_of_mem _ hx)
    · rw [if_neg h, if_neg h, walkL_none]
theorem walkL_bad {t : Task} (ht : TaskOk t) : ∀ {ds : List (List Int)} {s s' : Stand}, SW t s → (∀ d ∈ ds, d.length ≤ 1000) → walkL t (some s) ds = some s' → ∀ d ∈ ds, dayB t.num.length d = true
  | [], s, s', hs, _, _ => fun d h => nomatch h
  | d :: ds, s, s', hs, hd, h => by
    rw [walkL, Option.bind_some] at h
    cases e : stepL t s d with
    | none => rw [e, walkL_none] at h; cases h
    | some s1 =>
      rw [e] at h
      have hs1 := stepL_sw ht (hd d (by simp)) e
      rw [stepL_eq ht hs] at e
      intro x hx
      rcases List.mem_cons.mp hx with rfl | hx
      · split at e
        · rename_i hb
          rw [Bool.and_eq_true] at hb
          exact hb.1
        · cases e
      · exact walkL_bad ht hs1 (fun y hy => hd y (List.mem_cons_of_mem _ hy)) h x hx
/-- the two readings of an on-answer -/
theorem on_same {t : Task} {s : Stand} {l r : List (List Int)} (ht : TaskOk t) (hs : SW t s) (hl : l.length ≤ 1000) (hr1 : 1 ≤ r.length) (hr : r.length ≤ 1000) (hdl : ∀ d ∈ l, d.length ≤ 2) (hdr : ∀ d ∈ r, d.length ≤ 2) :
    (onF t l r && onH t s l r) = onLw t s l r := by
  have hlr : ∀ d ∈ l ++ r, d.length ≤ 1000 := fun d hd => by
    rcases List.mem_append.mp hd with h | h
    · have := hdl d h; omega
    · have := hdr d h; omega
  by_cases hf : onF t l r = true
  · rw [hf, Bool.true_and]
    simp only [onF, ringB, daysB, Bool.and_eq_true, List.all_eq_true] at hf
    have hb : ∀ d ∈ l ++ r, dayB t.num.length d = true := fun d hd => by
      rcases List.mem_append.mp hd with h | h
      · exact hf.1.2 d h
      · exact hf.2.1.2 d h
    unfold onH onLw
    rw [walkL_app, ledF_eq ht hs hb]
    cases e : walkL t (some s) (l ++ r) with
    | none => rfl
    | some one =>
      have h1 : SW t one := walkL_sw ht (fun x hx => by cases hx; exact hs) hlr e
      simp only
      rw [ledF_eq ht h1 hf.2.1.2]
      all_goals (cases walkL t (some one) r <;> rfl)
  · rw [Bool.eq_false_iff.mpr hf, Bool.false_and]
    unfold onLw
    rw [walkL_app]
    cases e : walkL t (some s) (l ++ r) with
    | none => rfl
    | some one =>
      exfalso
      have hb := walkL_bad ht hs hlr e
      apply hf
      simp only [onF, ringB, daysB, Bool.and_eq_true, List.all_eq_true, decide_eq_true_eq]
      exact ⟨⟨by omega, fun d hd => hb d (List.mem_append_left _ hd)⟩, ⟨by omega, fun d hd => hb d (List.mem_append_right _ hd)⟩, by omega⟩
end Ed
end
section
set_option maxHeartbeats 4000000
/-! M3: the program's reading of a walk-answer is the law's. -/
namespace Ed
/-- runs_out -/
def runsB (t : Task) (f : Hk → List Stand) (s : Stand) : Bool := (laterDays t s).all fun d => match nextS t s d with
  | none => true
  | some l => covB f l
theorem runsB_eq {t : Task} {st : List Stand} {i : Nat} {f : Hk → List Stand} {s : Stand} (ht : TaskOk t) (hst : ∀ x ∈ st, SW t x) (h : HtOk t (st.take i) f) (hi : st[i]? = some s) : runsB t f s = rowsOk t st i := by
  have hs : SW t s := hst s (List.mem_of_getElem? hi)
  have est : stAt st i = s := by unfold stAt; simp [hi]
  have hw : ∀ o ∈ st.take i, o.wt.length = t.num.length := fun o ho => (hst o (List.mem_of_mem_take ho)).wl
  rw [Bool.eq_iff_iff, runsB, rowsOk, est, List.all_eq_true, List.all_eq_true]
  have key : ∀ d ∈ laterDays t s, (match nextS t s d with
      | none => true
      | some l => covB f l) = rowOk t st i d := fun d hd => by
    have hl := later_len hd
    unfold rowOk
    rw [est]
    cases e : nextS t s d with
    | none => rfl
    | some l => exact covB_iff h hw (nextS_sw ht (by omega) e).wl
  constructor
  · intro hh d hd
    have hd' := (days_mem ht hs).mp hd
    rw [← key d hd']; exact hh d hd'
  · intro hh d hd
    rw [key d hd]; exact hh d ((days_mem ht hs).mpr hd)
theorem walkHL_no {t : Task} {s : Stand} {st : List Stand} {i : Nat} (hi : i < st.length) (h : rowsOk t st i = false) : walkHL t s st = false := by
  unfold walkHL
  rw [Bool.and_eq_false_iff]
  left
  rw [Bool.eq_false_iff]
  intro hh
  rw [List.all_eq_true] at hh
  rw [hh i (List.mem_range.mpr hi)] at h
  cases h
theorem walkHL_yes {t : Task} {s : Stand} {st : List Stand} {f : Hk → List Stand} (hst : ∀ x ∈ st, SW t x) (hs : SW t s) (h : ∀ i, i < st.length → rowsOk t st i = true) (hf : HtOk t st f) : walkHL t s st = covB f s := by
  unfold walkHL
  rw [List.all_eq_true.mpr fun i hi => h i (List.mem_range.mp hi), Bool.true_and, covB_iff hf (fun o ho => (hst o ho).wl) hs.wl]
end Ed
end
section
set_option maxHeartbeats 4000000
/-! M4: lies_under is a simulation; a walk that holds is dead. -/
namespace Ed
theorem underB_le {a b : Stand} (hl : a.wt.length = b.wt.length) (h : underB a b = true) : ∀ i, a.wt.getD i 0 ≤ b.wt.getD i 0 := by
  simp only [underB, Bool.and_eq_true] at h
  have h1 := (leB_iff hl).mp h.2.1
  intro i
  by_cases hi : i < a.wt.length
  · exact h1 i hi
  · rw [List.getD_eq_getElem?_getD, List.getD_eq_getElem?_getD, List.getElem?_eq_none (by omega), List.getElem?_eq_none (by omega)]; exact Int.le_refl _
theorem sim {t : Task} {a b a' : Stand} {d : List Int} (ht : TaskOk t) (ha : StandOk t a) (hb : SW t b) (hu : underB a b = true) (hc : canB t a d = true) (hn : nextS t a d = some a') : canB t b d = true ∧ ∃ b', nextS t b d = some b' ∧ underB a' b' = true := by
  have hl : a.wt.length = b.wt.length := by rw [ha.wl, hb.wl]
  have hle := underB_le hl hu
  have hu' := hu
  simp only [underB, Bool.and_eq_true, decide_eq_true_eq, List.all_eq_true] at hu'
  obtain ⟨⟨hp, hz⟩, _, hls⟩ := hu'
  have hw : ∀ i : Int, waitF t a d i ≤ waitF t b d i := fun i => by
    unfold waitF
    have e : doneB t a d i = doneB t b d i := by unfold doneB; rw [hz]
    rw [e]
    split
    · omega
    · have := hle i.toNat; omega
  have hpos : ∀ i : Int, 0 ≤ i → i < t.num.length → 0 ≤ waitF t a d i := fun i h0 h1 => by
    have e1 : a.wt[i.toNat]? = some (a.wt[i.toNat]'(by rw [ha.wl]; omega)) := List.getElem?_eq_getElem _
    have e2 : t.num[i.toNat]? = some (t.num[i.toNat]'(by omega)) := List.getElem?_eq_getElem _
    have h := ha.wt _ _ _ e1 e2
    unfold waitF
    split
    · rw [List.getD_eq_getElem?_getD, e2, Option.getD_some]; omega
    · rw [List.getD_eq_getElem?_getD, e1, Option.getD_some]; omega
  refine ⟨?_, ?_⟩
  · have ht2 : tiedB t.tied d b.ls = true → tiedB t.tied d a.ls = true := fun h => by
      simp only [tiedB, List.any_eq_true, Bool.or_eq_true, Bool.and_eq_true, decide_eq_true_eq] at h ⊢
      obtain ⟨p, hp, h⟩ := h
      have hls' : ∀ x ∈ b.ls, x ∈ a.ls := fun x hx => by simpa using hls x hx
      exact ⟨p, hp, h.imp (fun h => ⟨h.1, hls' _ h.2⟩) fun h => ⟨h.1, hls' _ h.2⟩⟩
    unfold canB at hc ⊢
    rw [← hp, ← hz]
    rw [Bool.and_eq_true, Bool.and_eq_true] at hc ⊢
    refine ⟨hc.1, hc.2.1, ?_⟩
    have h3 := hc.2.2
    cases e : tiedB t.tied d b.ls with
    | false => rfl
    | true => rw [ht2 e] at h3; cases h3
  · unfold nextS at hn ⊢
    split at hn
    · cases hn
    · rename_i h0
      cases hn
      have h0' : (0 : Int) ∉ waitsF t b d := fun hm => by
        obtain ⟨i, hi, e⟩ := List.mem_map.mp hm
        obtain ⟨i0, i1⟩ := mem_upto.mp hi
        have h1 := hw i
        have h2 := hpos i i0 (by omega)
        exact h0 (List.mem_map.mpr ⟨i, hi, by omega⟩)
      rw [if_neg h0']
      refine ⟨_, rfl, ?_⟩
      simp only [underB, Bool.and_eq_true, decide_eq_true_eq, List.all_eq_true]
      refine ⟨⟨by rw [hp], by rw [hz]⟩, ?_, fun i hi => hi⟩
      rw [leB_iff (by simp [waitsF])]
      intro i hi
      simp only [waitsF, List.length_map] at hi
      simp only [waitsF, List.getD_eq_getElem?_getD, List.getElem?_map]
      rw [List.getElem?_eq_getElem hi]
      exact hw _
theorem succ_mem {t : Task} {s x : Stand} (ht : TaskOk t) (hs : SW t s) : x ∈ succ t s ↔ ∃ d, d ∈ laterDays t s ∧ nextS t s d = some x := by
  unfold succ
  rw [List.mem_filterMap]
  exact ⟨fun ⟨d, h1, h2⟩ => ⟨d, (days_mem ht hs).mp h1, h2⟩, fun ⟨d, h1, h2⟩ => ⟨d, (days_mem ht hs).mpr h1, h2⟩⟩
/-- a walk that holds: the stand is dead -/
theorem walk_dead {t : Task} {s0 : Stand} {F st : List Stand} (ht : TaskOk t) (hd : DeadOk t s0 F) (hst : ∀ x ∈ st, SW t x) (h : walkHL t s0 st = true) : s0 ∈ F := by
  obtain ⟨keys, k0, kok, kne, _⟩ := hd.ex
  unfold walkHL at h
  rw [Bool.and_eq_true, List.all_eq_true, List.any_eq_true] at h
  obtain ⟨hr, o, ho, hu⟩ := h
  have key : ∀ (i : Nat) (k o : Stand), st[i]? = some o → k ∈ keys → k ∉ F → underB k o = true → False := by
    intro i
    induction i using Nat.strongRecOn with
    | _ i ih =>
      intro k o hi hk hkF hu
      obtain ⟨x, hx, hxk, hxF⟩ := kne k hk hkF
      have hkS := kok k hk
      have hoS := hst o (List.mem_of_getElem? hi)
      obtain ⟨d, hd1, hd2⟩ := (succ_mem ht (hkS.sw ht)).mp hx
      obtain ⟨c1, l, c2, c3⟩ := sim ht hkS hoS hu (List.mem_filter.mp hd1).2 hd2
      have hd3 : d ∈ laterDays t o := List.mem_filter.mpr ⟨(List.mem_filter.mp hd1).1, c1⟩
      have hlt : i < st.length := (List.getElem?_eq_some_iff.mp hi).1
      have hrow := hr i (List.mem_range.mpr hlt)
      have est : stAt st i = o := by unfold stAt; simp [hi]
      unfold rowsOk at hrow
      rw [List.all_eq_true, est] at hrow
      have h1 := hrow d ((days_mem ht hoS).mpr hd3)
      unfold rowOk at h1
      rw [est, c2] at h1
      simp only [List.any_eq_true] at h1
      obtain ⟨q, hq1, hq2⟩ := h1
      obtain ⟨j, hj⟩ := List.getElem?_of_mem hq1
      rw [List.getElem?_take] at hj
      split at hj
      · rename_i hji
        have hqS := hst q (List.mem_of_getElem? hj)
        have hlS := nextS_sw ht (by have := later_len hd3; omega) c2
        exact ih j hji x q hj hxk hxF (underB_trans (by rw [(kok x hxk).wl, hlS.wl]) (by rw [hlS.wl, hqS.wl]) c3 hq2)
      · cases hj
  obtain ⟨i, hi⟩ := List.getElem?_of_mem ho
  exact Classical.byContradiction fun hn => key i s0 o hi k0 hn hu
end Ed
end
section
set_option maxHeartbeats 4000000
/-! M5: an on-answer that holds: the stand is not dead. -/
namespace Ed
theorem stepL_some {t : Task} {s s' : Stand} {d : List Int} (h : stepL t s d = some s') : d ∈ daysL t s ∧ nextS t s d = some s' := by
  unfold stepL at h
  split at h
  · rename_i h1; exact ⟨h1, h⟩
  · cases h
theorem walk_in {t : Task} {F : List Stand} {rk : Stand → Nat} (ht : TaskL t) (hF : ∀ s ∈ F, ∀ x ∈ succ t s, x ∈ F ∧ rk x < rk s) : ∀ {ds : List (List Int)} {a c : Stand}, a ∈ F → StandOk t a → walkL t (some a) ds = some c → c ∈ F ∧ StandOk t c ∧ rk c + ds.length ≤ rk a
  | [], a, c, h1, h2, h => by cases h; exact ⟨h1, h2, by simp⟩
  | d :: ds, a, c, h1, h2, h => by
    rw [walkL, Option.bind_some] at h
    cases e : stepL t a d with
    | none => rw [e, walkL_none] at h; cases h
    | some b =>
      rw [e] at h
      obtain ⟨e1, e2⟩ := stepL_some e
      have hb : b ∈ succ t a := List.mem_filterMap.mpr ⟨d, e1, e2⟩
      obtain ⟨f1, f2⟩ := hF a h1 b hb
      obtain ⟨g1, g2, g3⟩ := walk_in ht hF f1 (nextS_ok ht h2 e1 e2) h
      exact ⟨g1, g2, by rw [List.length_cons]; omega⟩
theorem sim_walk {t : Task} (ht : TaskL t) (ht' : TaskOk t) : ∀ {ds : List (List Int)} {a b c : Stand}, StandOk t a → StandOk t b → underB a b = true → walkL t (some a) ds = some c → ∃ c', walkL t (some b) ds = some c' ∧ underB c c' = true
  | [], a, b, c, _, _, hu, h => by cases h; exact ⟨b, rfl, hu⟩
  | d :: ds, a, b, c, ha, hb, hu, h => by
    rw [walkL, Option.bind_some] at h
    cases e : stepL t a d with
    | none => rw [e, walkL_none] at h; cases h
    | some a' =>
      rw [e] at h
      obtain ⟨e1, e2⟩ := stepL_some e
      have hl := (days_mem ht' (ha.sw ht')).mp e1
      obtain ⟨c1, b', c2, c3⟩ := sim ht' ha (hb.sw ht') hu (List.mem_filter.mp hl).2 e2
      have hd : d ∈ daysL t b := (days_mem ht' (hb.sw ht')).mpr (List.mem_filter.mpr ⟨(List.mem_filter.mp hl).1, c1⟩)
      have eb : stepL t b d = some b' := by unfold stepL; rw [if_pos hd, c2]
      obtain ⟨c', w1, w2⟩ := sim_walk ht ht' (nextS_ok ht ha e1 e2) (nextS_ok ht hb hd c2) c3 h
      exact ⟨c', by rw [walkL, Option.bind_some, eb]; exact w1, w2⟩
theorem no_ring {t : Task} {F : List Stand} {rk : Stand → Nat} (ht : TaskL t) (ht' : TaskOk t) (hF : ∀ s ∈ F, ∀ x ∈ succ t s, x ∈ F ∧ rk x < rk s) {r : List (List Int)} (hr : 1 ≤ r.length) : ∀ (n : Nat) (a c : Stand), rk a = n → a ∈ F → StandOk t a → walkL t (some a) r = some c → underB a c = true → False := by
  intro n
  induction n using Nat.strongRecOn with
  | _ n ih =>
    intro a c hn ha hs hw hu
    obtain ⟨g1, g2, g3⟩ := walk_in ht hF ha hs hw
    obtain ⟨c', w1, w2⟩ := sim_walk ht ht' hs g2 hu hw
    exact ih (rk c) (by omega) c c' rfl g1 g2 w1 w2
theorem on_live {t : Task} {s0 : Stand} {F : List Stand} {l r : List (List Int)} (ht : TaskL t) (ht' : TaskOk t) (hd : DeadOk t s0 F) (hr : 1 ≤ r.length) (h : onLw t s0 l r = true) : s0 ∉ F := by
  intro hin
  obtain ⟨keys, k0, kok, _, _⟩ := hd.ex
  obtain ⟨rk, hF⟩ := hd.rk
  unfold onLw at h
  rw [walkL_app] at h
  cases e : walkL t (some s0) (l ++ r) with
  | none => rw [e] at h; cases h
  | some one =>
    rw [e] at h
    simp only at h
    obtain ⟨g1, g2, g3⟩ := walk_in ht hF hin (kok s0 k0) e
    cases e2 : walkL t (some one) r with
    | none => rw [e2] at h; cases h
    | some two =>
      rw [e2] at h
      exact no_ring ht ht' hF hr (rk one) one two rfl g1 g2 e2 h
end Ed
end
section
set_option maxHeartbeats 4000000
/-! M6: the program's count is the law's. -/
namespace Ed
theorem oftenF_eq {t : Task} {d : Int} {i : Nat} (ht : TaskOk t) (hd : 0 ≤ d) : oftenF t d i = deedF t d i := by
  have hq : 0 ≤ d / t.num.getD i 0 := by
    apply Int.ediv_nonneg hd
    rw [List.getD_eq_getElem?_getD]
    cases e : t.num[i]? with
    | none => exact Int.le_refl _
    | some n => have := ht.num.2 n (List.mem_of_getElem? e); simp; omega
  unfold oftenF deedF
  by_cases h : (i : Int) ∈ t.long
  · by_cases h2 : 0 < d / t.num.getD i 0
    · simp only [h, h2, decide_true, Bool.and_self, if_true]; omega
    · simp only [h, h2, decide_true, decide_false, Bool.and_false, if_true, Bool.false_eq_true, if_false]; omega
  · simp only [h, decide_false, Bool.false_and, Bool.false_eq_true, if_false]
theorem need_eq {t : Task} {d : Int} (ht : TaskOk t) (hd : 0 ≤ d) : needF t d = deedsL t d := by
  unfold needF deedsL
  congr 1
  exact List.map_congr_left fun i _ => oftenF_eq ht hd
end Ed
end
section
set_option maxHeartbeats 4000000
/-! M7: room. -/
namespace Ed
/-- number of k < n with f (a + k) -/
def cnt (f : Nat → Bool) (a n : Nat) : Nat := ((List.range n).filter fun k => f (a + k)).length
theorem cnt_zero (f : Nat → Bool) (a : Nat) : cnt f a 0 = 0 := rfl
theorem cnt_succ (f : Nat → Bool) (a n : Nat) : cnt f a (n + 1) = cnt f a n + if f (a + n) then 1 else 0 := by
  unfold cnt
  rw [List.range_succ, List.filter_append, List.length_append]
  by_cases h : f (a + n) = true <;> simp [h]
theorem cnt_add (f : Nat → Bool) (a m : Nat) : ∀ n, cnt f a (m + n) = cnt f a m + cnt f (a + m) n
  | 0 => by simp [cnt_zero]
  | n + 1 => by rw [← Nat.add_assoc, cnt_succ, cnt_succ, cnt_add f a m n, Nat.add_assoc a m n]; omega
theorem cnt_shift {f : Nat → Bool} {L : Nat} (hf : ∀ k, f (k + L) = f k) (n : Nat) : ∀ a, cnt f (a + L) n = cnt f a n := by
  intro a
  induction n with
  | zero => rfl
  | succ n ih => rw [cnt_succ, cnt_succ, ih, show a + L + n = (a + n) + L by omega, hf]
theorem cnt_period {f : Nat → Bool} {L : Nat} (hf : ∀ k, f (k + L) = f k) : ∀ a, cnt f a L = cnt f 0 L := by
  intro a
  induction a with
  | zero => rfl
  | succ a ih =>
    have h1 := cnt_add f a 1 L
    have h2 := cnt_add f a L 1
    rw [Nat.add_comm 1 L] at h1
    rw [cnt_shift hf 1 a] at h2
    omega
theorem cnt_full {f : Nat → Bool} {L : Nat} (hf : ∀ k, f (k + L) = f k) (a r : Nat) : ∀ q, cnt f a (L * q + r) = q * cnt f 0 L + cnt f a r
  | 0 => by simp
  | q + 1 => by
    rw [show L * (q + 1) + r = L + (L * q + r) by rw [Nat.mul_add]; omega, cnt_add, cnt_period hf, cnt_shift hf, cnt_full hf a r q, Nat.add_mul]
    omega
def fr (t : Task) (k : Nat) : Bool := decide (t.off.getD (k % t.off.length) 0 = 0)
theorem fr_per (t : Task) (k : Nat) : fr t (k + t.off.length) = fr t k := by unfold fr; rw [Nat.add_mod_right]
theorem free_len {t : Task} {d p : Nat} : (freeL t d p).length = cnt (fr t) p d := by
  unfold freeL cnt upto
  rw [Int.toNat_natCast, List.filter_map, List.length_map]
  congr 1
  apply List.filter_congr
  intro k _
  have e : (((p : Int) + (0 + (k : Int))) % (t.off.length : Int)).toNat = (p + k) % t.off.length := by rw [Int.zero_add, ← Int.natCast_add, ← Int.natCast_emod, Int.toNat_natCast]
  simp only [Function.comp, fr, e]
theorem zeros_cnt {t : Task} : (t.off.filter fun o => decide (o = 0)).length = cnt (fr t) 0 t.off.length := by
  unfold cnt
  have e : t.off = (List.range t.off.length).map fun k => t.off.getD k 0 := by
    apply List.ext_getElem (by simp)
    intro i h1 h2
    simp [List.getD_eq_getElem?_getD, List.getElem?_eq_getElem h1]
  conv => lhs; rw [e]
  rw [List.filter_map, List.length_map]
  congr 1
  apply List.filter_congr
  intro k hk
  rw [List.mem_range] at hk
  simp only [Function.comp, fr, Nat.zero_add, Nat.mod_eq_of_lt hk]
theorem sum_free {t : Task} (ht : TaskOk t) {p : Nat} : ∀ n : Nat, ((List.range n).map (freeF t p)).sum = (cnt (fr t) p n : Int)
  | 0 => rfl
  | n + 1 => by
    rw [sum_succ, sum_free ht n, cnt_succ]
    have hL := ht.off.1
    have e : (((p : Int) + (n : Int)) % (t.off.length : Int)).toNat = (p + n) % t.off.length := by rw [← Int.natCast_add, ← Int.natCast_emod, Int.toNat_natCast]
    unfold freeF fr
    rw [e]
    have hm : (p + n) % t.off.length < t.off.length := Nat.mod_lt _ (by omega)
    have h := ht.off.2.2 _ (List.getElem_mem hm)
    rw [List.getD_eq_getElem?_getD, List.getElem?_eq_getElem hm, Option.getD_some]
    rcases h with h | h <;> rw [h] <;> simp
theorem room_eq {t : Task} (ht : TaskOk t) {d p : Nat} : roomF t d p = t.hands * ((freeL t d p).length : Int) := by
  unfold roomF
  rw [free_len, zeros_cnt, show ((d : Int) % (t.off.length : Int)).toNat = d % t.off.length by omega, sum_free ht]
  congr 1
  have h := cnt_full (fr_per t) p (d % t.off.length) (d / t.off.length)
  rw [Nat.div_add_mod] at h
  rw [h]
  simp
theorem count_eq {t : Task} (ht : TaskOk t) {d p : Int} (h : countP t d p) : countH t d p = countLw t d p := by
  obtain ⟨h1, h2, h3, h4⟩ := h
  obtain ⟨d, rfl⟩ : ∃ n : Nat, d = n := ⟨d.toNat, by omega⟩
  obtain ⟨p, rfl⟩ : ∃ n : Nat, p = n := ⟨p.toNat, by omega⟩
  unfold countH countLw
  rw [room_eq ht, need_eq ht (by omega)]
end Ed
end
section
set_option maxHeartbeats 4000000
namespace Ed
open PySem L2
local macro_rules | `(tactic| nested_key) => `(tactic| first
  | rfl
  | assumption
  | omega
  | exact Nat.le_of_ble_eq_true rfl
  | decide
  | (simp only [List.length_map, small]; omega)
  | (simp [small]; done)
  | (simp only [Vd.sd, setAll, List.set, mutAll, okm, Fr] at *; simp_all; done))

section
variable {P : Program} {w : World} {K : PySem.W.Frag} {mg : Str → Option Value} {base : Heap} {C : Addr} {dr : Option Addr} {δ : List Sd} {ta : TA} {f : Hk → List Stand} {n : Nat}
theorem SW.cv {t : Task} {s : Stand} (ht : TaskOk t) (hs : SW t s) (hn : n ≤ 400000) (hf : ∀ o ∈ f (hkey s), SW t o) : CvOk f n s := by
  have h1 := hs.wl
  have h2 := ht.num.1
  exact ⟨hn, by omega, hs.ls, fun o ho => ⟨by rw [(hf o ho).wl, h1], (hf o ho).ls⟩⟩
/-! runs_out -/
def dayR (t : Task) (f : Hk → List Stand) (s : Stand) (d : List Int) : Bool := match nextS t s d with
  | none => true
  | some l => covB f l
theorem runsB_day (t : Task) (f : Hk → List Stand) (s : Stand) : runsB t f s = (laterDays t s).all (dayR t f s) := rfl
def q_runs_out (P : Program) (w : World) (C : Addr) : List Vd → Vd → Prop := fun x z => ∃ (t : Task) (s : Stand) (f : Hk → List Stand) (n : Nat), x = [.d t.enc, .d s.enc, .g (hV P w C f n)] ∧ TaskOk t ∧ SW t s ∧ n ≤ 400000 ∧ (∀ k, ∀ o ∈ f k, SW t o) ∧ z = .d (.bool (runsB t f s))
abbrev sp_runs_out (P : Program) (w : World) (C : Addr) : Sp := spP (q_runs_out P w C)
theorem e_runs_out {t : Task} {s : Stand} (h : EvA dr ta δ [.d t.enc, .d s.enc, .g (hV P w C f n)]) (ht : TaskOk t) (hs : SW t s) (hn : n ≤ 400000) (hf : ∀ k, ∀ o ∈ f k, SW t o) : Ev dr (tCall (sp_runs_out P w C) [] C8.E0 ta) δ (.d (.bool (runsB t f s))) := ev_call h ⟨_, _, _, _, rfl, ht, hs, hn, hf, rfl⟩
abbrev s_runs_out : Stmt := Hd.top 60
abbrev N_runs_out : List Str := ["task", "stand", "heights", "day", "later"]
theorem nd_runs_out : N_runs_out.Nodup := by decide +kernel
theorem sc_runs_out : C8.scC N_runs_out ["task", "stand", "heights"] (C8.fnScope s_runs_out) = true := by decide +kernel
def t_runs_out (P : Program) (w : World) (C : Addr) (K : PySem.W.Frag) : TS :=
  (tSeq (tFor (iList K (tCall sp_later_days [] C8.E0 (tCons (tVar 0) (tCons (tVar 1) tNil)))) (gName 3) (tSeq (tAsg (tCall sp_later_stand [] C8.E0 (tCons (tVar 0) (tCons (tVar 1) (tCons (tVar 3) tNil)))) (gName 4))
  (tSeq (tIfS (tAnd (tTest (tOp rNotN (tVar 4) (tC .non))) (tNot (tB (tMeth C "covers" (sp_H_covers P w C) [] C8.E0 (tVar 2) (tCons (tVar 4) tNil))))) (tSeq (tRet (tC (.bl false)))
  tNext) tNext)
  tNext)))
  (tSeq (tRet (tC (.bl true)))
  tNext))
theorem d_runs_out {P : Program} {w : World} {K : PySem.W.Frag} {mg : Str → Option Value} {base : Heap} (T : Top K mg) {C : Addr} (U : TopH K mg C) (f : Addr) (cdv : Value) (A : Around) (outer : List Env) (s : Shared) (H : Hp) (E : XK)
    (hr : Room 3 (A.deeper (PyProof.Rows.envOfC "runs_out" (C8.fnScope s_runs_out) s.heap.objs.size f cdv))) :
    PSs (cxOf C8.CX0 P w K mg base N_runs_out "runs_out" (C8.fnScope s_runs_out) f cdv A outer s H E).nox (C8.fnBody s_runs_out) (t_runs_out P w C K) :=
  (pss_cons (ps_for PassesOwn.never rfl (pi_list (C8.pe_c (c_later_days T) hr (by decide) rfl (pa_cons (pv 0) (pa_cons (pv 1) pa_nil)))) (pg_name (i := 3) nd_runs_out rfl (by first | exact Or.inl rfl | exact Or.inr rfl)) (pss_cons (ps_set (i := 4) nd_runs_out rfl (by first | exact Or.inl rfl | exact Or.inr rfl) (C8.pe_c (c_later_stand T) hr (by decide) rfl (pa_cons (pv 0) (pa_cons (pv 1) (pa_cons (pv 3) pa_nil)))))
  (pss_cons (ps_if (PW.pt (pw_and (pt_cmpR op_notN' (pv 4) pe_non (nomark _)) (pw_and1 (pt_not (pt_val (C8.pe_mt (c_H_covers T U) hr (by decide) (pv 2) (pa_cons (pv 4) pa_nil))))))) (pss_cons (ps_ret pe_bl)
  pss_nil) pss_nil)
  pss_nil)))
  (pss_cons (ps_ret pe_bl)
  pss_nil))
theorem c_runs_out (T : Top K mg) (U : TopH K mg C) : C8.Cal P w K mg base 4 "runs_out" (sp_runs_out P w C) [] := by
  refine cal_of T.f_runs_out sc_runs_out (t_runs_out P w C K) (fun zs z h => ?_) (fun f cdv A outer s H E hr => d_runs_out T U f cdv A outer s H E hr) (fun dr B E zs z hp hB hR hN => ?_)
  · obtain ⟨_, _, _, _, rfl, _⟩ := h; rfl
  obtain ⟨t, s, f, n, rfl, ht, hs, hn, hf, rfl⟩ := hp
  refine w_forL (laterDays t s) dI (fun i δ' => ∃ c3 c4, δ' = [.d t.enc, .d s.enc, .v (.g (hV P w C f n)), c3, c4] ∧ ((laterDays t s).take i).all (dayR t f s) = true) hB (e_later_days (ea_cons (ev_var rfl) (ea_cons (ev_var rfl) ea_nil)) ht hs) ⟨.x, .x, rfl, by simp⟩ (fun B' hB' hb' i day δ' hday hI => ?_) (fun δ' hI => ?_)
  · obtain ⟨c3, c4, rfl, hall⟩ := hI
    have hdm := List.mem_of_getElem? hday
    have hd2 := later_len hdm
    cases hn' : nextS t s day with
    | none =>
      refine w_asg hB' (z := .d .none) (Ev.is (e_later_stand (s := s) (day := day) (ea_cons (ev_var rfl) (ea_cons (ev_var rfl) (ea_cons (ev_var rfl) ea_nil))) ht hs (by omega)) (by rw [hn']; rfl)) ?_
      refine w_if hB' (b := false) (EvT.is (b := false && true) (et_and (EvT.is (et_test (ev_op (ev_var (d := .none) rfl) ev_non rr_notN)) rfl) (fun h => nomatch h)) rfl) (fun hb => nomatch hb) (fun hb => w_nx ?_)
      refine w_end ⟨_, _, rfl, ?_⟩
      rw [take_succ' hday, List.all_append, hall]
      simp [dayR, hn']
    | some l =>
      have hl : SW t l := nextS_sw ht (by omega) hn'
      refine w_asg hB' (z := .d l.enc) (Ev.is (e_later_stand (s := s) (day := day) (ea_cons (ev_var rfl) (ea_cons (ev_var rfl) (ea_cons (ev_var rfl) ea_nil))) ht hs (by omega)) (by rw [hn']; rfl)) ?_
      refine w_if hB' (et_and (et_test (ev_op (ev_var (d := l.enc) rfl) ev_non rr_notN)) fun _ => et_not (et_B (e_H_covers (f := f) (n := n) (ev_varV rfl) (ea_cons (ev_var (d := l.enc) rfl) ea_nil) (hl.cv ht hn (hf _))))) (fun hb => ?_) (fun hb => w_nx ?_)
      · refine w_ret hB' (Ev.is ev_bl ?_) (fun v H' b' j' hv => hR v H' (hb' H' b') j' hv)
        have hcv : covB f l = false := by simpa [Stand.enc, isNon] using hb
        have : runsB t f s = false := by
          rw [runsB_day, List.all_eq_false]
          exact ⟨day, hdm, by simp [dayR, hn', hcv]⟩
        rw [this]
      · refine w_end ⟨_, _, rfl, ?_⟩
        have hcv : covB f l = true := by simpa [Stand.enc, isNon] using hb
        rw [take_succ' hday, List.all_append, hall]
        simp [dayR, hn', hcv]
  · obtain ⟨c3, c4, rfl, hall⟩ := hI
    rw [List.take_length] at hall
    refine w_ret hB (Ev.is ev_bl ?_) hR
    rw [runsB_day, hall]
/-! walk_holds -/
def q_walk_holds : List Vd → Vd → Prop := fun x z => ∃ (t : Task) (s : Stand) (st : List Stand), x = [.d t.enc, .d s.enc, .d (.tuple (st.map Stand.enc))] ∧ TaskOk t ∧ SW t s ∧ (∀ x ∈ st, SW t x) ∧ st.length ≤ 100000 ∧ z = .d (.bool (walkHL t s st))
abbrev sp_walk_holds : Sp := spP q_walk_holds
theorem e_walk_holds {t : Task} {s : Stand} {st : List Stand} (h : EvA dr ta δ [.d t.enc, .d s.enc, .d (.tuple (st.map Stand.enc))]) (ht : TaskOk t) (hs : SW t s) (hst : ∀ x ∈ st, SW t x) (hl : st.length ≤ 100000) : Ev dr (tCall sp_walk_holds [] C8.E0 ta) δ (.d (.bool (walkHL t s st))) := ev_call h ⟨_, _, _, rfl, ht, hs, hst, hl, rfl⟩
abbrev s_walk_holds : Stmt := Hd.top 61
abbrev N_walk_holds : List Str := ["task", "stand", "stands", "heights", "one"]
theorem nd_walk_holds : N_walk_holds.Nodup := by decide +kernel
theorem sc_walk_holds : C8.scC N_walk_holds ["task", "stand", "stands"] (C8.fnScope s_walk_holds) = true := by decide +kernel
def t_walk_holds (P : Program) (w : World) (C : Addr) (K : PySem.W.Frag) : TS :=
  (tSeq (tAsg (tMake C (sp_H_init P w C) [] C8.E0 tNil) (gName 3))
  (tSeq (tFor (iTup K (tVar 2)) (gName 4) (tSeq (tIfS (tNot (tB (tCall (sp_runs_out P w C) [] C8.E0 (tCons (tVar 0) (tCons (tVar 4) (tCons (tVar 3) tNil)))))) (tSeq (tRet (tC (.bl false)))
  tNext) tNext)
  (tSeq (tDrop (tMeth C "add" (sp_H_add P w C) [] C8.E0 (tVar 3) (tCons (tVar 4) tNil)))
  tNext)))
  (tSeq (tRet (tMeth C "covers" (sp_H_covers P w C) [] C8.E0 (tVar 3) (tCons (tVar 1) tNil)))
  tNext)))
theorem d_walk_holds {P : Program} {w : World} {K : PySem.W.Frag} {mg : Str → Option Value} {base : Heap} (T : Top K mg) {C : Addr} (U : TopH K mg C) (f : Addr) (cdv : Value) (A : Around) (outer : List Env) (s : Shared) (H : Hp) (E : XK)
    (hr : Room 4 (A.deeper (PyProof.Rows.envOfC "walk_holds" (C8.fnScope s_walk_holds) s.heap.objs.size f cdv))) :
    PSs (cxOf C8.CX0 P w K mg base N_walk_holds "walk_holds" (C8.fnScope s_walk_holds) f cdv A outer s H E).nox (C8.fnBody s_walk_holds) (t_walk_holds P w C K) :=
  (pss_cons (ps_set (i := 3) nd_walk_holds rfl (by first | exact Or.inl rfl | exact Or.inr rfl) (pe_mk0 (c_H_init T U) hr (by decide) rfl))
  (pss_cons (ps_for PassesOwn.never rfl (pi_tup (pv 2)) (pg_name (i := 4) nd_walk_holds rfl (by first | exact Or.inl rfl | exact Or.inr rfl)) (pss_cons (ps_if (pt_not (pt_val (C8.pe_c (c_runs_out T U) hr (by decide) rfl (pa_cons (pv 0) (pa_cons (pv 4) (pa_cons (pv 3) pa_nil)))))) (pss_cons (ps_ret pe_bl)
  pss_nil) pss_nil)
  (pss_cons (ps_expr (C8.pe_mt (c_H_add T U) hr (by decide) (pv 3) (pa_cons (pv 4) pa_nil)))
  pss_nil)))
  (pss_cons (ps_ret (C8.pe_mt (c_H_covers T U) hr (by decide) (pv 3) (pa_cons (pv 1) pa_nil)))
  pss_nil)))
theorem c_walk_holds (T : Top K mg) (U : TopH K mg C) : C8.Cal P w K mg base 5 "walk_holds" sp_walk_holds [] := by
  refine cal_of T.f_walk_holds sc_walk_holds (t_walk_holds P w C K) (fun zs z h => ?_) (fun f cdv A outer s H E hr => d_walk_holds T U f cdv A outer s H E hr) (fun dr B E zs z hp hB hR hN => ?_)
  · obtain ⟨_, _, _, rfl, _⟩ := h; rfl
  obtain ⟨t, s, st, rfl, ht, hs, hst, hl, rfl⟩ := hp
  refine w_makeH hB fun a d na hm _ _ => ?_
  have hsw : ∀ {i : Nat} {f : Hk → List Stand}, HtOk t (st.take i) f → ∀ k, ∀ o ∈ f k, SW t o := fun h k o ho => hst o (List.mem_of_mem_take (h.sub k o ho).1)
  refine w_forT st Stand.enc (fun i δ' => ∃ (ts : List (Ent Hk)) (f : Hk → List Stand) (c4 : Sd), δ' = [.d t.enc, .d s.enc, .d (.tuple (st.map Stand.enc)), .g a (hG P w C d ts), c4] ∧ okd c4 ∧ HRep i f ts ∧ HtOk t (st.take i) f ∧ ∀ j, j < i → rowsOk t st j = true) hB (ev_var rfl) ⟨[], fun _ => [], .x, rfl, trivial, HRep.nil, by simpa using HtOk.nil t, fun j h => absurd h (Nat.not_lt_zero _)⟩ (fun B' hB' hb' mu i one δ' hi hI => ?_) (fun δ' hI => ?_)
  · obtain ⟨ts, f, c4, rfl, hc4, hr, hht, hrows⟩ := hI
    have hone : SW t one := hst one (List.mem_of_getElem? hi)
    have hil : i < st.length := (List.getElem?_eq_some_iff.mp hi).1
    have hw : ∀ o ∈ st.take i, o.wt.length = t.num.length := fun o ho => (hst o (List.mem_of_mem_take ho)).wl
    refine w_if hB' (et_not (et_B (e_runs_out (f := f) (n := i) (ea_cons (ev_var rfl) (ea_cons (ev_var rfl) (ea_cons (ev_varH (a := a) (d := d) (ts := ts) rfl hr) ea_nil))) ht hone (by omega) (hsw hht)))) (fun hb => ?_) (fun hb => w_nx ?_)
    · refine w_ret hB' (Ev.is ev_bl ?_) (fun v H' b' j' hv => hR v H' (hb' H' b') j' hv)
      rw [runsB_eq ht hst hht hi] at hb
      rw [walkHL_no hil (by simpa using hb)]
    · rw [runsB_eq ht hst hht hi] at hb
      have hrow : rowsOk t st i = true := by simpa using hb
      refine w_addH hB' (i := 3) (a := a) (d := d) (ts := ts) rfl (mu d hm) hr (ev_var rfl) (hone.cv ht (by omega) (hsw hht _)) ⟨trivial, trivial, trivial, trivial, trivial, trivial⟩ fun ts' hr' => ?_
      refine w_end ⟨ts', addF f one, _, rfl, trivial, hr', ?_, fun j hj => ?_⟩
      · rw [take_succ' hi]
        exact addF_ok hht hw hone.wl
      · by_cases h : j = i
        · rw [h]; exact hrow
        · exact hrows j (by omega)
  · obtain ⟨ts, f, c4, rfl, hc4, hr, hht, hrows⟩ := hI
    rw [List.take_length] at hht
    refine w_ret hB (Ev.is (e_H_covers (f := f) (n := st.length) (ev_varH (a := a) (d := d) (ts := ts) rfl hr) (ea_cons (ev_var rfl) ea_nil) (hs.cv ht (by omega) fun o ho => hst o (hht.sub _ o ho).1)) ?_) hR
    rw [walkHL_yes hst hs hrows hht]
/-! answer_holds -/
def ansH (t : Task) (s : Stand) : Ans → Bool
  | .on l r => onH t s l r
  | .count d p => countH t d p
  | .walk st => walkHL t s st
def q_answer_holds : List Vd → Vd → Prop := fun a z => ∃ (t : Task) (s : Stand) (x : Ans), a = [.d t.enc, .d s.enc, .d x.enc] ∧ TaskOk t ∧ SW t s ∧ AnsL t x ∧ z = .d (.bool (ansH t s x))
abbrev sp_answer_holds : Sp := spP q_answer_holds
theorem e_answer_holds {t : Task} {s : Stand} {x : Ans} (h : EvA dr ta δ [.d t.enc, .d s.enc, .d x.enc]) (ht : TaskOk t) (hs : SW t s) (hx : AnsL t x) : Ev dr (tCall sp_answer_holds [] C8.E0 ta) δ (.d (.bool (ansH t s x))) := ev_call h ⟨_, _, _, rfl, ht, hs, hx, rfl⟩
abbrev s_answer_holds : Stmt := Hd.top 62
abbrev N_answer_holds : List Str := ["task", "stand", "answer"]
theorem nd_answer_holds : N_answer_holds.Nodup := by decide +kernel
theorem sc_answer_holds : C8.scC N_answer_holds ["task", "stand", "answer"] (C8.fnScope s_answer_holds) = true := by decide +kernel
def t_answer_holds (P : Program) (w : World) (C : Addr) (K : PySem.W.Frag) : TS :=
  (tSeq (tIfS (tTest (tOp rEq (tOp (rIxT K) (tVar 2) (tC (.int 0))) (tC (.str "on")))) (tSeq (tRet (tCall sp_on_holds [] C8.E0 (tCons (tVar 0) (tCons (tVar 1) (tCons (tOp (rIxT K) (tVar 2) (tC (.int 1))) (tCons (tOp (rIxT K) (tVar 2) (tC (.int 2))) tNil))))))
  tNext) tNext)
  (tSeq (tIfS (tTest (tOp rEq (tOp (rIxT K) (tVar 2) (tC (.int 0))) (tC (.str "count")))) (tSeq (tRet (tCall sp_count_holds [] C8.E0 (tCons (tVar 0) (tCons (tOp (rIxT K) (tVar 2) (tC (.int 1))) (tCons (tOp (rIxT K) (tVar 2) (tC (.int 2))) tNil)))))
  tNext) tNext)
  (tSeq (tRet (tCall sp_walk_holds [] C8.E0 (tCons (tVar 0) (tCons (tVar 1) (tCons (tOp (rIxT K) (tVar 2) (tC (.int 1))) tNil)))))
  tNext)))
theorem d_answer_holds {P : Program} {w : World} {K : PySem.W.Frag} {mg : Str → Option Value} {base : Heap} (T : Top K mg) {C : Addr} (U : TopH K mg C) (f : Addr) (cdv : Value) (A : Around) (outer : List Env) (s : Shared) (H : Hp) (E : XK)
    (hr : Room 5 (A.deeper (PyProof.Rows.envOfC "answer_holds" (C8.fnScope s_answer_holds) s.heap.objs.size f cdv))) :
    PSs (cxOf C8.CX0 P w K mg base N_answer_holds "answer_holds" (C8.fnScope s_answer_holds) f cdv A outer s H E).nox (C8.fnBody s_answer_holds) (t_answer_holds P w C K) :=
  (pss_cons (ps_if (pt_cmpR op_eq (pe_ix ix_tup (pv 2) pe_int (fun _ _ => rfl)) pe_str (nomark _)) (pss_cons (ps_ret (C8.pe_c (c_on_holds T) hr (by decide) rfl (pa_cons (pv 0) (pa_cons (pv 1) (pa_cons (pe_ix ix_tup (pv 2) pe_int (fun _ _ => rfl)) (pa_cons (pe_ix ix_tup (pv 2) pe_int (fun _ _ => rfl)) pa_nil))))))
  pss_nil) pss_nil)
  (pss_cons (ps_if (pt_cmpR op_eq (pe_ix ix_tup (pv 2) pe_int (fun _ _ => rfl)) pe_str (nomark _)) (pss_cons (ps_ret (C8.pe_c (c_count_holds T) hr (by decide) rfl (pa_cons (pv 0) (pa_cons (pe_ix ix_tup (pv 2) pe_int (fun _ _ => rfl)) (pa_cons (pe_ix ix_tup (pv 2) pe_int (fun _ _ => rfl)) pa_nil)))))
  pss_nil) pss_nil)
  (pss_cons (ps_ret (C8.pe_c (c_walk_holds T U) hr (by decide) rfl (pa_cons (pv 0) (pa_cons (pv 1) (pa_cons (pe_ix ix_tup (pv 2) pe_int (fun _ _ => rfl)) pa_nil)))))
  pss_nil)))
theorem c_answer_holds (T : Top K mg) (U : TopH K mg C) : C8.Cal P w K mg base 6 "answer_holds" sp_answer_holds [] := by
  refine cal_of T.f_answer_holds sc_answer_holds (t_answer_holds P w C K) (fun zs z h => ?_) (fun f cdv A outer s H E hr => d_answer_holds T U f cdv A outer s H E hr) (fun dr B E zs z hp hB hR hN => ?_)
  · obtain ⟨_, _, _, rfl, _⟩ := h; rfl
  obtain ⟨t, s, x, rfl, ht, hs, hx, rfl⟩ := hp
  obtain ⟨s1, s2, s3, s4, s5, s6⟩ := s_oc
  cases x with
  | on lead ring =>
    obtain ⟨h1, _, h2, h3, h4⟩ := hx
    refine w_if hB (et_test (ev_op (ev_op (ev_var (d := (Ans.on lead ring).enc) rfl) ev_int (rr_ixT at0)) ev_str rr_eqS)) (fun hb => ?_) (fun hb => ?_)
    · exact w_ret hB (e_on_holds (ea_cons (ev_var rfl) (ea_cons (ev_var rfl) (ea_cons (ev_op (ev_var (d := (Ans.on lead ring).enc) rfl) ev_int (rr_ixT at1)) (ea_cons (ev_op (ev_var (d := (Ans.on lead ring).enc) rfl) ev_int (rr_ixT at2)) ea_nil)))) ht hs (by omega) (by omega) (fun d hd => by have := h3 d hd; omega) (fun d hd => by have := h4 d hd; omega)) hR
    · rw [s1] at hb; simp at hb
  | count d p =>
    obtain ⟨h1, h2⟩ := hx
    refine w_if hB (et_test (ev_op (ev_op (ev_var (d := (Ans.count d p).enc) rfl) ev_int (rr_ixT at0)) ev_str rr_eqS)) (fun hb => ?_) (fun hb => w_nx ?_)
    · rw [s2] at hb; simp at hb
    refine w_if hB (et_test (ev_op (ev_op (ev_var (d := (Ans.count d p).enc) rfl) ev_int (rr_ixT at0)) ev_str rr_eqS)) (fun hb => ?_) (fun hb => ?_)
    · exact w_ret hB (e_count_holds (ea_cons (ev_var rfl) (ea_cons (ev_op (ev_var (d := (Ans.count d p).enc) rfl) ev_int (rr_ixT at1)) (ea_cons (ev_op (ev_var (d := (Ans.count d p).enc) rfl) ev_int (rr_ixT at2)) ea_nil))) ht h1) hR
    · rw [s4] at hb; simp at hb
  | walk st =>
    obtain ⟨h1, h2, h3⟩ := hx
    refine w_if hB (et_test (ev_op (ev_op (ev_var (d := (Ans.walk st).enc) rfl) ev_int (rr_ixT at0)) ev_str rr_eqS)) (fun hb => ?_) (fun hb => w_nx ?_)
    · rw [s3] at hb; simp at hb
    refine w_if hB (et_test (ev_op (ev_op (ev_var (d := (Ans.walk st).enc) rfl) ev_int (rr_ixT at0)) ev_str rr_eqS)) (fun hb => ?_) (fun hb => w_nx ?_)
    · rw [s5] at hb; simp at hb
    exact w_ret hB (e_walk_holds (ea_cons (ev_var rfl) (ea_cons (ev_var rfl) (ea_cons (ev_op (ev_var (d := (Ans.walk st).enc) rfl) ev_int (rr_ixT at1)) ea_nil))) ht hs (fun x hx => (h3 x hx).sw ht) (by omega)) hR
/-! holds -/
def holdsP (t : Task) (s : Stand) (x : Ans) : Bool := ansB t x && ansH t s x
theorem AnsL.p {t : Task} {x : Ans} (h : AnsL t x) : AnsP t x := by
  cases x with
  | on _ _ => trivial
  | count d p => exact h.1
  | walk st => exact h
def q_holds : List Vd → Vd → Prop := fun a z => ∃ (t : Task) (s : Stand) (x : Ans), a = [.d t.enc, .d s.enc, .d x.enc] ∧ TaskOk t ∧ StandOk t s ∧ AnsL t x ∧ z = .d (.bool (holdsP t s x))
abbrev sp_holds : Sp := spP q_holds
theorem e_holds {t : Task} {s : Stand} {x : Ans} (h : EvA dr ta δ [.d t.enc, .d s.enc, .d x.enc]) (ht : TaskOk t) (hs : StandOk t s) (hx : AnsL t x) : Ev dr (tCall sp_holds [] C8.E0 ta) δ (.d (.bool (holdsP t s x))) := ev_call h ⟨_, _, _, rfl, ht, hs, hx, rfl⟩
abbrev s_holds : Stmt := Hd.top 63
abbrev N_holds : List Str := ["task", "stand", "answer", "told"]
theorem nd_holds : N_holds.Nodup := by decide +kernel
theorem sc_holds : C8.scC N_holds ["task", "stand", "answer"] (C8.fnScope s_holds) = true := by decide +kernel
def t_holds (P : Program) (w : World) (C : Addr) (K : PySem.W.Frag) : TS :=
  (tSeq (tAsg (tCall sp_asked_task [] C8.E0 (tCons (tVar 0) tNil)) (gName 0))
  (tSeq (tAsg (tCall sp_asked_stand [] C8.E0 (tCons (tVar 0) (tCons (tVar 1) tNil))) (gName 1))
  (tSeq (tAsg (tCall sp_asked_answer [] C8.E0 (tCons (tVar 0) (tCons (tVar 2) tNil))) (gName 3))
  (tSeq (tRet (tAndV (tOp rNotN (tVar 3) (tC .non)) (tCall sp_answer_holds [] C8.E0 (tCons (tVar 0) (tCons (tVar 1) (tCons (tVar 3) tNil))))))
  tNext))))
theorem d_holds {P : Program} {w : World} {K : PySem.W.Frag} {mg : Str → Option Value} {base : Heap} (T : Top K mg) {C : Addr} (U : TopH K mg C) (f : Addr) (cdv : Value) (A : Around) (outer : List Env) (s : Shared) (H : Hp) (E : XK)
    (hr : Room 10 (A.deeper (PyProof.Rows.envOfC "holds" (C8.fnScope s_holds) s.heap.objs.size f cdv))) :
    PSs (cxOf C8.CX0 P w K mg base N_holds "holds" (C8.fnScope s_holds) f cdv A outer s H E).nox (C8.fnBody s_holds) (t_holds P w C K) :=
  (pss_cons (ps_set (i := 0) nd_holds rfl (by first | exact Or.inl rfl | exact Or.inr rfl) (C8.pe_c (c_asked_task T) hr (by decide) rfl (pa_cons (pv 0) pa_nil)))
  (pss_cons (ps_set (i := 1) nd_holds rfl (by first | exact Or.inl rfl | exact Or.inr rfl) (C8.pe_c (c_asked_stand T) hr (by decide) rfl (pa_cons (pv 0) (pa_cons (pv 1) pa_nil))))
  (pss_cons (ps_set (i := 3) nd_holds rfl (by first | exact Or.inl rfl | exact Or.inr rfl) (C8.pe_c (c_asked_answer T) hr (by decide) rfl (pa_cons (pv 0) (pa_cons (pv 2) pa_nil))))
  (pss_cons (ps_ret (pe_and (pe_cmpR op_notN' (pv 3) pe_non (nomark _)) (pe_one (C8.pe_c (c_answer_holds T U) hr (by decide) rfl (pa_cons (pv 0) (pa_cons (pv 1) (pa_cons (pv 3) pa_nil)))))))
  pss_nil))))
theorem c_holds (T : Top K mg) (U : TopH K mg C) : C8.Cal P w K mg base 11 "holds" sp_holds [] := by
  refine cal_of T.f_holds sc_holds (t_holds P w C K) (fun zs z h => ?_) (fun f cdv A outer s H E hr => d_holds T U f cdv A outer s H E hr) (fun dr B E zs z hp hB hR hN => ?_)
  · obtain ⟨_, _, _, rfl, _⟩ := h; rfl
  obtain ⟨t, s, x, rfl, ht, hs, hx, rfl⟩ := hp
  refine w_asg hB (e_asked_task (ea_cons (ev_var rfl) ea_nil) ht) ?_
  refine w_asg hB (e_asked_stand (ea_cons (ev_var rfl) (ea_cons (ev_var rfl) ea_nil)) ht hs) ?_
  cases hb : ansB t x with
  | false =>
    refine w_asg hB (z := .d .none) (Ev.is (e_asked_answer (x := x) (ea_cons (ev_var rfl) (ea_cons (ev_var rfl) ea_nil)) ht hx.p) (by unfold askD; rw [hb]; rfl)) ?_
    refine w_ret hB (Ev.is (ev_andV (a := false) (b := true) (Ev.is (ev_op (ev_var (d := .none) rfl) ev_non rr_notN) rfl) fun h => nomatch h) ?_) hR
    unfold holdsP; rw [hb]; rfl
  | true =>
    refine w_asg hB (z := .d x.enc) (Ev.is (e_asked_answer (x := x) (ea_cons (ev_var rfl) (ea_cons (ev_var rfl) ea_nil)) ht hx.p) (by unfold askD; rw [hb]; rfl)) ?_
    refine w_ret hB (Ev.is (ev_andV (ev_op (ev_var (d := x.enc) rfl) ev_non rr_notN) fun _ => e_answer_holds (x := x) (ea_cons (ev_var rfl) (ea_cons (ev_var rfl) (ea_cons (ev_var rfl) ea_nil))) ht (hs.sw ht) hx) ?_) hR
    unfold holdsP; rw [hb]
    cases x <;> rfl
/-- the program's word is the law's -/
theorem holds_eq {t : Task} {s : Stand} {x : Ans} (ht : TaskOk t) (hs : SW t s) (hx : AnsL t x) : holdsP t s x = holdsL t s x := by
  cases x with
  | on l r => exact on_same ht hs hx.1 hx.2.1 hx.2.2.1 hx.2.2.2.1 hx.2.2.2.2
  | count d p => exact (Bool.true_and _).trans (count_eq ht hx.1)
  | walk st => exact Bool.true_and _
end
end Ed
end
section
set_option maxHeartbeats 4000000
/-! M8: a count that holds: the stand is dead. -/
namespace Ed
/-- a path of standing rows -/
structure Path (t : Task) (π : Nat → Stand) (e : Nat → List Int) : Prop where
  ok : ∀ n, StandOk t (π n)
  day : ∀ n, e n ∈ laterDays t (π n)
  nx : ∀ n, nextS t (π n) (e n) = some (π (n + 1))
theorem Path.shift {t : Task} {π : Nat → Stand} {e : Nat → List Int} (h : Path t π e) (m : Nat) : Path t (fun n => π (n + m)) (fun n => e (n + m)) :=
  ⟨fun n => h.ok _, fun n => h.day _, fun n => by rw [h.nx (n + m), show n + m + 1 = n + 1 + m by omega]⟩
/-- number of k < n with g k -/
def num (g : Nat → Bool) : Nat → Nat
  | 0 => 0
  | n + 1 => num g n + if g n then 1 else 0
theorem Path.next {t : Task} {π : Nat → Stand} {e : Nat → List Int} (h : Path t π e) (n : Nat) : (π (n + 1)).ph = ((π n).ph + 1) % (t.off.length : Int) ∧ (π (n + 1)).wt = waitsF t (π n) (e n) ∧ (π (n + 1)).bz = (e n).filter (fun i => decide (i ∈ t.long) && !decide (i ∈ (π n).bz)) := by
  have := h.nx n
  unfold nextS at this
  split at this
  · cases this
  · cases this' : (π (n + 1)) with
    | mk a b c d =>
      rw [this'] at this
      cases this
      exact ⟨rfl, rfl, rfl⟩
theorem Path.ph {t : Task} {π : Nat → Stand} {e : Nat → List Int} (h : Path t π e) (n : Nat) : (π n).ph = ((π 0).ph + n) % (t.off.length : Int) := by
  induction n with
  | zero =>
    have h0 := (h.ok 0).ph0
    have h1 := (h.ok 0).ph1
    simp only [Int.natCast_zero, Int.add_zero]
    rw [Int.emod_eq_of_lt h0 h1]
  | succ n ih =>
    rw [(h.next n).1, ih, Int.emod_add_emod]
    congr 1
    push_cast
    omega
theorem wt_range {t : Task} {s : Stand} (h : StandOk t s) {i : Nat} (hi : i < t.num.length) : 1 ≤ s.wt.getD i 0 ∧ s.wt.getD i 0 ≤ t.num.getD i 0 := by
  have e1 : s.wt[i]? = some (s.wt[i]'(by rw [h.wl]; exact hi)) := List.getElem?_eq_getElem _
  have e2 : t.num[i]? = some (t.num[i]'hi) := List.getElem?_eq_getElem _
  have := h.wt _ _ _ e1 e2
  rw [List.getD_eq_getElem?_getD, List.getD_eq_getElem?_getD, e1, e2]
  exact this
theorem waits_get {t : Task} {s : Stand} {d : List Int} {i : Nat} (hi : i < t.num.length) : (waitsF t s d).getD i 0 = waitF t s d i := by
  simp only [waitsF, upto, List.getD_eq_getElem?_getD, List.getElem?_map]
  rw [List.getElem?_eq_getElem (by simpa using hi)]
  simp
theorem Path.wait {t : Task} {π : Nat → Stand} {e : Nat → List Int} (h : Path t π e) {i : Nat} (hi : i < t.num.length) (n : Nat) :
    (π n).wt.getD i 0 + n ≤ t.num.getD i 0 * ((num (fun k => doneB t (π k) (e k) i) n : Nat) + 1) := by
  induction n with
  | zero =>
    have := wt_range (h.ok 0) hi
    simp only [num]
    omega
  | succ n ih =>
    have h1 := wt_range (h.ok n) hi
    rw [(h.next n).2.1, waits_get hi]
    unfold waitF num
    by_cases hd : doneB t (π n) (e n) i = true
    · rw [if_pos hd, if_pos hd, Int.toNat_natCast]
      push_cast
      rw [Int.mul_add] at ih ⊢
      rw [Int.mul_add]
      omega
    · rw [if_neg hd, if_neg hd, Int.toNat_natCast]
      push_cast
      simp only [Int.add_zero]
      omega
theorem Path.dones {t : Task} {π : Nat → Stand} {e : Nat → List Int} (h : Path t π e) {i : Nat} (hi : i < t.num.length) (d : Nat) :
    (d : Int) / t.num.getD i 0 ≤ (num (fun k => doneB t (π k) (e k) i) d : Nat) := by
  have h1 := h.wait hi d
  have h2 := wt_range (h.ok d) hi
  have h3 : 0 < t.num.getD i 0 := by omega
  have h4 : (d : Int) < ((num (fun k => doneB t (π k) (e k) i) d : Nat) + 1) * t.num.getD i 0 := by rw [Int.mul_comm]; omega
  have := Int.ediv_lt_of_lt_mul h3 h4
  omega
def b2 (b : Bool) : Nat := if b then 1 else 0
theorem Path.att {t : Task} {π : Nat → Stand} {e : Nat → List Int} (h : Path t π e) {i : Int} (hl : i ∈ t.long) (n : Nat) :
    num (fun k => decide (i ∈ e k)) n + b2 (decide (i ∈ (π 0).bz)) = 2 * num (fun k => doneB t (π k) (e k) i) n + b2 (decide (i ∈ (π n).bz)) := by
  induction n with
  | zero => simp [num]
  | succ n ih =>
    have hc := (List.mem_filter.mp (h.day n)).2
    simp only [canB, Bool.and_eq_true, List.all_eq_true, decide_eq_true_eq] at hc
    have hbz := hc.2.1 i
    have hn : i ∈ (π (n + 1)).bz ↔ i ∈ e n ∧ i ∉ (π n).bz := by
      rw [(h.next n).2.2, List.mem_filter]; simp [hl]
    simp only [num]
    by_cases h1 : i ∈ (π n).bz
    · have h2 := hbz h1
      have h3 : i ∉ (π (n + 1)).bz := fun z => (hn.mp z).2 h1
      have h4 : doneB t (π n) (e n) i = true := by simp [doneB, h2, h1]
      simp only [b2, h1, h2, h3, h4, decide_true, decide_false, if_true, Bool.false_eq_true, if_false] at ih ⊢
      omega
    · by_cases h2 : i ∈ e n
      · have h3 : i ∈ (π (n + 1)).bz := hn.mpr ⟨h2, h1⟩
        have h4 : doneB t (π n) (e n) i = false := by simp [doneB, hl, h1]
        simp only [b2, h1, h2, h3, h4, decide_true, decide_false, if_true, Bool.false_eq_true, if_false] at ih ⊢
        omega
      · have h3 : i ∉ (π (n + 1)).bz := fun z => h2 (hn.mp z).1
        have h4 : doneB t (π n) (e n) i = false := by simp [doneB, h2]
        simp only [b2, h1, h2, h3, h4, decide_true, decide_false, if_true, Bool.false_eq_true, if_false] at ih ⊢
        omega
theorem num_congr {f g : Nat → Bool} (h : ∀ k, f k = g k) : ∀ n, num f n = num g n
  | 0 => rfl
  | n + 1 => by simp only [num, num_congr h n, h n]
theorem Path.deed {t : Task} {π : Nat → Stand} {e : Nat → List Int} (h : Path t π e) {i : Nat} (hi : i < t.num.length) (d : Nat) :
    deedF t d i ≤ (num (fun k => decide ((i : Int) ∈ e k)) d : Nat) := by
  have h1 := h.dones hi d
  unfold deedF
  by_cases hl : (i : Int) ∈ t.long
  · have h2 := h.att hl d
    have h3 : b2 (decide ((i : Int) ∈ (π 0).bz)) ≤ 1 := by unfold b2; split <;> omega
    simp only [hl, decide_true, if_true]
    omega
  · have e1 : ∀ k, doneB t (π k) (e k) i = decide ((i : Int) ∈ e k) := fun k => by simp [doneB, hl]
    rw [num_congr e1] at h1
    simp only [hl, decide_false, Bool.false_eq_true, if_false]
    exact h1
end Ed
end
section
set_option maxHeartbeats 4000000
/-! M9: a count that holds: the stand is dead. -/
namespace Ed
def attN (e : Nat → List Int) (d : Nat) (N : Nat) : Nat := ((List.range N).map fun (i : Nat) => num (fun k => decide ((i : Int) ∈ e k)) d).sum
theorem att_succ (e : Nat → List Int) (d : Nat) : ∀ N, attN e (d + 1) N = attN e d N + ((List.range N).filter fun (i : Nat) => decide ((i : Int) ∈ e d)).length
  | 0 => by simp [attN]
  | N + 1 => by
    have ih := att_succ e d N
    unfold attN at ih ⊢
    rw [List.range_succ, List.map_append, List.sum_append, ih, List.map_append, List.sum_append, List.filter_append, List.length_append]
    simp only [List.map_cons, List.map_nil, List.sum_cons, List.sum_nil, num]
    by_cases h : (N : Int) ∈ e d <;> simp [h] <;> omega
theorem att_zero (e : Nat → List Int) : ∀ N, attN e 0 N = 0
  | 0 => by simp [attN]
  | N + 1 => by
    have ih := att_zero e N
    unfold attN at ih ⊢
    rw [List.range_succ, List.map_append, List.sum_append, ih]
    simp [num]
theorem in_le (e : List Int) (N : Nat) : ((List.range N).filter fun (i : Nat) => decide ((i : Int) ∈ e)).length ≤ e.length := by
  have h := nodup_len (l := ((List.range N).filter fun (i : Nat) => decide ((i : Int) ∈ e)).map fun (i : Nat) => (i : Int)) (m := e)
    (by
      rw [List.nodup_iff_pairwise_ne, List.pairwise_map]
      exact (List.nodup_iff_pairwise_ne.mp (List.nodup_range.filter _)).imp fun hne z => hne (Int.ofNat.inj z))
    (fun x hx => by
      obtain ⟨i, hi, rfl⟩ := List.mem_map.mp hx
      simpa using (List.mem_filter.mp hi).2)
  simpa using h
theorem off_01 {t : Task} (ht : TaskOk t) (k : Nat) : t.off.getD (k % t.off.length) 0 = 0 ∨ t.off.getD (k % t.off.length) 0 = 1 := by
  have hL := ht.off.1
  have hk : k % t.off.length < t.off.length := Nat.mod_lt _ (by omega)
  rw [List.getD_eq_getElem?_getD, List.getElem?_eq_getElem hk]
  exact ht.off.2.2 _ (List.getElem_mem hk)
theorem Path.room {t : Task} {π : Nat → Stand} {e : Nat → List Int} (h : Path t π e) (ht : TaskOk t) {p : Nat} (hp : (π 0).ph = p) (N d : Nat) :
    (attN e d N : Int) ≤ t.hands * (cnt (fr t) p d : Nat) := by
  induction d with
  | zero => rw [att_zero, cnt_zero]; simp
  | succ d ih =>
    rw [att_succ, cnt_succ]
    have hc := (List.mem_filter.mp (h.day d)).2
    have hl := in_le (e d) N
    have hph := h.ph d
    rw [hp, ← Int.natCast_add, ← Int.natCast_emod] at hph
    unfold canB at hc
    rw [Bool.and_eq_true] at hc
    have hc1 := hc.1
    rw [hph, Int.toNat_natCast] at hc1
    simp only [Bool.not_or, Bool.and_eq_true, Bool.not_eq_true', decide_eq_false_iff_not, Bool.and_eq_false_iff] at hc1
    have h1 : ((e d).length : Int) ≤ t.hands := by omega
    unfold fr at *
    rcases off_01 ht (p + d) with ho | ho
    · simp only [ho, decide_true, if_true]
      push_cast
      rw [Int.mul_add]
      omega
    · have h0 : (e d).length = 0 := by
        rcases hc1.2 with h2 | h2
        · exact absurd ho h2
        · omega
      simp only [ho, show ((1 : Int) = 0) = False from by simp, decide_false, Bool.false_eq_true, if_false, Nat.add_zero]
      omega
theorem sum_le {f : Nat → Int} {g : Nat → Nat} : ∀ (l : List Nat), (∀ i ∈ l, f i ≤ (g i : Int)) → (l.map f).sum ≤ ((l.map g).sum : Nat)
  | [], _ => by simp
  | i :: l, h => by
    have h1 := h i List.mem_cons_self
    have h2 := sum_le l fun j hj => h j (List.mem_cons_of_mem _ hj)
    simp only [List.map_cons, List.sum_cons]
    push_cast at *
    omega
theorem Path.count {t : Task} {π : Nat → Stand} {e : Nat → List Int} (h : Path t π e) (ht : TaskOk t) {p d : Nat} (hp : (π 0).ph = p) : countLw t d p = false := by
  unfold countLw
  rw [free_len]
  have h1 := h.room ht hp t.num.length d
  have h2 : deedsL t d ≤ (attN e d t.num.length : Nat) := sum_le _ fun i hi => h.deed (List.mem_range.mp hi) d
  simp only [decide_eq_false_iff_not]
  omega
theorem path_live {t : Task} (ht : TaskL t) {s0 : Stand} {F : List Stand} (hd : DeadOk t s0 F) (h0 : s0 ∉ F) : ∃ π e, Path t π e ∧ π 0 = s0 := by
  obtain ⟨keys, hk0, hok, hex, _⟩ := hd.ex
  have hstep : ∀ s : {s : Stand // s ∈ keys ∧ s ∉ F}, ∃ x : {s : Stand // s ∈ keys ∧ s ∉ F}, ∃ d, d ∈ laterDays t s.1 ∧ nextS t s.1 d = some x.1 := by
    intro ⟨s, hs, hF⟩
    obtain ⟨x, hx, hxk, hxF⟩ := hex s hs hF
    unfold succ at hx
    obtain ⟨d, hdm, hn⟩ := List.mem_filterMap.mp hx
    exact ⟨⟨x, hxk, hxF⟩, d, (days_mem ht.ok ((hok s hs).sw ht.ok)).mp hdm, hn⟩
  have hc := fun s => Classical.choose_spec (Classical.choose_spec (hstep s))
  let nx : {s : Stand // s ∈ keys ∧ s ∉ F} → {s : Stand // s ∈ keys ∧ s ∉ F} := fun s => Classical.choose (hstep s)
  let dy : {s : Stand // s ∈ keys ∧ s ∉ F} → List Int := fun s => Classical.choose (Classical.choose_spec (hstep s))
  let q : Nat → {s : Stand // s ∈ keys ∧ s ∉ F} := fun n => Nat.rec ⟨s0, hk0, h0⟩ (fun _ s => nx s) n
  exact ⟨fun n => (q n).1, fun n => dy (q n), ⟨fun n => hok _ (q n).2.1, fun n => (hc (q n)).1, fun n => (hc (q n)).2⟩, rfl⟩
theorem count_dead {t : Task} (ht : TaskL t) {s0 : Stand} {F : List Stand} {d p : Int} (hd : DeadOk t s0 F) (hc : countP t d p) (h : countLw t d p = true) : s0 ∈ F := by
  refine Classical.byContradiction fun h0 => ?_
  obtain ⟨π, e, hP, hπ⟩ := path_live ht hd h0
  obtain ⟨h1, h2, h3, h4⟩ := hc
  have hs := hP.ok 0
  obtain ⟨d', rfl⟩ := Int.eq_ofNat_of_zero_le (show 0 ≤ d by omega)
  obtain ⟨p', rfl⟩ := Int.eq_ofNat_of_zero_le h3
  have hL : 0 < t.off.length := ht.ok.off.1
  obtain ⟨a, ha⟩ := Int.eq_ofNat_of_zero_le hs.ph0
  have ha1 := hs.ph1
  have hm : ((π (p' + t.off.length - a)).ph) = (p' : Int) := by
    rw [hP.ph, ha, ← Int.natCast_add, show a + (p' + t.off.length - a) = p' + t.off.length by omega, ← Int.natCast_emod, Nat.add_mod_right, Nat.mod_eq_of_lt (by omega)]
  have := (hP.shift (p' + t.off.length - a)).count (p := p') (d := d') ht.ok (by simpa using hm)
  rw [this] at h
  cases h
end Ed
end
section
set_option maxHeartbeats 4000000
namespace Ed
open PySem L2
local macro_rules | `(tactic| nested_key) => `(tactic| first
  | rfl
  | assumption
  | omega
  | exact Nat.le_of_ble_eq_true rfl
  | decide
  | (simp only [List.length_map, small]; omega)
  | (simp [small]; done)
  | (simp only [Vd.sd, setAll, List.set, mutAll, okm, Fr] at *; simp_all; done))

section
variable {P : Program} {w : World} {K : PySem.W.Frag} {mg : Str → Option Value} {base : Heap} {dr : Option Addr} {δ : List Sd} {ta : TA} {te : TE}
/-! _law_bent_on -/
def q__law_bent_on (n : Nat) : List Vd → Vd → Prop := fun a z => a = [.g drV, .g (anyV (onZ n))] ∧ n ≤ 1000 ∧ z = .g (anyV (onZ (2 * n)))
def qq__law_bent_on : List Vd → Vd → Prop := fun a z => ∃ n, q__law_bent_on n a z
abbrev sp__law_bent_on : Sp := spP qq__law_bent_on
theorem e__law_bent_on {ta : TA} {n : Nat} (h : EvA dr ta δ [.g drV, .g (anyV (onZ n))]) (hn : n ≤ 1000) : Ev dr (tCall sp__law_bent_on [] C8.E0 ta) δ (.g (anyV (onZ (2 * n)))) := ev_call h ⟨n, rfl, hn, rfl⟩
abbrev s__law_bent_on : Stmt := Hd.top 87
abbrev N__law_bent_on : List Str := ["_law_draws_here", "_law_told", "_law_draw", "_law_word", "_law_lead", "_law_ring", "_law_at", "_law_day", "_law_first", "_law_later", "_law_some"]
theorem nd__law_bent_on : N__law_bent_on.Nodup := by decide +kernel
theorem sc__law_bent_on : C8.scC N__law_bent_on ["_law_draws_here", "_law_told"] (C8.fnScope s__law_bent_on) = true := by decide +kernel
def t__law_bent_on (K : PySem.W.Frag) : TS :=
  (tSeq (tAsg (tCall sp__law_next [] C8.E0 (tCons (tVar 0) tNil)) (gName 2))
  (tSeq (tAsg (tVar 1) (gTup K 3 (unp [3, 4, 5])))
  (tSeq (tAsg (tOp oMod (tOp oDiv (tVar 2) (tC (.int 8))) (tCB (rLen K) (tCons (tVar 5) tNil))) (gName 6))
  (tSeq (tAsg (tOp (rIxL K) (tLst (tCons (tTup tNil) (tCons (tTup (tCons (tC (.int 0)) tNil)) (tCons (tTup (tCons (tC (.int 1)) tNil)) (tCons (tTup (tCons (tC (.int 0)) (tCons (tC (.int 1)) tNil))) tNil))))) (tOp oMod (tOp oDiv (tVar 2) (tC (.int 512))) (tC (.int 4)))) (gName 7))
  (tSeq (tPar 8 9 (tCons (tSl (rSlA K) (tVar 5) tNoPart (tPart (tVar 6))) (tCons (tSl (rSlA K) (tVar 5) (tPart (tVar 6)) tNoPart) tNil)))
  (tSeq (tAsg (tLst (tCons (tTup (tCons (tVar 4) (tCons (tOp (rCatA K) (tOp (rCatA K) (tVar 8) (tTup (tCons (tVar 7) tNil))) (tSl (rSlA K) (tVar 9) (tPart (tC (.int 1))) tNoPart)) tNil))) (tCons (tTup (tCons (tTup tNil) (tCons (tVar 5) tNil))) tNil))) (gName 10))
  (tSeq (tAsg (tOp rCat (tVar 10) (tLst (tCons (tTup (tCons (tVar 4) (tCons (tOp (rCatA K) (tVar 5) (tVar 5)) tNil))) (tCons (tTup (tCons (tVar 5) (tCons (tVar 5) tNil))) tNil)))) (gName 10))
  (tSeq (tAsg (tOp rCat (tVar 10) (tLst (tCons (tTup (tCons (tSl (rSlA K) (tVar 4) tNoPart (tPart (tUn oNeg (tC (.int 1))))) (tCons (tVar 5) tNil))) (tCons (tTup (tCons (tVar 4) (tCons (tOp (rCatA K) (tVar 9) (tVar 8)) tNil))) tNil)))) (gName 10))
  (tSeq (tAsg (tOp (rIxL K) (tOp rCat (tVar 10) (tLst (tCons (tTup (tCons (tVar 4) (tCons (tOp (rCatA K) (tOp (rCatA K) (tVar 8) (tSl (rSlA K) (tVar 9) tNoPart (tPart (tC (.int 1))))) (tVar 9)) tNil))) tNil))) (tOp oMod (tVar 2) (tC (.int 7)))) (gTup K 2 (unp [4, 5])))
  (tSeq (tRet (tTup (tCons (tVar 3) (tCons (tVar 4) (tCons (tVar 5) tNil)))))
  tNext))))))))))
theorem d__law_bent_on {P : Program} {w : World} {K : PySem.W.Frag} {mg : Str → Option Value} {base : Heap} (T : Top K mg) (f : Addr) (cdv : Value) (A : Around) (outer : List Env) (s : Shared) (H : Hp) (E : XK)
    (hr : Room 1 (A.deeper (PyProof.Rows.envOfC "_law_bent_on" (C8.fnScope s__law_bent_on) s.heap.objs.size f cdv))) :
    PSs (cxOf C8.CX0 P w K mg base N__law_bent_on "_law_bent_on" (C8.fnScope s__law_bent_on) f cdv A outer s H E).nox (C8.fnBody s__law_bent_on) (t__law_bent_on K) :=
  (pss_cons (ps_set (i := 2) nd__law_bent_on rfl (by first | exact Or.inl rfl | exact Or.inr rfl) (C8.pe_c (c__law_next T) hr (by decide) rfl (pa_cons (pv 0) pa_nil)))
  (pss_cons (ps_asg (pv 1) (pg_tup (by rfl) (pgs_cons (pg_name (i := 3) nd__law_bent_on rfl (by first | exact Or.inl rfl | exact Or.inr rfl)) (pgs_cons (pg_name (i := 4) nd__law_bent_on rfl (by first | exact Or.inl rfl | exact Or.inr rfl)) (pgs_cons (pg_name (i := 5) nd__law_bent_on rfl (by first | exact Or.inl rfl | exact Or.inr rfl)) pgs_nil)))))
  (pss_cons (ps_set (i := 6) nd__law_bent_on rfl (by first | exact Or.inl rfl | exact Or.inr rfl) (pe_op op_mod (pe_op op_fdiv (pv 2) pe_int) (pe_callB cr_len (by rfl) T.n_len bt_len (pa_cons (pv 5) pa_nil))))
  (pss_cons (ps_set (i := 7) nd__law_bent_on rfl (by first | exact Or.inl rfl | exact Or.inr rfl) (pe_ix ix_list (pe_lst (pa_cons (pe_tup pa_nil) (pa_cons (pe_tup (pa_cons pe_int pa_nil)) (pa_cons (pe_tup (pa_cons pe_int pa_nil)) (pa_cons (pe_tup (pa_cons pe_int (pa_cons pe_int pa_nil))) pa_nil))))) (pe_op op_mod (pe_op op_fdiv (pv 2) pe_int) pe_int) (fun _ _ => rfl)))
  (pss_cons (ps_par (i := 8) (j := 9) (by rfl) nd__law_bent_on rfl rfl (by decide) rfl rfl (pa_cons (pe_slice sl_tupA (pv 5) po_none (po_some (pv 6))) (pa_cons (pe_slice sl_tupA (pv 5) (po_some (pv 6)) po_none) pa_nil)) (by rfl))
  (pss_cons (ps_set (i := 10) nd__law_bent_on rfl (by first | exact Or.inl rfl | exact Or.inr rfl) (pe_lst (pa_cons (pe_tup (pa_cons (pv 4) (pa_cons (pe_op op_catA (pe_op op_catA (pv 8) (pe_tup (pa_cons (pv 7) pa_nil))) (pe_slice sl_tupA (pv 9) (po_some pe_int) po_none)) pa_nil))) (pa_cons (pe_tup (pa_cons (pe_tup pa_nil) (pa_cons (pv 5) pa_nil))) pa_nil))))
  (pss_cons (ps_set (i := 10) nd__law_bent_on rfl (by first | exact Or.inl rfl | exact Or.inr rfl) (pe_op op_cat (pv 10) (pe_lst (pa_cons (pe_tup (pa_cons (pv 4) (pa_cons (pe_op op_catA (pv 5) (pv 5)) pa_nil))) (pa_cons (pe_tup (pa_cons (pv 5) (pa_cons (pv 5) pa_nil))) pa_nil)))))
  (pss_cons (ps_set (i := 10) nd__law_bent_on rfl (by first | exact Or.inl rfl | exact Or.inr rfl) (pe_op op_cat (pv 10) (pe_lst (pa_cons (pe_tup (pa_cons (pe_slice sl_tupA (pv 4) po_none (po_some (pe_un un_neg pe_int))) (pa_cons (pv 5) pa_nil))) (pa_cons (pe_tup (pa_cons (pv 4) (pa_cons (pe_op op_catA (pv 9) (pv 8)) pa_nil))) pa_nil)))))
  (pss_cons (ps_asg (pe_ix ix_list (pe_op op_cat (pv 10) (pe_lst (pa_cons (pe_tup (pa_cons (pv 4) (pa_cons (pe_op op_catA (pe_op op_catA (pv 8) (pe_slice sl_tupA (pv 9) po_none (po_some pe_int))) (pv 9)) pa_nil))) pa_nil))) (pe_op op_mod (pv 2) pe_int) (fun _ _ => rfl)) (pg_tup (by rfl) (pgs_cons (pg_name (i := 4) nd__law_bent_on rfl (by first | exact Or.inl rfl | exact Or.inr rfl)) (pgs_cons (pg_name (i := 5) nd__law_bent_on rfl (by first | exact Or.inl rfl | exact Or.inr rfl)) pgs_nil))))
  (pss_cons (ps_ret (pe_tup (pa_cons (pv 3) (pa_cons (pv 4) (pa_cons (pv 5) pa_nil)))))
  pss_nil))))))))))
theorem w_openA {B : Hp → Prop} {E : Ends} {ts : TS} {i : Nat} {Z : PyData → Prop} (hi : δ[i]? = some (.v (.g (anyV Z)))) (k : ∀ e, Z e → W dr B E ts (δ.set i (.d e))) : W dr B E ts δ := fun σ H s j b => by
  obtain ⟨o, e1, v, e2, e, hz, he⟩ := s i _ hi
  subst e2
  refine k e hz σ H ?_ j b
  intro k' x hk
  rw [List.getElem?_set] at hk
  split at hk
  · rename_i h
    subst h
    split at hk
    · cases hk
      exact ⟨_, e1, _, rfl, he⟩
    · exact nomatch hk
  · exact s k' x hk
theorem w_unpA {B : Hp → Prop} {E : Ends} {tz : TS} {is : List Nat} {n : Nat} {Z : PyData → Prop} (hB : BOk dr B) (h : Ev dr te δ (.g (anyV Z))) (k : ∀ e, Z e → ∃ ds, e = .tuple ds ∧ ds.length = n ∧ is.length = ds.length ∧ W dr B E tz (setAll δ is ds)) : W dr B E (tSeq (tAsg te (gTup K n (unp is))) tz) δ := fun σ H s j b =>
  h σ H s j _ fun v H1 e1 ⟨e, hz, h1⟩ => by
    obtain ⟨ds, rfl, hn, hl, hw⟩ := k e hz
    obtain ⟨a, xs, rfl, g1, g2⟩ := tup_of (dr := dr) h1
    exact ⟨a, xs, rfl, SqT.of g1, by rw [g2.length]; exact hn, unp_ok hl g2 (s.ext e1 j) fun σ' s' => hw σ' H1 s' e1.jd (hB.ext b j e1)⟩
theorem cutD_map {α β : Type} {f : α → β} {xs : List α} {lo hi : Option Int} : cutD (xs.map f) lo hi = (cutD xs lo hi).map f := by
  unfold cutD
  rw [List.length_map, List.map_take, List.map_drop]
theorem cutD_le {α : Type} {xs : List α} {lo hi : Option Int} : (cutD xs lo hi).length ≤ xs.length := by
  unfold cutD
  rw [List.length_take, List.length_drop]; omega
theorem cutD_mem {α : Type} {xs : List α} {lo hi : Option Int} {x : α} (h : x ∈ cutD xs lo hi) : x ∈ xs := List.mem_of_mem_drop (List.mem_of_mem_take h)
theorem c__law_bent_on (T : Top K mg) : C8.Cal P w K mg base 2 "_law_bent_on" sp__law_bent_on [] := by
  refine cal_of T.f__law_bent_on sc__law_bent_on (t__law_bent_on K) (fun zs z h => ?_) (fun f cdv A outer s H E hr => d__law_bent_on T f cdv A outer s H E hr) (fun dr B E zs z hp hB hR hN => ?_)
  · obtain ⟨_, rfl, _⟩ := h; rfl
  obtain ⟨N, rfl, hN1, rfl⟩ := hp
  show W dr B E (t__law_bent_on K) [.v (.g drV), .v (.g (anyV (onZ N))), .x, .x, .x, .x, .x, .x, .x, .x, .x]
  refine w_openA (i := 1) rfl fun e he => ?_
  obtain ⟨l, r, rfl, hl, hr1, hr, hdl, hdr⟩ := he
  try dsimp only [List.set, setAll, Vd.sd]
  refine w_asgA hB (e__law_next (ea_cons (ev_varV rfl) ea_nil)) fun e he => ?_
  obtain ⟨n, hn0, rfl⟩ := he
  try dsimp only [List.set, setAll, Vd.sd]
  refine w_unp (ds := [.str "on", dII l, dII r]) hB (ev_var rfl) rfl rfl ?_
  have hm0 := Int.emod_nonneg (n / 8) (show (r.length : Int) ≠ 0 by omega)
  have hm1 := Int.emod_lt_of_pos (n / 8) (show (0 : Int) < (r.length : Int) by omega)
  obtain ⟨m, em⟩ : ∃ m : Nat, n / 8 % (r.length : Int) = m := ⟨_, (Int.toNat_of_nonneg hm0).symm⟩
  rw [em] at hm1
  have hm : m < r.length := by omega
  try dsimp only [List.set, setAll, Vd.sd]
  refine w_asg hB (z := .d (.int m)) (Ev.is (ev_op (ev_op (ev_var rfl) ev_int (rr_I (⟨by decide, by decide⟩ : CDiv _ _) fun _ => .int _)) (ev_cb (ea_cons (ev_var (d := dII r) rfl) ea_nil) rc_lenT) (rr_I (by rw [List.length_map]; omega) fun _ => .int _)) (by rw [List.length_map, em])) ?_
  try dsimp only [List.set, setAll, Vd.sd]
  refine w_asgA hB (ev_op (EvN.ev (en_lst (ds := [dI [], dI [0], dI [1], dI [0, 1]]) (ead_cons (ev_tup ead_nil (by nested_key)) (ead_cons (ev_tup (ead_cons ev_int ead_nil) (by nested_key)) (ead_cons (ev_tup (ead_cons ev_int ead_nil) (by nested_key)) (ead_cons (ev_tup (ead_cons ev_int (ead_cons ev_int ead_nil)) (by nested_key)) ead_nil)))) (by nested_key))) (ev_op (ev_op (ev_var rfl) ev_int (rr_I (⟨by decide, by decide⟩ : CDiv _ _) fun _ => .int _)) ev_int (rr_I (by decide) fun _ => .int _)) (rr_ixMem (Int.emod_nonneg _ (by decide)) (Int.emod_lt_of_pos _ (by decide)))) fun e he => ?_
  obtain ⟨d, hd2, rfl⟩ : ∃ d : List Int, d.length ≤ 2 ∧ e = dI d := by
    simp only [List.mem_cons, List.not_mem_nil, or_false] at he
    rcases he with rfl | rfl | rfl | rfl <;> exact ⟨_, by decide, rfl⟩
  try dsimp only [List.set, setAll, Vd.sd]
  refine w_par (y := .d (dII (r.take m))) (z := .d (dII (r.drop m))) hB (ea_cons (Ev.is (ev_slT (ev_var (d := dII r) rfl) eo_none (eo_some (ev_var rfl))) (by rw [cutD_takeM (by omega)]; rfl)) (ea_cons (Ev.is (ev_slT (ev_var (d := dII r) rfl) (eo_some (ev_var rfl)) eo_none) (by rw [cutD_dropM (by omega)]; rfl)) ea_nil)) ?_
  try dsimp only [List.set, setAll, Vd.sd]
  refine w_asgN hB (en_lst (ead_cons (ev_tup (ead_cons (ev_var rfl) (ead_cons (ev_op (ev_op (ev_var (d := dII (r.take m)) rfl) (ev_tup (ead_cons (ev_var rfl) ead_nil) (by nested_key)) (rr_catT (by simp [small]; omega))) (ev_slT (ev_var (d := dII (r.drop m)) rfl) (eo_some ev_int) eo_none) (rr_catT (by rw [cutD_map]; have := cutD_le (xs := r.drop m) (lo := some 1) (hi := none); simp only [small, List.length_append, List.length_map, List.length_take, List.length_drop, List.length_cons, List.length_nil] at this ⊢; omega))) ead_nil)) (by nested_key)) (ead_cons (ev_tup (ead_cons (ev_tup ead_nil (by nested_key)) (ead_cons (ev_var rfl) ead_nil)) (by nested_key)) ead_nil)) (by nested_key)) fun p np mp fr => ?_
  try dsimp only [List.set, setAll, Vd.sd]
  refine w_asgN hB (en_op (ev_varL rfl) (EvN.ev (en_lst (ead_cons (ev_tup (ead_cons (ev_var rfl) (ead_cons (ev_op (ev_var (d := dII r) rfl) (ev_var (d := dII r) rfl) (rr_catT (by simp [small]; omega))) ead_nil)) (by nested_key)) (ead_cons (ev_tup (ead_cons (ev_var rfl) (ead_cons (ev_var rfl) ead_nil)) (by nested_key)) ead_nil)) (by nested_key))) (rn_cat (by simp [small]))) fun p2 np2 mp2 fr2 => ?_
  try dsimp only [List.set, setAll, Vd.sd]
  refine w_asgN hB (en_op (ev_varL rfl) (EvN.ev (en_lst (ead_cons (ev_tup (ead_cons (ev_slT (ev_var (d := dII l) rfl) eo_none (eo_some (ev_neg ev_int))) (ead_cons (ev_var rfl) ead_nil)) (by nested_key)) (ead_cons (ev_tup (ead_cons (ev_var rfl) (ead_cons (ev_op (ev_var (d := dII (r.drop m)) rfl) (ev_var (d := dII (r.take m)) rfl) (rr_catT (by simp [small]; omega))) ead_nil)) (by nested_key)) ead_nil)) (by nested_key))) (rn_cat (by simp [small]))) fun p3 np3 mp3 fr3 => ?_
  have h70 := Int.emod_nonneg n (show (7 : Int) ≠ 0 by omega)
  have h71 := Int.emod_lt_of_pos n (show (0 : Int) < 7 by omega)
  have fl : small ((List.map dI (r.take m)).length + (cutD (List.map dI (r.drop m)) none (some 1)).length) := by
    rw [cutD_map]; have := cutD_le (xs := r.drop m) (lo := none) (hi := some 1); simp only [small, List.length_append, List.length_map, List.length_take, List.length_drop] at this ⊢; omega
  try dsimp only [List.set, setAll, Vd.sd]
  refine w_unpA hB (ev_op (EvN.ev (en_op (ev_varL rfl) (EvN.ev (en_lst (ead_cons (ev_tup (ead_cons (ev_var rfl) (ead_cons (ev_op (ev_op (ev_var (d := dII (r.take m)) rfl) (ev_slT (ev_var (d := dII (r.drop m)) rfl) eo_none (eo_some ev_int)) (rr_catT fl)) (ev_var (d := dII (r.drop m)) rfl) (rr_catT (by rw [cutD_map]; have := cutD_le (xs := r.drop m) (lo := none) (hi := some 1); simp only [small, List.length_append, List.length_map, List.length_take, List.length_drop] at this ⊢; omega))) ead_nil)) (by nested_key)) ead_nil) (by nested_key))) (rn_cat (by simp [small])))) (ev_op (ev_var rfl) ev_int (rr_I (by decide) fun _ => .int _)) (rr_ixMem h70 (by simp only [List.length_append, List.length_cons, List.length_nil]; omega))) fun e he => ?_
  obtain ⟨l', r', rfl, a1, a2, a3, a4, a5⟩ : ∃ l' r' : List (List Int), e = .tuple [dII l', dII r'] ∧ l'.length ≤ 2 * N ∧ 1 ≤ r'.length ∧ r'.length ≤ 2 * N ∧ (∀ d ∈ l', d.length ≤ 2) ∧ ∀ d ∈ r', d.length ≤ 2 := by
    have t1 : ∀ x ∈ r.take m, x.length ≤ 2 := fun x hx => hdr x (List.mem_of_mem_take hx)
    have t2 : ∀ x ∈ r.drop m, x.length ≤ 2 := fun x hx => hdr x (List.mem_of_mem_drop hx)
    have t3 : ∀ x ∈ (r.drop m).drop 1, x.length ≤ 2 := fun x hx => t2 x (List.mem_of_mem_drop hx)
    have t4 : ∀ x ∈ (r.drop m).take 1, x.length ≤ 2 := fun x hx => t2 x (List.mem_of_mem_take hx)
    have ap : ∀ {xs ys : List (List Int)}, (∀ x ∈ xs, x.length ≤ 2) → (∀ x ∈ ys, x.length ≤ 2) → ∀ x ∈ xs ++ ys, x.length ≤ 2 := fun h1 h2 x hx => (List.mem_append.mp hx).elim (h1 x) (h2 x)
    have c1 : cutD (List.map dI (r.drop m)) (some 1) none = ((r.drop m).drop 1).map dI := cutD_dropM (n := 1) (by rw [List.length_drop]; omega)
    have c2 : cutD (List.map dI (r.drop m)) none (some 1) = ((r.drop m).take 1).map dI := cutD_takeM (n := 1) (by omega)
    rw [c1, c2, cutD_map] at he
    simp only [List.mem_append, List.mem_cons, List.not_mem_nil, or_false] at he
    rcases he with (((rfl | rfl) | (rfl | rfl)) | (rfl | rfl)) | rfl
    · refine ⟨l, r.take m ++ [d] ++ (r.drop m).drop 1, by simp [dII], by omega, ?_, ?_, hdl, ap (ap t1 (by simpa using hd2)) t3⟩ <;> simp only [List.length_append, List.length_take, List.length_drop, List.length_cons, List.length_nil] <;> omega
    · exact ⟨[], r, rfl, by simp, hr1, by omega, by simp, hdr⟩
    · refine ⟨l, r ++ r, by simp [dII], by omega, ?_, ?_, hdl, ap hdr hdr⟩ <;> simp only [List.length_append] <;> omega
    · exact ⟨r, r, rfl, by omega, hr1, by omega, hdr, hdr⟩
    · refine ⟨cutD l none (some (-1)), r, rfl, ?_, hr1, by omega, fun x hx => hdl x (cutD_mem hx), hdr⟩
      have := cutD_le (xs := l) (lo := none) (hi := some (-1)); omega
    · refine ⟨l, r.drop m ++ r.take m, by simp [dII], by omega, ?_, ?_, hdl, ap t2 t1⟩ <;> simp only [List.length_append, List.length_take, List.length_drop] <;> omega
    · refine ⟨l, r.take m ++ (r.drop m).take 1 ++ r.drop m, by simp [dII], by omega, ?_, ?_, hdl, ap (ap t1 t4) t2⟩ <;> simp only [List.length_append, List.length_take, List.length_drop] <;> omega
  refine ⟨_, rfl, rfl, rfl, ?_⟩
  try dsimp only [List.set, setAll, Vd.sd]
  refine w_ret hB (Ev.any (ev_tup (ead_cons (ev_var rfl) (ead_cons (ev_var rfl) (ead_cons (ev_var rfl) ead_nil))) (by nested_key)) ⟨l', r', rfl, a1, a2, a3, a4, a5⟩) hR
end
end Ed
end
section
set_option maxHeartbeats 4000000
namespace Ed
open PySem L2
local macro_rules | `(tactic| nested_key) => `(tactic| first
  | rfl
  | assumption
  | omega
  | exact Nat.le_of_ble_eq_true rfl
  | decide
  | (simp only [List.length_map, small]; omega)
  | (simp [small]; done)
  | (simp only [Vd.sd, setAll, List.set, mutAll, okm, Fr] at *; simp_all; done))

section
variable {P : Program} {w : World} {K : PySem.W.Frag} {mg : Str → Option Value} {base : Heap} {dr : Option Addr} {δ : List Sd} {ta : TA} {te : TE}
/-! _law_bent_walk -/
def wkZ (t : Task) : PyData → Prop := fun e => ∃ st : List Stand, e = (Ans.walk st).enc ∧ walkP t st
def q__law_bent_walk : List Vd → Vd → Prop := fun a z => ∃ (t : Task) (L : List Stand), a = [.g drV, .l (L.map Stand.enc)] ∧ L ≠ [] ∧ L.length ≤ 3500 ∧ (∀ x ∈ L, StandOk t x) ∧ z = .g (anyV (wkZ t))
abbrev sp__law_bent_walk : Sp := spP q__law_bent_walk
abbrev s__law_bent_walk : Stmt := Hd.top 88
abbrev N__law_bent_walk : List Str := ["_law_draws_here", "_law_dead_here", "_law_draw", "_law_at", "_law_there", "_law_swapped", "_law_one", "_law_first", "_law_later", "_law_some", "_law_told"]
theorem nd__law_bent_walk : N__law_bent_walk.Nodup := by decide +kernel
theorem sc__law_bent_walk : C8.scC N__law_bent_walk ["_law_draws_here", "_law_dead_here"] (C8.fnScope s__law_bent_walk) = true := by decide +kernel
def t__law_bent_walk (K : PySem.W.Frag) : TS :=
  (tSeq (tAsg (tCall sp__law_next [] C8.E0 (tCons (tVar 0) tNil)) (gName 2))
  (tSeq (tAsg (tOp oMod (tOp oDiv (tVar 2) (tC (.int 8))) (tCB (rLen K) (tCons (tVar 1) tNil))) (gName 3))
  (tSeq (tAsg (tOp oMod (tCall sp__law_next [] C8.E0 (tCons (tVar 0) tNil)) (tCB (rLen K) (tCons (tVar 1) tNil))) (gName 4))
  (tSeq (tAsg (tCB (rLstOf K) (tCons (tVar 1) tNil)) (gName 5))
  (tSeq (tAsg (tTup (tCons (tOp (rIxL K) (tVar 5) (tVar 4)) (tCons (tOp (rIxL K) (tVar 5) (tVar 3)) tNil))) (gTup K 2 (gCons (gSub (tVar 5) (tVar 3) L2.rSetL) (gCons (gSub (tVar 5) (tVar 4) L2.rSetL) gNil))))
  (tSeq (tPar3 6 7 8 (tCons (tOp (rIxL K) (tVar 1) (tVar 3)) (tCons (tSl (rSlL K) (tVar 1) tNoPart (tPart (tVar 3))) (tCons (tSl (rSlL K) (tVar 1) (tPart (tOp oAdd (tVar 3) (tC (.int 1)))) tNoPart) tNil))))
  (tSeq (tAsg (tLst (tCons (tVar 1) (tCons (tOp rCat (tVar 7) (tVar 8)) (tCons (tVar 5) (tCons (tRevL K (tVar 1)) tNil))))) (gName 9))
  (tSeq (tAsg (tOp rCat (tVar 9) (tLst (tCons (tOp rCat (tVar 7) (tLst (tCons (tVar 6) tNil))) (tCons (tOp rCat (tVar 1) (tLst (tCons (tVar 6) tNil))) (tCons (tOp rCat (tLst (tCons (tVar 6) tNil)) (tVar 8)) tNil))))) (gName 9))
  (tSeq (tAsg (tOp (rIxL K) (tOp rCat (tVar 9) (tLst (tCons (tOp rCat (tOp rCat (tVar 7) (tLst (tCons (tOp (rIxL K) (tVar 1) (tVar 4)) tNil))) (tVar 8)) tNil))) (tOp oMod (tVar 2) (tC (.int 8)))) (gName 10))
  (tSeq (tRet (tTup (tCons (tC (.str "walk")) (tCons (tCB (rTupOf K) (tCons (tOp rCat (tVar 10) (tOp rRep (tSl (rSlL K) (tVar 1) tNoPart (tPart (tC (.int 1)))) (tCB rInt1 (tCons (tOp (rEqD K) (tVar 10) (tLst tNil)) tNil)))) tNil)) tNil))))
  tNext))))))))))
theorem d__law_bent_walk {P : Program} {w : World} {K : PySem.W.Frag} {mg : Str → Option Value} {base : Heap} (T : Top K mg) (f : Addr) (cdv : Value) (A : Around) (outer : List Env) (s : Shared) (H : Hp) (E : XK)
    (hr : Room 1 (A.deeper (PyProof.Rows.envOfC "_law_bent_walk" (C8.fnScope s__law_bent_walk) s.heap.objs.size f cdv))) :
    PSs (cxOf C8.CX0 P w K mg base N__law_bent_walk "_law_bent_walk" (C8.fnScope s__law_bent_walk) f cdv A outer s H E).nox (C8.fnBody s__law_bent_walk) (t__law_bent_walk K) :=
  (pss_cons (ps_set (i := 2) nd__law_bent_walk rfl (by first | exact Or.inl rfl | exact Or.inr rfl) (C8.pe_c (c__law_next T) hr (by decide) rfl (pa_cons (pv 0) pa_nil)))
  (pss_cons (ps_set (i := 3) nd__law_bent_walk rfl (by first | exact Or.inl rfl | exact Or.inr rfl) (pe_op op_mod (pe_op op_fdiv (pv 2) pe_int) (pe_callB cr_len (by rfl) T.n_len bt_len (pa_cons (pv 1) pa_nil))))
  (pss_cons (ps_set (i := 4) nd__law_bent_walk rfl (by first | exact Or.inl rfl | exact Or.inr rfl) (pe_op op_mod (C8.pe_c (c__law_next T) hr (by decide) rfl (pa_cons (pv 0) pa_nil)) (pe_callB cr_len (by rfl) T.n_len bt_len (pa_cons (pv 1) pa_nil))))
  (pss_cons (ps_set (i := 5) nd__law_bent_walk rfl (by first | exact Or.inl rfl | exact Or.inr rfl) (pe_callTy cr_list (by rfl) T.n_list bt_list (pa_cons (pv 1) pa_nil)))
  (pss_cons (ps_asg (pe_tup (pa_cons (pe_ix ix_list (pv 5) (pv 4) (fun _ _ => rfl)) (pa_cons (pe_ix ix_list (pv 5) (pv 3) (fun _ _ => rfl)) pa_nil))) (pg_tup (by rfl) (pgs_cons (pg_sub (pv 5) (pv 3) set_list) (pgs_cons (pg_sub (pv 5) (pv 4) set_list) pgs_nil))))
  (pss_cons (ps_par3 (i := 6) (j := 7) (l := 8) (by rfl) nd__law_bent_walk rfl rfl rfl (by decide) (by decide) (by decide) rfl rfl rfl (pa_cons (pe_ix ix_list (pv 1) (pv 3) (fun _ _ => rfl)) (pa_cons (pe_slice sl_list (pv 1) po_none (po_some (pv 3))) (pa_cons (pe_slice sl_list (pv 1) (po_some (pe_op op_add (pv 3) pe_int)) po_none) pa_nil))) (by rfl))
  (pss_cons (ps_set (i := 9) nd__law_bent_walk rfl (by first | exact Or.inl rfl | exact Or.inr rfl) (pe_lst (pa_cons (pv 1) (pa_cons (pe_op op_cat (pv 7) (pv 8)) (pa_cons (pv 5) (pa_cons (pe_revL (pv 1)) pa_nil))))))
  (pss_cons (ps_set (i := 9) nd__law_bent_walk rfl (by first | exact Or.inl rfl | exact Or.inr rfl) (pe_op op_cat (pv 9) (pe_lst (pa_cons (pe_op op_cat (pv 7) (pe_lst (pa_cons (pv 6) pa_nil))) (pa_cons (pe_op op_cat (pv 1) (pe_lst (pa_cons (pv 6) pa_nil))) (pa_cons (pe_op op_cat (pe_lst (pa_cons (pv 6) pa_nil)) (pv 8)) pa_nil))))))
  (pss_cons (ps_set (i := 10) nd__law_bent_walk rfl (by first | exact Or.inl rfl | exact Or.inr rfl) (pe_ix ix_list (pe_op op_cat (pv 9) (pe_lst (pa_cons (pe_op op_cat (pe_op op_cat (pv 7) (pe_lst (pa_cons (pe_ix ix_list (pv 1) (pv 4) (fun _ _ => rfl)) pa_nil))) (pv 8)) pa_nil))) (pe_op op_mod (pv 2) pe_int) (fun _ _ => rfl)))
  (pss_cons (ps_ret (pe_tup (pa_cons pe_str (pa_cons (pe_callTy cr_tuple (by rfl) T.n_tuple bt_tuple (pa_cons (pe_op op_cat (pv 10) (pe_op op_rep (pe_slice sl_list (pv 1) po_none (po_some pe_int)) (pe_callTy cr_int (by rfl) T.n_int bt_int (pa_cons (pe_cmpR (op_eqD hr.units) (pv 10) (pe_lst pa_nil) (nomark _)) pa_nil)))) pa_nil)) pa_nil))))
  pss_nil))))))))))
theorem rr_ixLLA {ls : List (List PyData)} {i : Int} (h0 : 0 ≤ i) (h1 : i < ls.length) : RR dr (rIxL K) (.ll ls) (.d (.int i)) (.g (anyL (· ∈ ls))) := fun v w H hv hw jd Q q => by
  have hg : ls[i.toNat]? = some ls[i.toNat] := List.getElem?_eq_getElem (by omega)
  have e : atI ls i = some ls[i.toNat] := by
    unfold atI
    have hix : ixN ls.length i = some i.toNat := by
      unfold ixN
      simp only [h0, if_true]
      first | rw [if_pos (by omega)] | simp [h1] | (simp; omega)
    rw [hix]; exact hg
  exact rr_ixLL e v w H hv hw jd Q fun u H2 e2 h2 => q u H2 e2 ⟨_, List.getElem_mem _, h2⟩
theorem st_one {p : Addr} {i j m : Nat} {ds : List PyData} {x : PyData} {u : V} {σ : L2.St} {H : Hp} {Q : L2.St → Hp → Prop} (s : Sl dr H σ δ) (jd : Jd dr H) (hi : δ[i]? = some (.l p ds)) (hj : δ[j]? = some (.d (.int m))) (hm : m < ds.length) (hu : DT H u x) (hk : mutAll p (δ.set i .x))
    (q : ∀ ys, (∃ xs, H p = some (.lst xs)) → dr ≠ some p → Sl dr (upd H p (.lst ys)) σ (δ.set i (.l p (ds.set m x))) → Jd dr (upd H p (.lst ys)) → Q σ (upd H p (.lst ys))) : gSub (tVar i) (tVar j) L2.rSetL u σ H Q := by
  obtain ⟨o, f1, f2, nd, xs, g1, g2⟩ := s i _ hi
  subst f2
  obtain ⟨o', f1', v', f2', hv⟩ := s j _ hj
  subst f2'
  cases int_of (dr := dr) hv
  have hix : ixN xs.length (m : Int) = some m := by
    rw [g2.length]
    unfold ixN
    have h0 : (0 : Int) ≤ m := by omega
    simp only [h0, if_true, if_pos h0]
    first | rw [if_pos (by omega)]; simp | simp [hm] | (simp; omega)
  exact ⟨_, f1, _, f1', p, xs, m, m, rfl, rfl, g1, hix, q _ ⟨xs, g1⟩ nd (s.mutd hi g1 hk (g2.set hu m)) (jd.upd nd)⟩
theorem w_swap {B : Hp → Prop} {E : Ends} {tz : TS} {p : Addr} {i j k m n : Nat} {ds : List PyData} {x y : PyData} (hB : BOk dr B) (hi : δ[i]? = some (.l p ds)) (hij : i ≠ j) (hik : i ≠ k) (hj : δ[j]? = some (.d (.int m))) (hk : δ[k]? = some (.d (.int n))) (hm : Mu B p) (hlm : m < ds.length) (hln : n < ds.length) (hv : Ev dr te δ (.d (.tuple [x, y]))) (hmu : mutAll p (δ.set i .x)) (kk : W dr B E tz (δ.set i (.l p ((ds.set m x).set n y)))) :
    W dr B E (tSeq (tAsg te (gTup K 2 (gCons (gSub (tVar i) (tVar j) L2.rSetL) (gCons (gSub (tVar i) (tVar k) L2.rSetL) gNil)))) tz) δ := fun σ H s jd b =>
  hv σ H s jd _ fun v H1 e1 h1 => by
    obtain ⟨a, xs, rfl, g1, g2⟩ := tup_of (dr := dr) h1
    refine ⟨a, xs, rfl, SqT.of g1, by rw [g2.length]; rfl, ?_⟩
    obtain ⟨u1, r1, rfl, d1, g2⟩ : ∃ u r, xs = u :: r ∧ DT H1 u x ∧ DTs H1 r [y] := by cases g2 with | cons h hs => exact ⟨_, _, rfl, h, hs⟩
    obtain ⟨u2, r2, rfl, d2, g2⟩ : ∃ u r, r1 = u :: r ∧ DT H1 u y ∧ DTs H1 r [] := by cases g2 with | cons h hs => exact ⟨_, _, rfl, h, hs⟩
    cases g2
    refine ⟨u1, [u2], rfl, st_one (s.ext e1 jd) e1.jd hi hj hlm d1 hmu fun ys hp nd s2 j2 => ?_⟩
    obtain ⟨xs', hp⟩ := hp
    have il : i < δ.length := (List.getElem?_eq_some_iff.mp hi).1
    refine ⟨u2, [], rfl, st_one s2 j2 (p := p) (ds := ds.set m x) (List.getElem?_set_self il) (by rw [List.getElem?_set_ne hik]; exact hk) (by rw [List.length_set]; exact hln) (d2.tx (Tx.upd fun xs z => by rw [hp] at z; cases z)) (by rw [List.set_set]; exact hmu) fun zs hp2 nd2 s3 j3 => ⟨rfl, ?_⟩⟩
    rw [List.set_set] at s3
    obtain ⟨xs2, hp2⟩ := hp2
    exact kk σ _ s3 j3 (hm _ _ (fun xs z => by rw [hp2] at z; cases z) (hm _ _ (fun xs z => by rw [hp] at z; cases z) (hB.ext b jd e1)))
theorem c__law_bent_walk (T : Top K mg) : C8.Cal P w K mg base 2 "_law_bent_walk" sp__law_bent_walk [] := by
  refine cal_of T.f__law_bent_walk sc__law_bent_walk (t__law_bent_walk K) (fun zs z h => ?_) (fun f cdv A outer s H E hr => d__law_bent_walk T f cdv A outer s H E hr) (fun dr B E zs z hp hB hR hN => ?_)
  · obtain ⟨_, _, rfl, _⟩ := h; rfl
  obtain ⟨t, L, rfl, hne, hL, hok, rfl⟩ := hp
  have hpos : 0 < L.length := List.length_pos_iff.mpr hne
  show W dr B E (t__law_bent_walk K) [.v (.g drV), .v (.l (L.map Stand.enc)), .x, .x, .x, .x, .x, .x, .x, .x, .x]
  refine w_open (i := 1) rfl fun q nq => ?_
  try dsimp only [List.set, setAll, Vd.sd]
  refine w_asgA hB (e__law_next (ea_cons (ev_varV rfl) ea_nil)) fun e he => ?_
  obtain ⟨n, hn0, rfl⟩ := he
  have hm0 := Int.emod_nonneg (n / 8) (show (L.length : Int) ≠ 0 by omega)
  have hm1 := Int.emod_lt_of_pos (n / 8) (show (0 : Int) < (L.length : Int) by omega)
  obtain ⟨m, em⟩ : ∃ m : Nat, n / 8 % (L.length : Int) = m := ⟨_, (Int.toNat_of_nonneg hm0).symm⟩
  rw [em] at hm1
  have hm : m < L.length := by omega
  try dsimp only [List.set, setAll, Vd.sd]
  refine w_asg hB (z := .d (.int m)) (Ev.is (ev_op (ev_op (ev_var rfl) ev_int (rr_I (⟨by decide, by decide⟩ : CDiv _ _) fun _ => .int _)) (ev_cb (ea_cons (ev_varL rfl) ea_nil) rc_lenL) (rr_I (by rw [List.length_map]; omega) fun _ => .int _)) (by rw [List.length_map, em])) ?_
  try dsimp only [List.set, setAll, Vd.sd]
  refine w_asgA hB (ev_op (e__law_next (ea_cons (ev_varV rfl) ea_nil)) (ev_cb (ea_cons (ev_varL rfl) ea_nil) rc_lenL) (rr_modA (by rw [List.length_map]; omega))) fun e he => ?_
  obtain ⟨kz, ⟨hk0, hk1⟩, rfl⟩ := he
  rw [List.length_map] at hk1
  obtain ⟨k, rfl⟩ : ∃ k : Nat, kz = k := ⟨_, (Int.toNat_of_nonneg hk0).symm⟩
  have hk : k < L.length := by omega
  have gm : L[m]? = some L[m] := List.getElem?_eq_getElem hm
  have gk : L[k]? = some L[k] := List.getElem?_eq_getElem hk
  try dsimp only [List.set, setAll, Vd.sd]
  refine w_asgN hB (en_cb (ea_cons (ev_varL rfl) ea_nil) rc_lstL) fun p np mp fr => ?_
  have hqp : q ≠ p := fr_get (i := 1) fr rfl
  try dsimp only [List.set, setAll, Vd.sd]
  refine w_swap (m := m) (n := k) (x := L[k].enc) (y := L[m].enc) hB rfl (by decide) (by decide) rfl rfl mp (by rw [List.length_map]; exact hm) (by rw [List.length_map]; exact hk) (ev_tup (ead_cons (ev_op (ev_varL rfl) (ev_var rfl) (rr_ixL (at_map (by omega) gk))) (ead_cons (ev_op (ev_varL rfl) (ev_var rfl) (rr_ixL (at_map (by omega) gm))) ead_nil)) (by nested_key)) ⟨rfl, hqp, trivial, trivial, trivial, trivial, trivial, trivial, trivial, trivial, trivial, trivial⟩ ?_
  have sw : ((L.map Stand.enc).set m L[k].enc).set k L[m].enc = ((L.set m L[k]).set k L[m]).map Stand.enc := by rw [List.map_set, List.map_set]
  rw [sw]
  try dsimp only [List.set, setAll, Vd.sd]
  refine w_par3 (x := .d L[m].enc) (y := .l ((L.take m).map Stand.enc)) (z := .l ((L.drop (m + 1)).map Stand.enc)) hB (ea_cons (ev_op (ev_varL rfl) (ev_var rfl) (rr_ixL (at_map (by omega) gm))) (ea_cons (Ev.is (EvN.ev (en_slL (ev_varL rfl) eo_none (eo_some (ev_var rfl)))) (by rw [cutD_takeM (by omega)]; rfl)) (ea_cons (Ev.is (EvN.ev (en_slL (ev_varL rfl) (eo_some (ev_op (ev_var rfl) ev_int (rr_I0 fun _ => .int _))) eo_none)) (by rw [show ((m : Int) + 1) = ((m + 1 : Nat) : Int) by omega, cutD_dropM (by omega)])) ea_nil))) ?_
  have q9 : ∀ {x : List (List PyData)}, x = x := rfl
  try dsimp only [List.set, setAll, Vd.sd]
  refine w_asg hB (z := .ll [L.map Stand.enc, (L.take m).map Stand.enc ++ (L.drop (m + 1)).map Stand.enc, ((L.set m L[k]).set k L[m]).map Stand.enc, (L.map Stand.enc).reverse]) (ev_lstL (ea_cons (ev_varL rfl) (ea_cons (EvN.ev (en_op (ev_varV rfl) (ev_varV rfl) (rn_cat (by simp only [small, List.length_map, List.length_take, List.length_drop]; omega)))) (ea_cons (ev_varL rfl) (ea_cons (EvN.ev (en_rev (ev_varL rfl))) ea_nil)))) (by nested_key)) ?_
  have one : ∀ {δ' : List Sd}, δ'[6]? = some (.d L[m].enc) → EvN dr (tLst (tCons (tVar 6) tNil)) δ' [L[m].enc] := fun h => en_lst (ead_cons (ev_var h) ead_nil) (by nested_key)
  try dsimp only [List.set, setAll, Vd.sd]
  refine w_asg hB (ev_op (ev_varV rfl) (ev_lstL (ls := [(L.take m).map Stand.enc ++ [L[m].enc], L.map Stand.enc ++ [L[m].enc], [L[m].enc] ++ (L.drop (m + 1)).map Stand.enc]) (ea_cons (EvN.ev (en_op (ev_varV rfl) (EvN.ev (one rfl)) (rn_cat (by simp only [small, List.length_map, List.length_take, List.length_cons, List.length_nil]; omega)))) (ea_cons (EvN.ev (en_op (ev_varL rfl) (EvN.ev (one rfl)) (rn_cat (by simp only [small, List.length_map, List.length_cons, List.length_nil]; omega)))) (ea_cons (EvN.ev (en_op (EvN.ev (one rfl)) (ev_varV rfl) (rn_cat (by simp only [small, List.length_map, List.length_drop, List.length_cons, List.length_nil]; omega)))) ea_nil))) (by nested_key)) (rr_catLL (by nested_key))) ?_
  have h80 := Int.emod_nonneg n (show (8 : Int) ≠ 0 by omega)
  have h81 := Int.emod_lt_of_pos n (show (0 : Int) < 8 by omega)
  try dsimp only [List.set, setAll, Vd.sd]
  refine w_asgAL hB (ev_op (ev_op (ev_varV rfl) (ev_lstL (ls := [(L.take m).map Stand.enc ++ [L[k].enc] ++ (L.drop (m + 1)).map Stand.enc]) (ea_cons (EvN.ev (en_op (EvN.ev (en_op (ev_varV rfl) (EvN.ev (en_lst (ds := [L[k].enc]) (ead_cons (ev_op (ev_varL rfl) (ev_var rfl) (rr_ixL (at_map (by omega) gk))) ead_nil) (by nested_key))) (rn_cat (by simp only [small, List.length_map, List.length_take, List.length_cons, List.length_nil]; omega)))) (ev_varV rfl) (rn_cat (by simp only [small, List.length_append, List.length_map, List.length_take, List.length_drop, List.length_cons, List.length_nil]; omega)))) ea_nil) (by nested_key)) (rr_catLL (by nested_key))) (ev_op (ev_var rfl) ev_int (rr_I (by decide) fun _ => .int _)) (rr_ixLLA h80 (by simp only [List.length_append, List.length_cons, List.length_nil]; omega))) fun es hes => ?_
  obtain ⟨D, rfl, hD, hokD⟩ : ∃ D : List Stand, es = D.map Stand.enc ∧ D.length ≤ 3501 ∧ ∀ x ∈ D, StandOk t x := by
    have t1 : ∀ x ∈ L.take m, StandOk t x := fun x hx => hok x (List.mem_of_mem_take hx)
    have t2 : ∀ x ∈ L.drop (m + 1), StandOk t x := fun x hx => hok x (List.mem_of_mem_drop hx)
    have om : StandOk t L[m] := hok _ (List.getElem_mem _)
    have ok : StandOk t L[k] := hok _ (List.getElem_mem _)
    have ap : ∀ {xs ys : List Stand}, (∀ x ∈ xs, StandOk t x) → (∀ x ∈ ys, StandOk t x) → ∀ x ∈ xs ++ ys, StandOk t x := fun h1 h2 x hx => (List.mem_append.mp hx).elim (h1 x) (h2 x)
    have sg : ∀ {a : Stand}, StandOk t a → ∀ x ∈ [a], StandOk t x := fun h x hx => by rw [List.mem_singleton.mp hx]; exact h
    simp only [List.mem_append, List.mem_cons, List.not_mem_nil, or_false] at hes
    rcases hes with ((rfl | rfl | rfl | rfl) | (rfl | rfl | rfl)) | rfl
    · exact ⟨L, rfl, by omega, hok⟩
    · refine ⟨L.take m ++ L.drop (m + 1), by simp only [List.map_append, List.map_cons, List.map_nil], ?_, ap t1 t2⟩
      simp only [List.length_append, List.length_take, List.length_drop]; omega
    · refine ⟨_, rfl, by simp only [List.length_set]; omega, fun x hx => ?_⟩
      rcases List.mem_or_eq_of_mem_set hx with h | h
      · rcases List.mem_or_eq_of_mem_set h with h | h
        · exact hok x h
        · rw [h]; exact ok
      · rw [h]; exact om
    · exact ⟨L.reverse, by simp, by simp; omega, fun x hx => hok x (List.mem_reverse.mp hx)⟩
    · refine ⟨L.take m ++ [L[m]], by simp only [List.map_append, List.map_cons, List.map_nil], ?_, ap t1 (sg om)⟩
      simp only [List.length_append, List.length_take, List.length_cons, List.length_nil]; omega
    · refine ⟨L ++ [L[m]], by simp only [List.map_append, List.map_cons, List.map_nil], ?_, ap hok (sg om)⟩
      simp only [List.length_append, List.length_cons, List.length_nil]; omega
    · refine ⟨[L[m]] ++ L.drop (m + 1), by simp only [List.map_append, List.map_cons, List.map_nil], ?_, ap (sg om) t2⟩
      simp only [List.length_append, List.length_drop, List.length_cons, List.length_nil]; omega
    · refine ⟨L.take m ++ [L[k]] ++ L.drop (m + 1), by simp only [List.map_append, List.map_cons, List.map_nil], ?_, ap (ap t1 (sg ok)) t2⟩
      simp only [List.length_append, List.length_take, List.length_drop, List.length_cons, List.length_nil]; omega
  have e1 : cutD (L.map Stand.enc) none (some 1) = (L.take 1).map Stand.enc := cutD_takeM (n := 1) (by omega)
  have hkk : ((if (D.map Stand.enc).isEmpty = true then (1 : Int) else 0)).toNat ≤ 1 := by split <;> decide
  try dsimp only [List.set, setAll, Vd.sd]
  refine w_ret hB (Ev.any (ev_tup (ead_cons ev_str (ead_cons (ev_cb (ea_cons (EvN.ev (en_op (ev_varV rfl) (EvN.ev (en_op (Ev.is (EvN.ev (en_slL (ev_varL rfl) eo_none (eo_some ev_int))) (congrArg _ e1)) (ev_cb (ea_cons (ev_op (ev_varV rfl) (EvN.ev (en_lst ead_nil (by nested_key))) (rr_eqNil (shaped_ls _))) ea_nil) rc_intB) (rn_rep (by split <;> decide) (by split <;> decide) (by unfold small; rw [List.length_map, List.length_take]; have := Nat.mul_le_mul (Nat.min_le_left 1 L.length) hkk; omega)))) (rn_cat (by simp only [small, List.length_map, List.length_flatten, List.map_replicate, List.length_take, List.sum_replicate_nat]; have := Nat.mul_le_mul hkk (Nat.min_le_left 1 L.length); omega)))) ea_nil) rc_tupL) ead_nil)) (by nested_key)) ?_) hR
  cases D with
  | nil =>
    cases L with
    | nil => exact absurd rfl hne
    | cons a l => exact ⟨[a], rfl, by simp, by simp, fun x hx => by rw [List.mem_singleton.mp hx]; exact hok a (by simp)⟩
  | cons a l => exact ⟨a :: l, by simp [Ans.enc], by simp, by omega, hokD⟩
end
end Ed
end
section
set_option maxHeartbeats 4000000
namespace Ed
open PySem L2
local macro_rules | `(tactic| nested_key) => `(tactic| first
  | rfl
  | assumption
  | omega
  | exact Nat.le_of_ble_eq_true rfl
  | decide
  | (simp only [List.length_map, small]; omega)
  | (simp [small]; done)
  | (simp only [Vd.sd, setAll, List.set, mutAll, okm, Fr] at *; simp_all; done))

section
variable {P : Program} {w : World} {K : PySem.W.Frag} {mg : Str → Option Value} {base : Heap} {dr : Option Addr} {δ : List Sd} {ta : TA} {te : TE}
theorem e__law_bent_walk {ta : TA} {t : Task} {L : List Stand} (h : EvA dr ta δ [.g drV, .l (L.map Stand.enc)]) (h1 : L ≠ []) (h2 : L.length ≤ 3500) (h3 : ∀ x ∈ L, StandOk t x) : Ev dr (tCall sp__law_bent_walk [] C8.E0 ta) δ (.g (anyV (wkZ t))) := ev_call h ⟨t, L, rfl, h1, h2, h3, rfl⟩
/-! _law_answers -/
def ansZ (t : Task) : List PyData → Prop := fun es => ∃ xs : List Ans, es = xs.map Ans.enc ∧ xs.length ≤ 14 ∧ ∀ x ∈ xs, AnsL t x
def q__law_answers : List Vd → Vd → Prop := fun a z => ∃ (t : Task) (s : Stand) (L : List Stand), a = [.g drV, .d t.enc, .d s.enc, .l (L.map Stand.enc)] ∧ TaskOk t ∧ SW t s ∧ L.length ≤ 3500 ∧ (∀ x ∈ L, StandOk t x) ∧ z = .g (anyL (ansZ t))
abbrev sp__law_answers : Sp := spP q__law_answers
abbrev s__law_answers : Stmt := Hd.top 89
abbrev N__law_answers : List Str := ["_law_draws_here", "_law_task_here", "_law_stand", "_law_dead_here", "_law_found", "_law_turn", "_law_lead", "_law_days_here"]
theorem nd__law_answers : N__law_answers.Nodup := by decide +kernel
theorem sc__law_answers : C8.scC N__law_answers ["_law_draws_here", "_law_task_here", "_law_stand", "_law_dead_here"] (C8.fnScope s__law_answers) = true := by decide +kernel
def t__law_answers (K : PySem.W.Frag) : TS :=
  (tSeq (tAsg (tLst (tCons (tCall sp__law_lasso [] C8.E0 (tCons (tVar 0) (tCons (tVar 1) (tCons (tVar 2) tNil)))) tNil)) (gName 4))
  (tSeq (tFor (iRng1 (tCons (tC (.int 3)) tNil)) (gName 5) (tSeq (tDrop (tBM K "list" rAppend (tVar 4) (tCons (tCall sp__law_bent_on [] C8.E0 (tCons (tVar 0) (tCons (tOp (rIxL K) (tVar 4) (tUn oNeg (tC (.int 1)))) tNil))) tNil)))
  tNext))
  (tSeq (tAsg (tCall sp__law_drawn_days [] C8.E0 (tCons (tVar 0) (tCons (tVar 1) (tCons (tVar 2) tNil)))) (gName 6))
  (tSeq (tDrop (tBM K "list" rAppend (tVar 4) (tCons (tTup (tCons (tC (.str "on")) (tCons (tVar 6) (tCons (tCall sp__law_drawn_days [] C8.E0 (tCons (tVar 0) (tCons (tVar 1) (tCons (tTup (tCons (tC (.int 0)) (tCons (tOp (rIxT K) (tVar 1) (tC (.int 0))) (tCons (tTup tNil) (tCons (tTup tNil) tNil))))) tNil)))) tNil)))) tNil)))
  (tSeq (tFor (iRng1 (tCons (tC (.int 4)) tNil)) (gName 5) (tSeq (tAsg (tOp oAdd (tC (.int 1)) (tOp oMod (tCall sp__law_next [] C8.E0 (tCons (tVar 0) tNil)) (tOp (rIxL K) (tLst (tCons (tC (.int 4)) (tCons (tC (.int 12)) (tCons (tC (.int 60)) (tCons (tC (.int 400)) tNil))))) (tVar 5)))) (gName 7))
  (tSeq (tDrop (tBM K "list" rAppend (tVar 4) (tCons (tTup (tCons (tC (.str "count")) (tCons (tVar 7) (tCons (tOp oMod (tCall sp__law_next [] C8.E0 (tCons (tVar 0) tNil)) (tCB (rLen K) (tCons (tOp (rIxT K) (tVar 1) (tC (.int 2))) tNil))) tNil)))) tNil)))
  tNext)))
  (tSeq (tFor (iRng1 (tCons (tOp oMul (tC (.int 4)) (tCB rInt1 (tCons (tOp (rNeD K) (tVar 3) (tLst tNil)) tNil))) tNil)) (gName 5) (tSeq (tDrop (tBM K "list" rAppend (tVar 4) (tCons (tCall sp__law_bent_walk [] C8.E0 (tCons (tVar 0) (tCons (tVar 3) tNil))) tNil)))
  tNext))
  (tSeq (tRet (tVar 4))
  tNext)))))))
theorem d__law_answers {P : Program} {w : World} {K : PySem.W.Frag} {mg : Str → Option Value} {base : Heap} (T : Top K mg) (f : Addr) (cdv : Value) (A : Around) (outer : List Env) (s : Shared) (H : Hp) (E : XK)
    (hr : Room 2 (A.deeper (PyProof.Rows.envOfC "_law_answers" (C8.fnScope s__law_answers) s.heap.objs.size f cdv))) :
    PSs (cxOf C8.CX0 P w K mg base N__law_answers "_law_answers" (C8.fnScope s__law_answers) f cdv A outer s H E).nox (C8.fnBody s__law_answers) (t__law_answers K) :=
  (pss_cons (ps_set (i := 4) nd__law_answers rfl (by first | exact Or.inl rfl | exact Or.inr rfl) (pe_lst (pa_cons (C8.pe_c (c__law_lasso T) hr (by decide) rfl (pa_cons (pv 0) (pa_cons (pv 1) (pa_cons (pv 2) pa_nil)))) pa_nil)))
  (pss_cons (ps_for PassesOwn.never rfl (pi_range1 rfl T.n_range (pa_cons pe_int pa_nil)) (pg_name (i := 5) nd__law_answers rfl (by first | exact Or.inl rfl | exact Or.inr rfl)) (pss_cons (ps_expr (pe_bm PySem.F.plainAttrs_list PySem.F.slot_list_append PySem.F.type_list_append mt_append (pv 4) (pa_cons (C8.pe_c (c__law_bent_on T) hr (by decide) rfl (pa_cons (pv 0) (pa_cons (pe_ix ix_list (pv 4) (pe_un un_neg pe_int) (fun _ _ => rfl)) pa_nil))) pa_nil)))
  pss_nil))
  (pss_cons (ps_set (i := 6) nd__law_answers rfl (by first | exact Or.inl rfl | exact Or.inr rfl) (C8.pe_c (c__law_drawn_days T) hr (by decide) rfl (pa_cons (pv 0) (pa_cons (pv 1) (pa_cons (pv 2) pa_nil)))))
  (pss_cons (ps_expr (pe_bm PySem.F.plainAttrs_list PySem.F.slot_list_append PySem.F.type_list_append mt_append (pv 4) (pa_cons (pe_tup (pa_cons pe_str (pa_cons (pv 6) (pa_cons (C8.pe_c (c__law_drawn_days T) hr (by decide) rfl (pa_cons (pv 0) (pa_cons (pv 1) (pa_cons (pe_tup (pa_cons pe_int (pa_cons (pe_ix ix_tup (pv 1) pe_int (fun _ _ => rfl)) (pa_cons (pe_tup pa_nil) (pa_cons (pe_tup pa_nil) pa_nil))))) pa_nil)))) pa_nil)))) pa_nil)))
  (pss_cons (ps_for PassesOwn.never rfl (pi_range1 rfl T.n_range (pa_cons pe_int pa_nil)) (pg_name (i := 5) nd__law_answers rfl (by first | exact Or.inl rfl | exact Or.inr rfl)) (pss_cons (ps_set (i := 7) nd__law_answers rfl (by first | exact Or.inl rfl | exact Or.inr rfl) (pe_op op_add pe_int (pe_op op_mod (C8.pe_c (c__law_next T) hr (by decide) rfl (pa_cons (pv 0) pa_nil)) (pe_ix ix_list (pe_lst (pa_cons pe_int (pa_cons pe_int (pa_cons pe_int (pa_cons pe_int pa_nil))))) (pv 5) (fun _ _ => rfl)))))
  (pss_cons (ps_expr (pe_bm PySem.F.plainAttrs_list PySem.F.slot_list_append PySem.F.type_list_append mt_append (pv 4) (pa_cons (pe_tup (pa_cons pe_str (pa_cons (pv 7) (pa_cons (pe_op op_mod (C8.pe_c (c__law_next T) hr (by decide) rfl (pa_cons (pv 0) pa_nil)) (pe_callB cr_len (by rfl) T.n_len bt_len (pa_cons (pe_ix ix_tup (pv 1) pe_int (fun _ _ => rfl)) pa_nil))) pa_nil)))) pa_nil)))
  pss_nil)))
  (pss_cons (ps_for PassesOwn.never rfl (pi_range1 rfl T.n_range (pa_cons (pe_op op_mul pe_int (pe_callTy cr_int (by rfl) T.n_int bt_int (pa_cons (pe_cmpR (op_neD hr.units) (pv 3) (pe_lst pa_nil) (nomark _)) pa_nil))) pa_nil)) (pg_name (i := 5) nd__law_answers rfl (by first | exact Or.inl rfl | exact Or.inr rfl)) (pss_cons (ps_expr (pe_bm PySem.F.plainAttrs_list PySem.F.slot_list_append PySem.F.type_list_append mt_append (pv 4) (pa_cons (C8.pe_c (c__law_bent_walk T) hr (by decide) rfl (pa_cons (pv 0) (pa_cons (pv 3) pa_nil))) pa_nil)))
  pss_nil))
  (pss_cons (ps_ret (pv 4))
  pss_nil)))))))
theorem onZ_ans {t : Task} {N : Nat} {e : PyData} (h : onZ N e) (hN : N ≤ 1000) : ∃ x : Ans, e = x.enc ∧ AnsL t x := by
  obtain ⟨l, r, rfl, h1, h2, h3, h4, h5⟩ := h
  exact ⟨_, rfl, by omega, h2, by omega, h4, h5⟩
theorem wkZ_ans {t : Task} {e : PyData} (h : wkZ t e) : ∃ x : Ans, e = x.enc ∧ AnsL t x := by
  obtain ⟨st, rfl, h⟩ := h
  exact ⟨_, rfl, h⟩
def AFl (t : Task) (n : Nat) (es : List PyData) : Prop := ∃ xs : List Ans, es = xs.map Ans.enc ∧ xs.length = n ∧ ∀ x ∈ xs, AnsL t x
theorem AFl.snoc {t : Task} {n : Nat} {es : List PyData} {e : PyData} (h : AFl t n es) (he : ∃ x : Ans, e = x.enc ∧ AnsL t x) : AFl t (n + 1) (es ++ [e]) := by
  obtain ⟨xs, rfl, h1, h2⟩ := h
  obtain ⟨x, rfl, h3⟩ := he
  refine ⟨xs ++ [x], by simp, by simp [h1], fun y hy => ?_⟩
  rcases List.mem_append.mp hy with h | h
  · exact h2 y h
  · rw [List.mem_singleton.mp h]; exact h3
theorem AFl.len {t : Task} {n : Nat} {es : List PyData} (h : AFl t n es) : es.length = n := by
  obtain ⟨xs, rfl, h1, h2⟩ := h
  rw [List.length_map, h1]
theorem at_lastD {es : List PyData} {e : PyData} : atI (es ++ [e]) (-1) = some e := by
  have := at_last (f := fun d : PyData => d) (xs := es ++ [e]) (a := e) (by simp)
  simpa using this
theorem sw_start {t : Task} (ht : TaskOk t) : SW t ⟨0, t.num, [], []⟩ := by
  have h := ht.off
  exact ⟨Int.le_refl 0, by show (0 : Int) < _; have := h.1; omega, rfl, by simp, by simp⟩
theorem Ev.anyL {ZL : List PyData → Prop} {ds : List PyData} (h : Ev dr te δ (.l ds)) (hz : ZL ds) : Ev dr te δ (.g (anyL ZL)) := fun σ H s j Q q => h σ H s j Q fun v H2 e2 h2 => q v H2 e2 ⟨ds, hz, h2⟩
theorem ev_four {L : List Stand} (h : Ev dr te δ (.l (L.map Stand.enc))) : Ev dr (tOp oMul (tC (.int 4)) (tCB rInt1 (tCons (tOp (rNeD K) te (tLst tNil)) tNil))) δ (.d (.int (if L.isEmpty then 0 else 4))) :=
  Ev.is (z := .d (.int (4 * (if (!(L.map Stand.enc).isEmpty) then 1 else 0)))) (ev_op ev_int (ev_cb (ea_cons (ev_op h (EvN.ev (en_lst ead_nil (by nested_key))) (rr_neNil (shaped_ls _))) ea_nil) rc_intB) (rr_I (Or.inl ⟨by decide, by decide⟩ : CMul _ _) fun _ => .int _)) (by cases L <;> rfl)
theorem c__law_answers (T : Top K mg) : C8.Cal P w K mg base 3 "_law_answers" sp__law_answers [] := by
  refine cal_of T.f__law_answers sc__law_answers (t__law_answers K) (fun zs z h => ?_) (fun f cdv A outer s H E hr => d__law_answers T f cdv A outer s H E hr) (fun dr B E zs z hp hB hR hN => ?_)
  · obtain ⟨_, _, _, rfl, _⟩ := h; rfl
  obtain ⟨t, s, L, rfl, ht, hs, hL, hok, rfl⟩ := hp
  refine w_open (i := 3) rfl fun q nq => ?_
  refine w_asgNS (ZL := fun es => ∃ e, onZ 100 e ∧ es = [e]) hB (en_lstA (ea_cons (e__law_lasso (ea_cons (ev_varV rfl) (ea_cons (ev_var rfl) (ea_cons (ev_var rfl) ea_nil))) ht hs) ea_nil) fun H vs h => by
    match vs, h with
    | [u], ⟨⟨e, hz, h1⟩, _⟩ => exact ⟨[e], ⟨e, hz, rfl⟩, .cons h1 .nil, by nested_key⟩) fun p ds hz np mp fr => ?_
  obtain ⟨e0, he0, rfl⟩ := hz
  have hqp : q ≠ p := fr_get (i := 3) fr rfl
  refine w_forR1 (fun i δ' => ∃ (es : List PyData) (e : PyData) (c5 : Sd), δ' = [.v (.g drV), .d t.enc, .d s.enc, .l q (L.map Stand.enc), .l p (es ++ [e]), c5, .x, .x] ∧ AFl t (i + 1) (es ++ [e]) ∧ onZ (100 * 2 ^ i) e ∧ okm p c5) hB (ea_cons ev_int ea_nil) (by nested_key) (by nested_key) ⟨[], e0, .x, rfl, ?_, he0, trivial⟩ (fun i δ' hi hI => ?_) (fun δ' hI => ?_)
  · obtain ⟨x, hx, hx2⟩ := onZ_ans (t := t) he0 (by omega)
    exact ⟨[x], by rw [hx]; rfl, rfl, fun y hy => by rw [List.mem_singleton.mp hy]; exact hx2⟩
  · obtain ⟨es, e, c5, rfl, ha, ho, k5⟩ := hI
    have hp2 : 2 ^ i ≤ 4 := by
      have : i = 0 ∨ i = 1 ∨ i = 2 := by omega
      rcases this with rfl | rfl | rfl <;> decide
    have hl := ha.len
    refine w_appA hB rfl mp (e__law_bent_on (n := 100 * 2 ^ i) (ea_cons (ev_varV rfl) (ea_cons (Ev.any (ev_op (ev_varL rfl) (ev_neg ev_int) (rr_ixL at_lastD)) ho) ea_nil)) (by omega)) (by omega) ⟨rfl, trivial, trivial, hqp, trivial, trivial, trivial, trivial, trivial⟩ fun e' he' => ?_
    have hd : 2 * (100 * 2 ^ i) = 100 * 2 ^ (i + 1) := by rw [Nat.pow_succ]; omega
    rw [hd] at he'
    exact w_end ⟨es ++ [e], e', .d (.int i), rfl, ha.snoc (onZ_ans he' (by omega)), he', trivial⟩
  obtain ⟨es, e, c5, rfl, ha, ho, k5⟩ := hI
  have ha : AFl t 4 (es ++ [e]) := ha
  generalize es ++ [e] = fs at ha ⊢
  have hl := ha.len
  refine w_asgA hB (e__law_drawn_days (ea_cons (ev_varV rfl) (ea_cons (ev_var rfl) (ea_cons (ev_var rfl) ea_nil))) ht hs) fun e1 he1 => ?_
  obtain ⟨ld, rfl, l1, l2, l3⟩ := he1
  refine w_appA hB rfl mp (ev_tupA (ZL := fun ds => ∃ e, drawnZ e ∧ ds = [.str "on", dII ld, e]) (ea_cons ev_str (ea_cons (ev_var (d := dII ld) rfl) (ea_cons (e__law_drawn_days (s := ⟨0, t.num, [], []⟩) (ea_cons (ev_varV rfl) (ea_cons (ev_var rfl) (ea_cons (ev_tup (ds := [.int 0, dI t.num, dI [], dI []]) (ead_cons ev_int (ead_cons (ev_op (ev_var (d := t.enc) rfl) ev_int (rr_ixT at0)) (ead_cons (ev_tup (ds := []) ead_nil (by nested_key)) (ead_cons (ev_tup (ds := []) ead_nil (by nested_key)) ead_nil)))) (by nested_key)) ea_nil))) ht (sw_start ht)) ea_nil))) fun H vs h => by
      match vs, h with
      | [u, v, w], ⟨h1, h2, ⟨e, hz, h3⟩, _⟩ => exact ⟨_, ⟨e, hz, rfl⟩, .cons h1 (.cons h2 (.cons h3 .nil)), by nested_key⟩) (by omega) ⟨rfl, trivial, trivial, hqp, trivial, k5, trivial, trivial, trivial⟩ fun e' he' => ?_
  obtain ⟨_, ⟨e2, ⟨rg, rfl, r1, r2, r3⟩, rfl⟩, rfl⟩ := he'
  have ha5 : AFl t 5 (fs ++ [.tuple [.str "on", dII ld, dII rg]]) := ha.snoc ⟨.on ld rg, rfl, by omega, r1, by omega, l3, r3⟩
  generalize fs ++ [PyData.tuple [.str "on", dII ld, dII rg]] = gs at ha5 ⊢
  refine w_forR1 (fun i δ' => ∃ (es : List PyData) (c5 c7 : Sd), δ' = [.v (.g drV), .d t.enc, .d s.enc, .l q (L.map Stand.enc), .l p es, c5, .d (dII ld), c7] ∧ AFl t (5 + i) es ∧ okm p c5 ∧ okm p c7) hB (ea_cons ev_int ea_nil) (by nested_key) (by nested_key) ⟨gs, c5, .x, rfl, ha5, k5, trivial⟩ (fun i δ' hi hI => ?_) (fun δ' hI => ?_)
  · obtain ⟨es, c5, c7, rfl, ha, k5, k7⟩ := hI
    have hl := ha.len
    obtain ⟨m, hat, hm0, hm1⟩ : ∃ m : Int, atI [PyData.int 4, .int 12, .int 60, .int 400] (i : Int) = some (.int m) ∧ 0 < m ∧ m ≤ 400 := by
      have : i = 0 ∨ i = 1 ∨ i = 2 ∨ i = 3 := by omega
      rcases this with rfl | rfl | rfl | rfl <;> exact ⟨_, rfl, by decide, by decide⟩
    refine w_asgA (Z := iZ fun n => 1 ≤ n ∧ n ≤ 400) hB (ev_op ev_int (ev_op (e__law_next (ea_cons (ev_varV rfl) ea_nil)) (ev_op (EvN.ev (en_lst (ead_cons ev_int (ead_cons ev_int (ead_cons ev_int (ead_cons ev_int ead_nil)))) (by nested_key))) (ev_var rfl) (rr_ixL hat)) (rr_modA hm0)) (rr_anyR fun e ⟨n, hn, he⟩ => ⟨.int (1 + n), ⟨_, by omega, rfl⟩, by subst he; exact rr_I0 fun _ => .int _⟩)) fun e he => ?_
    obtain ⟨dn, hdn, rfl⟩ := he
    have hoff := ht.off.1
    refine w_appA hB rfl mp (ev_tupA (ZL := fun ds => ∃ n : Int, (0 ≤ n ∧ n < t.off.length) ∧ ds = [.str "count", .int dn, .int n]) (ea_cons ev_str (ea_cons (ev_var (d := .int dn) rfl) (ea_cons (ev_op (e__law_next (ea_cons (ev_varV rfl) ea_nil)) (ev_cb (ea_cons (ev_op (ev_var (d := t.enc) rfl) ev_int (rr_ixT at2)) ea_nil) rc_lenT) (rr_modA (by rw [List.length_map]; omega))) ea_nil))) fun H vs h => by
      match vs, h with
      | [u, v, w], ⟨h1, h2, ⟨_, ⟨n, hn, rfl⟩, h3⟩, _⟩ => exact ⟨_, ⟨n, by rw [List.length_map] at hn; exact hn, rfl⟩, .cons h1 (.cons h2 (.cons h3 .nil)), by nested_key⟩) (by omega) ⟨rfl, trivial, trivial, hqp, trivial, trivial, trivial, trivial, trivial⟩ fun e' he' => ?_
    obtain ⟨_, ⟨n, hn, rfl⟩, rfl⟩ := he'
    exact w_end ⟨_, .d (.int i), .d (.int dn), rfl, ha.snoc ⟨.count dn n, rfl, ⟨by omega, by omega, hn.1, hn.2⟩, hdn.2⟩, trivial, trivial⟩
  obtain ⟨es9, c5', c7, rfl, ha9, k5', k7⟩ := hI
  refine w_forR1 (n := if L.isEmpty then 0 else 4) (fun i δ' => ∃ (es : List PyData) (c5 : Sd), δ' = [.v (.g drV), .d t.enc, .d s.enc, .l q (L.map Stand.enc), .l p es, c5, .d (dII ld), c7] ∧ AFl t (9 + i) es ∧ okm p c5) hB (ea_cons (ev_four (ev_varL rfl)) ea_nil) (by split <;> decide) (by split <;> decide) ⟨es9, c5', rfl, ha9, k5'⟩ (fun i δ' hi hI => ?_) (fun δ' hI => ?_)
  · obtain ⟨es, c5, rfl, ha, k5⟩ := hI
    have hl := ha.len
    have hi4 : i < 4 := by split at hi <;> omega
    have hne : L ≠ [] := by
      rintro rfl
      simp at hi
      omega
    refine w_appA hB rfl mp (e__law_bent_walk (ea_cons (ev_varV rfl) (ea_cons (ev_varL rfl) ea_nil)) hne hL hok) (by omega) ⟨rfl, trivial, trivial, hqp, trivial, trivial, trivial, k7, trivial⟩ fun e' he' => ?_
    exact w_end ⟨_, .d (.int i), rfl, ha.snoc (wkZ_ans he'), trivial⟩
  obtain ⟨es, c5, rfl, ha, k5⟩ := hI
  refine w_ret hB (Ev.anyL (ev_varL rfl) ?_) hR
  obtain ⟨xs, h1, h2, h3⟩ := ha
  refine ⟨xs, h1, ?_, h3⟩
  rw [h2]
  split <;> decide
theorem e__law_answers {ta : TA} {t : Task} {s : Stand} {L : List Stand} (h : EvA dr ta δ [.g drV, .d t.enc, .d s.enc, .l (L.map Stand.enc)]) (ht : TaskOk t) (hs : SW t s) (h2 : L.length ≤ 3500) (h3 : ∀ x ∈ L, StandOk t x) : Ev dr (tCall sp__law_answers [] C8.E0 ta) δ (.g (anyL (ansZ t))) := ev_call h ⟨t, s, L, rfl, ht, hs, h2, h3, rfl⟩
end
end Ed
end
section
set_option maxHeartbeats 4000000
namespace Ed
open PySem L2
local macro_rules | `(tactic| nested_key) => `(tactic| first
  | rfl
  | assumption
  | omega
  | exact Nat.le_of_ble_eq_true rfl
  | decide
  | (simp only [List.length_map, small]; omega)
  | (simp [small]; done)
  | (simp only [Vd.sd, setAll, List.set, mutAll, okm, Fr] at *; simp_all; done))

section
variable {P : Program} {w : World} {K : PySem.W.Frag} {mg : Str → Option Value} {base : Heap} {C : Addr} {dr : Option Addr} {δ : List Sd} {ta : TA} {te tl : TE} {tz tu : TS} {B : Hp → Prop} {E : Ends}
theorem rr_impA {x y : Vd} {r : R2} {Z Z' : PyData → Prop} (h : RR dr r x y (.g (anyV Z))) (hz : ∀ e, Z e → Z' e) : RR dr r x y (.g (anyV Z')) := fun v w H hv hw jd Q q => h v w H hv hw jd Q fun u H2 e2 ⟨e, h1, h2⟩ => q u H2 e2 ⟨e, hz e h1, h2⟩
theorem stand0_ok {t : Task} (ht : TaskOk t) : StandOk t ⟨0, t.num, [], []⟩ where
  ph0 := Int.le_refl _
  ph1 := by have := ht.off.1; show (0 : Int) < _; omega
  wl := rfl
  wt := fun i x n h1 h2 => by
    have h1 : t.num[i]? = some x := h1
    rw [h1] at h2
    cases h2
    exact ⟨(ht.num.2 x (List.mem_of_getElem? h1)).1, Int.le_refl _⟩
  bz := rfl
  bl := by rcases ht.hands with h | h <;> rw [h] <;> simp
  bm := fun i h => nomatch h
  ls := rfl
  ll := by rcases ht.hands with h | h <;> rw [h] <;> simp
  lm := fun i h => nomatch h
  both := by rcases ht.hands with h | h <;> rw [h] <;> simp
  be := fun i h => nomatch h
theorem dead_len {t : Task} {s : Stand} {F : List Stand} (ht : TaskL t) (h : DeadOk t s F) : F.length ≤ 3500 ∧ ∀ x ∈ F, StandOk t x := by
  obtain ⟨keys, _, hok, _, hF⟩ := h.ex
  have h2 : ∀ x ∈ F, StandOk t x := fun x hx => hok x (hF x hx)
  exact ⟨by have := few_stands ht h.nd h2; omega, h2⟩
/-- over a list of which only a property is told -/
theorem w_forAL {j : Nat} {α : Type} {enc : α → PyData} {Z : List PyData → Prop} (I : Nat → List Sd → Prop) (hB : BOk dr B) (hl : Ev dr tl δ (.g (anyL Z))) (h0 : I 0 δ)
    (hk : ∀ ds, Z ds → ∃ xs : List α, ds = xs.map enc ∧ (∀ B', BOk dr B' → (∀ H, B' H → B H) → ∀ i a δ', xs[i]? = some a → I i δ' → W dr B' { E with nx := NI dr B' (I (i + 1)), ct := NI dr B' (I (i + 1)), bk := tz E } tu (δ'.set j (.d (enc a)))) ∧ ∀ δ', I xs.length δ' → W dr B E tz δ') :
    W dr B E (tSeq (tFor (iList K tl) (gName j) tu) tz) δ := fun σ H s jd b =>
  hl σ H s jd _ fun v H1 e1 h1 => by
    obtain ⟨ds, hz, a, ws, rfl, n, g1, g2⟩ := h1
    obtain ⟨xs, rfl, hs, hd⟩ := hk ds hz
    have hlen : ws.length = xs.length := by rw [g2.length, List.length_map]
    refine ⟨a, rfl, ⟨ws, SqL.of g1⟩, ?_⟩
    refine for_list (xs := ws) (D := { E with nx := tz E }) (fun i σ' H' => NI dr (fun H => B H ∧ Rel dr H1 H) (I i) σ' H') ⟨δ, h0, s.ext e1 jd, e1.jd, hB.ext b jd e1, Rel.refl _⟩ (fun i σ' H' _ p => ?_) (fun i x σ' H' hi p => ?_) (fun σ' H' p => ?_)
    · obtain ⟨δ', _, _, _, _, t⟩ := p
      exact SqL.of (t _ _ n g1)
    · obtain ⟨δ', hI, s', j', b', t⟩ := p
      obtain ⟨d', hd', hx⟩ := g2.getV hi
      rw [List.getElem?_map] at hd'
      obtain ⟨a', ha', rfl⟩ := Option.map_eq_some_iff.mp hd'
      exact hs _ hB.rel (fun H q => q.1) i a' δ' ha' hI _ H' (s'.set ⟨x, rfl, hx.tx (t.tx e1.jd)⟩) j' ⟨b', t⟩
    · obtain ⟨δ', hI, s', j', b', t⟩ := p
      rw [hlen] at hI
      exact hd δ' hI σ' H' s' j' b'
/-- the draws: from here on their list is the one that may change -/
theorem w_draws {z0 : Sd} (h : Ev none te [z0, .x, .x, .x, .x, .x, .x, .x, .x] (.g (anyL drawsZ))) (k : ∀ d, W (some d) (fun _ => True) E tz [.x, .v (.g drV), .x, .x, .x, .x, .x, .x, .x]) : W none (fun _ => True) E (tSeq (tAsg te (gName 1)) tz) [z0, .x, .x, .x, .x, .x, .x, .x, .x] := fun σ H s j b =>
  h σ H s j _ fun v H1 e1 h1 => by
    obtain ⟨ds, ⟨ms, rfl, h0, hl⟩, p, xs, rfl, _, g1, g2⟩ := h1
    have ex := DTs.ints_eq g2
    subst ex
    have hlen : 9 ≤ σ.length := by
      obtain ⟨o, e, _⟩ := s 8 .x rfl
      have := (List.getElem?_eq_some_iff.mp e).1
      omega
    have get : ∀ i, i < 9 → ∃ o, (σ.set 1 (some (V.ref p)))[i]? = some o := fun i hi => ⟨_, List.getElem?_eq_getElem (by rw [List.length_set]; omega)⟩
    refine k p _ H1 (fun i t q => ?_) (fun d e => by cases e; exact ⟨ms, g1, h0, hl⟩) trivial
    match i, q with
    | 0, q => cases q; obtain ⟨o, e⟩ := get 0 (by decide); exact ⟨o, e, trivial⟩
    | 1, q => cases q; exact ⟨some (V.ref p), by rw [List.getElem?_set_self (by omega)], V.ref p, rfl, p, rfl, rfl⟩
    | 2, q => cases q; obtain ⟨o, e⟩ := get 2 (by decide); exact ⟨o, e, trivial⟩
    | 3, q => cases q; obtain ⟨o, e⟩ := get 3 (by decide); exact ⟨o, e, trivial⟩
    | 4, q => cases q; obtain ⟨o, e⟩ := get 4 (by decide); exact ⟨o, e, trivial⟩
    | 5, q => cases q; obtain ⟨o, e⟩ := get 5 (by decide); exact ⟨o, e, trivial⟩
    | 6, q => cases q; obtain ⟨o, e⟩ := get 6 (by decide); exact ⟨o, e, trivial⟩
    | 7, q => cases q; obtain ⟨o, e⟩ := get 7 (by decide); exact ⟨o, e, trivial⟩
    | 8, q => cases q; obtain ⟨o, e⟩ := get 8 (by decide); exact ⟨o, e, trivial⟩
    | i + 9, q => simp at q
theorem bok_true : BOk dr (fun _ => True) := ⟨fun _ _ _ => trivial, fun _ _ _ _ _ _ _ => trivial⟩
/-! law -/
def sp_law (K : PySem.W.Frag) : Sp := fun vs H Q _ => ∃ (a : Addr) (ns : List Int), vs = [.ref a] ∧ SqL K H a (ns.map V.int) ∧ Only H ∧ ∀ H', Q (.bl true) H'
abbrev s_law : Stmt := Hd.top 90
abbrev N_law : List Str := ["_law_script", "_law_draws_here", "_law_turn", "_law_task_here", "_law_stand", "_law_ways_here", "_law_dead_here", "_law_told", "_law_found"]
theorem nd_law : N_law.Nodup := by decide +kernel
theorem sc_law : C8.scC N_law ["_law_script"] (C8.fnScope s_law) = true := by decide +kernel
def t_law (P : Program) (w : World) (C : Addr) (K : PySem.W.Frag) : TS :=
  (tSeq (tAsg (tCall (sp__law_draws K) [] C8.E0 (tCons (tVar 0) (tCons (tC (.int 0)) (tCons (tC (.int 400)) tNil)))) (gName 1))
  (tSeq (tFor (iRng1 (tCons (tC (.int 2)) tNil)) (gName 2) (tSeq (tAsg (tCall sp__law_task [] C8.E0 (tCons (tVar 1) (tCons (tC (.int 150)) tNil))) (gName 3))
  (tSeq (tAsg (tOp (rIxL K) (tLst (tCons (tTup (tCons (tC (.int 0)) (tCons (tOp (rIxT K) (tVar 3) (tC (.int 0))) (tCons (tTup tNil) (tCons (tTup tNil) tNil))))) (tCons (tCall sp__law_made_up [] C8.E0 (tCons (tVar 1) (tCons (tVar 3) tNil))) tNil))) (tOp oMod (tCall sp__law_next [] C8.E0 (tCons (tVar 1) tNil)) (tC (.int 2)))) (gName 4))
  (tSeq (tAsg (tCall (sp__law_ways P w) [] C8.E0 (tCons (tVar 3) (tCons (tVar 4) tNil))) (gName 5))
  (tSeq (tAsg (tCall (sp__law_dead P w) [] C8.E0 (tCons (tVar 5) tNil)) (gName 6))
  (tSeq (tFor (iList K (tCall sp__law_answers [] C8.E0 (tCons (tVar 1) (tCons (tVar 3) (tCons (tVar 4) (tCons (tVar 6) tNil)))))) (gName 7) (tSeq (tAsg (tCall sp_holds [] C8.E0 (tCons (tVar 3) (tCons (tVar 4) (tCons (tVar 7) tNil)))) (gName 8))
  (tSeq (tIfS (tOr (tNot (tB (tCB (rIsi K) (tCons (tVar 8) (tCons (tC (.ty "bool")) tNil))))) (tTest (tOp rNe (tVar 8) (tCall sp__law_holds [] C8.E0 (tCons (tVar 3) (tCons (tVar 4) (tCons (tVar 7) tNil))))))) (tSeq (tRet (tC (.bl false)))
  tNext) tNext)
  (tSeq (tIfS (tAnd (tB (tVar 8)) (tTest (tOp rEq (tOp rEq (tOp (rIxT K) (tVar 7) (tC (.int 0))) (tC (.str "on"))) (tOp (rInD K) (tVar 4) (tVar 6))))) (tSeq (tRet (tC (.bl false)))
  tNext) tNext)
  tNext))))
  tNext))))))
  (tSeq (tRet (tC (.bl true)))
  tNext)))
theorem d_law {P : Program} {w : World} {K : PySem.W.Frag} {mg : Str → Option Value} {base : Heap} (T : Top K mg) {C : Addr} (U : TopH K mg C) (f : Addr) (cdv : Value) (A : Around) (outer : List Env) (s : Shared) (H : Hp) (E : XK)
    (hr : Room 11 (A.deeper (PyProof.Rows.envOfC "law" (C8.fnScope s_law) s.heap.objs.size f cdv))) :
    PSs (cxOf C8.CX0 P w K mg base N_law "law" (C8.fnScope s_law) f cdv A outer s H E).nox (C8.fnBody s_law) (t_law P w C K) :=
  (pss_cons (ps_set (i := 1) nd_law rfl (by first | exact Or.inl rfl | exact Or.inr rfl) (C8.pe_c (c__law_draws T) hr (by decide) rfl (pa_cons (pv 0) (pa_cons pe_int (pa_cons pe_int pa_nil)))))
  (pss_cons (ps_for PassesOwn.never rfl (pi_range1 rfl T.n_range (pa_cons pe_int pa_nil)) (pg_name (i := 2) nd_law rfl (by first | exact Or.inl rfl | exact Or.inr rfl)) (pss_cons (ps_set (i := 3) nd_law rfl (by first | exact Or.inl rfl | exact Or.inr rfl) (C8.pe_c (c__law_task T) hr (by decide) rfl (pa_cons (pv 1) (pa_cons pe_int pa_nil))))
  (pss_cons (ps_set (i := 4) nd_law rfl (by first | exact Or.inl rfl | exact Or.inr rfl) (pe_ix ix_list (pe_lst (pa_cons (pe_tup (pa_cons pe_int (pa_cons (pe_ix ix_tup (pv 3) pe_int (fun _ _ => rfl)) (pa_cons (pe_tup pa_nil) (pa_cons (pe_tup pa_nil) pa_nil))))) (pa_cons (C8.pe_c (c__law_made_up T) hr (by decide) rfl (pa_cons (pv 1) (pa_cons (pv 3) pa_nil))) pa_nil))) (pe_op op_mod (C8.pe_c (c__law_next T) hr (by decide) rfl (pa_cons (pv 1) pa_nil)) pe_int) (fun _ _ => rfl)))
  (pss_cons (ps_set (i := 5) nd_law rfl (by first | exact Or.inl rfl | exact Or.inr rfl) (C8.pe_c (c__law_ways T) hr (by decide) rfl (pa_cons (pv 3) (pa_cons (pv 4) pa_nil))))
  (pss_cons (ps_set (i := 6) nd_law rfl (by first | exact Or.inl rfl | exact Or.inr rfl) (C8.pe_c (c__law_dead T) hr (by decide) rfl (pa_cons (pv 5) pa_nil)))
  (pss_cons (ps_for PassesOwn.never rfl (pi_list (C8.pe_c (c__law_answers T) hr (by decide) rfl (pa_cons (pv 1) (pa_cons (pv 3) (pa_cons (pv 4) (pa_cons (pv 6) pa_nil)))))) (pg_name (i := 7) nd_law rfl (by first | exact Or.inl rfl | exact Or.inr rfl)) (pss_cons (ps_set (i := 8) nd_law rfl (by first | exact Or.inl rfl | exact Or.inr rfl) (C8.pe_c (c_holds T U) hr (by decide) rfl (pa_cons (pv 3) (pa_cons (pv 4) (pa_cons (pv 7) pa_nil)))))
  (pss_cons (ps_if (PW.pt (pw_or (pt_not (pt_val (pe_callB call_isi (by rfl) T.n_isinstance bt_isinstance (pa_cons (pv 8) (pa_cons (pe_bltn (v := .ty "bool") (by rfl) T.n_bool bt_bool rfl) pa_nil))))) (pw_or1 (pt_cmpR op_ne (pv 8) (C8.pe_c (c__law_holds T) hr (by decide) rfl (pa_cons (pv 3) (pa_cons (pv 4) (pa_cons (pv 7) pa_nil)))) (nomark _))))) (pss_cons (ps_ret pe_bl)
  pss_nil) pss_nil)
  (pss_cons (ps_if (PW.pt (pw_and (pt_val (pv 8)) (pw_and1 (pt_cmpR op_eq (pe_cmpR op_eq (pe_ix ix_tup (pv 7) pe_int (fun _ _ => rfl)) pe_str (nomark _)) (pe_cmpR (op_inD (Room.u65 hr)) (pv 4) (pv 6) (by rfl)) (nomark _))))) (pss_cons (ps_ret pe_bl)
  pss_nil) pss_nil)
  pss_nil))))
  pss_nil))))))
  (pss_cons (ps_ret pe_bl)
  pss_nil)))
/-- an answer that holds: on .. iff not dead -/
def isOn : Ans → Bool
  | .on _ _ => true
  | _ => false
theorem told_ok {t : Task} {s : Stand} {F : List Stand} {x : Ans} (ht : TaskL t) (hs : StandOk t s) (hd : DeadOk t s F) (hx : AnsL t x) (h : holdsL t s x = true) : (isOn x == decide (s ∈ F)) = false := by
  cases x with
  | on l r =>
    have := on_live ht ht.ok hd hx.2.1 h
    simp [isOn, this]
  | count d p =>
    have := count_dead ht hd hx.1 h
    simp [isOn, this]
  | walk st =>
    have := walk_dead ht.ok hd (fun x hx' => (hx.2.2 x hx').sw ht.ok) h
    simp [isOn, this]
theorem ev_head {x : Ans} {i : Nat} (hi : δ[i]? = some (.d x.enc)) : Ev dr (tOp rEq (tOp (rIxT K) (tVar i) (tC (.int 0))) (tC (.str "on"))) δ (.d (.bool (isOn x))) := by
  obtain ⟨s1, s2, s3, s4, s5, s6⟩ := s_oc
  cases x with
  | on l r => exact Ev.is (ev_op (ev_op (ev_var (d := (Ans.on l r).enc) hi) ev_int (rr_ixT at0)) ev_str rr_eqS) (by rw [s1]; rfl)
  | count d p => exact Ev.is (ev_op (ev_op (ev_var (d := (Ans.count d p).enc) hi) ev_int (rr_ixT at0)) ev_str rr_eqS) (by rw [s2]; rfl)
  | walk st => exact Ev.is (ev_op (ev_op (ev_var (d := (Ans.walk st).enc) hi) ev_int (rr_ixT at0)) ev_str rr_eqS) (by rw [s3]; rfl)
theorem ev_stand {t : Task} {i j : Nat} (ht : TaskL t) (hi : δ[i]? = some (.v (.g drV))) (hj : δ[j]? = some (.d t.enc)) :
    Ev dr (tOp (rIxL K) (tLst (tCons (tTup (tCons (tC (.int 0)) (tCons (tOp (rIxT K) (tVar j) (tC (.int 0))) (tCons (tTup tNil) (tCons (tTup tNil) tNil))))) (tCons (tCall sp__law_made_up [] C8.E0 (tCons (tVar i) (tCons (tVar j) tNil))) tNil))) (tOp oMod (tCall sp__law_next [] C8.E0 (tCons (tVar i) tNil)) (tC (.int 2)))) δ (.g (anyV (standZ t))) := by
  have h0 : Ev dr (tTup (tCons (tC (.int 0)) (tCons (tOp (rIxT K) (tVar j) (tC (.int 0))) (tCons (tTup tNil) (tCons (tTup tNil) tNil))))) δ (.d (Stand.mk 0 t.num [] []).enc) := Ev.is (ev_tup (ead_cons ev_int (ead_cons (ev_op (ev_var (d := t.enc) hj) ev_int (rr_ixT at0)) (ead_cons (ev_tup ead_nil (by nested_key)) (ead_cons (ev_tup ead_nil (by nested_key)) ead_nil)))) (by nested_key)) rfl
  refine ev_op (EvNS.ev (en_lstA (ZL := fun ds => ∃ s1, StandOk t s1 ∧ ds = [Stand.mk 0 t.num [] [], s1].map Stand.enc) (ea_cons h0 (ea_cons (e__law_made_up (ea_cons (ev_varV hi) (ea_cons (ev_var hj) ea_nil)) ht) ea_nil)) (fun H vs h => ?_))) (ev_op (e__law_next (ea_cons (ev_varV hi) ea_nil)) ev_int (rr_modA (by decide))) (rr_anyLL fun ds hz => ?_)
  · obtain ⟨v1, v2, rfl, h1, e, ⟨s1, hs1, rfl⟩, h2⟩ := oks2 h
    exact ⟨_, ⟨s1, hs1, rfl⟩, .cons h1 (.cons h2 .nil), by show (2 : Nat) ≤ 1000000; decide⟩
  · obtain ⟨s1, hs1, rfl⟩ := hz
    refine rr_impA (rr_ixA (xs := [Stand.mk 0 t.num [] [], s1]) (en := Stand.enc) (fun n h => h)) fun e he => ?_
    obtain ⟨a, ha, rfl⟩ := he
    rcases List.mem_cons.mp ha with rfl | ha
    · exact ⟨_, stand0_ok ht.ok, rfl⟩
    · rw [List.mem_singleton.mp ha]
      exact ⟨_, hs1, rfl⟩
theorem w_law {E : Ends} {a : Addr} {ns : List Int} (hE : ∀ H', E.rt (.bl true) H') : W none (fun _ => True) E (t_law P w C K) [.v (.g (scV K ns)), .x, .x, .x, .x, .x, .x, .x, .x] := by
  refine w_draws (e__law_draws (ns := ns) (ea_cons (ev_varV rfl) (ea_cons ev_int (ea_cons ev_int ea_nil)))) fun d => ?_
  have hB : BOk (some d) (fun _ => True) := bok_true
  have hret : ∀ (B : Hp → Prop) (v : V) (H' : Hp), B H' → Jd (some d) H' → (Vd.d (.bool true)).ok (some d) H' v → E.rt v H' := fun B v H' _ _ hv => by
    cases bl_of hv
    exact hE H'
  refine w_forR1 (fun i δ' => ∃ c2 c3 c4 c5 c6 c7 c8, δ' = [.x, .v (.g drV), c2, c3, c4, c5, c6, c7, c8]) hB (ea_cons ev_int ea_nil) (by decide) (by decide) ⟨_, _, _, _, _, _, _, rfl⟩ (fun i δ' hi hI => ?_) (fun δ' hI => ?_)
  · obtain ⟨c2, c3, c4, c5, c6, c7, c8, rfl⟩ := hI
    refine w_asgA hB (e__law_task (ea_cons (ev_varV rfl) (ea_cons ev_int ea_nil))) fun e hz => ?_
    obtain ⟨t, ht, rfl⟩ := hz
    refine w_asgA hB (ev_stand ht rfl rfl) fun e hz => ?_
    obtain ⟨s, hs, rfl⟩ := hz
    refine w_asg hB (e__law_ways (ea_cons (ev_var rfl) (ea_cons (ev_var rfl) ea_nil)) ht hs) ?_
    refine w_asgAL hB (e__law_dead (ea_cons (ev_varV rfl) ea_nil) ht) fun ds hz => ?_
    obtain ⟨F, hd, rfl⟩ := hz
    obtain ⟨hF1, hF2⟩ := dead_len ht hd
    have hsw := hs.sw ht.ok
    refine w_forAL (enc := Ans.enc) (fun i δ' => ∃ c2 c7 c8, δ' = [.x, .v (.g drV), c2, .d t.enc, .d s.enc, .v (.g (waysV P w t s)), .v (.l (F.map Stand.enc)), c7, c8]) hB (e__law_answers (ea_cons (ev_varV rfl) (ea_cons (ev_var rfl) (ea_cons (ev_var rfl) (ea_cons (ev_varV rfl) ea_nil)))) ht.ok hsw hF1 hF2) ⟨_, _, _, rfl⟩ (fun ds hz => ?_)
    obtain ⟨xs, rfl, _, hxs⟩ := hz
    refine ⟨xs, rfl, fun B' hB' hb' k x δ' hx hI => ?_, fun δ' hI => ?_⟩
    · obtain ⟨c2, c7, c8, rfl⟩ := hI
      have hxl := hxs x (List.mem_of_getElem? hx)
      refine w_asg hB' (z := .d (.bool (holdsL t s x))) (Ev.is (e_holds (ea_cons (ev_var rfl) (ea_cons (ev_var rfl) (ea_cons (ev_var rfl) ea_nil))) ht.ok hs hxl) (by rw [holds_eq ht.ok hsw hxl])) ?_
      refine w_if hB' (et_or (et_not (et_B (ev_isi (ev_var (d := .bool (holdsL t s x)) rfl) kit_bool_bool))) fun _ => (et_test (ev_op (ev_var (d := .bool (holdsL t s x)) rfl) (e__law_holds (x := x) (ea_cons (ev_var rfl) (ea_cons (ev_var rfl) (ea_cons (ev_var rfl) ea_nil))) ht.ok hsw hxl) rr_neB))) (fun hb => ?_) (fun hb => w_nx ?_)
      · simp at hb
      refine w_if hB' (et_and (et_B (ev_var (d := .bool (holdsL t s x)) rfl)) fun _ => (et_test (ev_op (ev_head (x := x) rfl) (ev_op (ev_var (d := s.enc) rfl) (ev_varV (z := .l (F.map Stand.enc)) rfl) (rr_inD ((sh_stand _).ok (by decide)) (shaped_ls _))) rr_eqB))) (fun hb => ?_) (fun hb => w_nx ?_)
      · rw [any_st, Bool.and_eq_true] at hb
        have := told_ok ht hs hd hxl hb.1
        have h2 := hb.2
        rw [decide_eq_true_eq] at h2
        rw [h2] at this
        simp at this
      · exact w_end ⟨_, _, _, rfl⟩
    · obtain ⟨c2, c7, c8, rfl⟩ := hI
      exact w_end ⟨_, _, _, _, _, _, _, rfl⟩
  · obtain ⟨c2, c3, c4, c5, c6, c7, c8, rfl⟩ := hI
    exact w_ret hB ev_bl (hret _)
theorem fn_law (T : Top K mg) (U : TopH K mg C) {f : Addr} {fd : FuncData} (F : C8.Fun K "law" "law" s_law f fd) : FnOk P w K mg base C8.CX0 12 f fd ["_law_script"] (sp_law K) := by
  refine C8.fn0 F (C8.fnScope_by sc_law) (fun vs H Q E h => ?_) (fun cdv A outer s H vs Q E hroom h => ?_)
  · obtain ⟨_, _, rfl, _⟩ := h; rfl
  obtain ⟨a, ns, rfl, hS, hO, q⟩ := h
  refine ⟨t_law P w C K, d_law T U f cdv A outer s H E hroom, ?_⟩
  have hv : ScL K H a (ns.map V.int) := by
    rcases hS with h | h
    · rcases hO a with h0 | ⟨o, xs, h0⟩
      · rcases h with h | ⟨o, h⟩ <;> rw [h0] at h <;> cases h
      · rcases h with h | ⟨o', h⟩
        · rw [h0] at h; cases h
        · exact .inl ⟨o', h⟩
    · exact .inr h
  have hS : Sl none H (L2.start N_law [.ref a]) [.v (.g (scV K ns)), .x, .x, .x, .x, .x, .x, .x, .x] := start_ok (N := N_law) (zs := [.g (scV K ns)]) ⟨⟨a, rfl, (fun z => nomatch z), hv⟩, trivial⟩
  exact w_law (a := a) (E := { nx := fun _ H' => Q .non H', rt := Q }) q _ H hS (fun d e => nomatch e) trivial
end
end Ed
end
section
set_option maxHeartbeats 0
namespace Hd
open PySem PySem.Spec PyProof.Rows L2
def d_is_whole : He.DefD := ⟨("is_whole", none), "is_whole", "is_whole", defArgs (top 5), defBody (top 5), defScope (top 5), [], []⟩
def d_is_row : He.DefD := ⟨("is_row", none), "is_row", "is_row", defArgs (top 6), defBody (top 6), defScope (top 6), [], []⟩
def d_is_rising : He.DefD := ⟨("is_rising", none), "is_rising", "is_rising", defArgs (top 7), defBody (top 7), defScope (top 7), [], []⟩
def d_told_rows : He.DefD := ⟨("told_rows", none), "told_rows", "told_rows", defArgs (top 8), defBody (top 8), defScope (top 8), [], []⟩
def d_is_day : He.DefD := ⟨("is_day", none), "is_day", "is_day", defArgs (top 12), defBody (top 12), defScope (top 12), [], []⟩
def d_are_days : He.DefD := ⟨("are_days", none), "are_days", "are_days", defArgs (top 13), defBody (top 13), defScope (top 13), [], []⟩
def d_is_ring : He.DefD := ⟨("is_ring", none), "is_ring", "is_ring", defArgs (top 14), defBody (top 14), defScope (top 14), [], []⟩
def d_is_numbers : He.DefD := ⟨("is_numbers", none), "is_numbers", "is_numbers", defArgs (top 18), defBody (top 18), defScope (top 18), [], []⟩
def d_is_off : He.DefD := ⟨("is_off", none), "is_off", "is_off", defArgs (top 23), defBody (top 23), defScope (top 23), [], []⟩
def d_is_pair : He.DefD := ⟨("is_pair", none), "is_pair", "is_pair", defArgs (top 24), defBody (top 24), defScope (top 24), [], []⟩
def d_are_pairs : He.DefD := ⟨("are_pairs", none), "are_pairs", "are_pairs", defArgs (top 25), defBody (top 25), defScope (top 25), [], []⟩
def d_is_task : He.DefD := ⟨("is_task", none), "is_task", "is_task", defArgs (top 26), defBody (top 26), defScope (top 26), [], []⟩
def d_asked_task : He.DefD := ⟨("asked_task", none), "asked_task", "asked_task", defArgs (top 27), defBody (top 27), defScope (top 27), [], []⟩
def d_need_of : He.DefD := ⟨("need_of", none), "need_of", "need_of", defArgs (top 30), defBody (top 30), defScope (top 30), [], []⟩
def d_room_of : He.DefD := ⟨("room_of", none), "room_of", "room_of", defArgs (top 31), defBody (top 31), defScope (top 31), [], []⟩
def d_in_ties : He.DefD := ⟨("in_ties", none), "in_ties", "in_ties", defArgs (top 33), defBody (top 33), defScope (top 33), [], []⟩
def d_are_waits : He.DefD := ⟨("are_waits", none), "are_waits", "are_waits", defArgs (top 34), defBody (top 34), defScope (top 34), [], []⟩
def d_is_some_of : He.DefD := ⟨("is_some_of", none), "is_some_of", "is_some_of", defArgs (top 35), defBody (top 35), defScope (top 35), [], []⟩
def d_is_stand_of : He.DefD := ⟨("is_stand_of", none), "is_stand_of", "is_stand_of", defArgs (top 36), defBody (top 36), defScope (top 36), [], []⟩
def d_asked_stand : He.DefD := ⟨("asked_stand", none), "asked_stand", "asked_stand", defArgs (top 37), defBody (top 37), defScope (top 37), [], []⟩
def d_lies_under : He.DefD := ⟨("lies_under", none), "lies_under", "lies_under", defArgs (top 38), defBody (top 38), defScope (top 38), [], []⟩
def d_is_lead : He.DefD := ⟨("is_lead", none), "is_lead", "is_lead", defArgs (top 42), defBody (top 42), defScope (top 42), [], []⟩
def d_is_on : He.DefD := ⟨("is_on", none), "is_on", "is_on", defArgs (top 43), defBody (top 43), defScope (top 43), [], []⟩
def d_is_count : He.DefD := ⟨("is_count", none), "is_count", "is_count", defArgs (top 44), defBody (top 44), defScope (top 44), [], []⟩
def d_is_walk : He.DefD := ⟨("is_walk", none), "is_walk", "is_walk", defArgs (top 45), defBody (top 45), defScope (top 45), [], []⟩
def d_is_answer_of : He.DefD := ⟨("is_answer_of", none), "is_answer_of", "is_answer_of", defArgs (top 46), defBody (top 46), defScope (top 46), [], []⟩
def d_asked_answer : He.DefD := ⟨("asked_answer", none), "asked_answer", "asked_answer", defArgs (top 47), defBody (top 47), defScope (top 47), [], []⟩
def d_all_days : He.DefD := ⟨("all_days", none), "all_days", "all_days", defArgs (top 49), defBody (top 49), defScope (top 49), [], []⟩
def d_is_tied : He.DefD := ⟨("is_tied", none), "is_tied", "is_tied", defArgs (top 50), defBody (top 50), defScope (top 50), [], []⟩
def d_can_be_done : He.DefD := ⟨("can_be_done", none), "can_be_done", "can_be_done", defArgs (top 51), defBody (top 51), defScope (top 51), [], []⟩
def d_later_days : He.DefD := ⟨("later_days", none), "later_days", "later_days", defArgs (top 52), defBody (top 52), defScope (top 52), [], []⟩
def d_wait_behind : He.DefD := ⟨("wait_behind", none), "wait_behind", "wait_behind", defArgs (top 53), defBody (top 53), defScope (top 53), [], []⟩
def d_later_stand : He.DefD := ⟨("later_stand", none), "later_stand", "later_stand", defArgs (top 54), defBody (top 54), defScope (top 54), [], []⟩
def d_led : He.DefD := ⟨("led", none), "led", "led", defArgs (top 56), defBody (top 56), defScope (top 56), [], []⟩
def d_on_holds : He.DefD := ⟨("on_holds", none), "on_holds", "on_holds", defArgs (top 57), defBody (top 57), defScope (top 57), [], []⟩
def d_count_holds : He.DefD := ⟨("count_holds", none), "count_holds", "count_holds", defArgs (top 58), defBody (top 58), defScope (top 58), [], []⟩
def d_runs_out : He.DefD := ⟨("runs_out", none), "runs_out", "runs_out", defArgs (top 60), defBody (top 60), defScope (top 60), [], []⟩
def d_walk_holds : He.DefD := ⟨("walk_holds", none), "walk_holds", "walk_holds", defArgs (top 61), defBody (top 61), defScope (top 61), [], []⟩
def d_answer_holds : He.DefD := ⟨("answer_holds", none), "answer_holds", "answer_holds", defArgs (top 62), defBody (top 62), defScope (top 62), [], []⟩
def d_holds : He.DefD := ⟨("holds", none), "holds", "holds", defArgs (top 63), defBody (top 63), defScope (top 63), [], []⟩
def d__law_cell : He.DefD := ⟨("_law_cell", none), "_law_cell", "_law_cell", defArgs (top 65), defBody (top 65), defScope (top 65), [], []⟩
def d__law_draws : He.DefD := ⟨("_law_draws", none), "_law_draws", "_law_draws", defArgs (top 66), defBody (top 66), defScope (top 66), [], []⟩
def d__law_next : He.DefD := ⟨("_law_next", none), "_law_next", "_law_next", defArgs (top 67), defBody (top 67), defScope (top 67), [], []⟩
def d__law_long : He.DefD := ⟨("_law_long", none), "_law_long", "_law_long", defArgs (top 69), defBody (top 69), defScope (top 69), [], []⟩
def d__law_tied : He.DefD := ⟨("_law_tied", none), "_law_tied", "_law_tied", defArgs (top 70), defBody (top 70), defScope (top 70), [], []⟩
def d__law_off : He.DefD := ⟨("_law_off", none), "_law_off", "_law_off", defArgs (top 71), defBody (top 71), defScope (top 71), [], []⟩
def d__law_task : He.DefD := ⟨("_law_task", none), "_law_task", "_law_task", defArgs (top 72), defBody (top 72), defScope (top 72), [], []⟩
def d__law_made_up : He.DefD := ⟨("_law_made_up", none), "_law_made_up", "_law_made_up", defArgs (top 73), defBody (top 73), defScope (top 73), [], []⟩
def d__law_days : He.DefD := ⟨("_law_days", none), "_law_days", "_law_days", defArgs (top 74), defBody (top 74), defScope (top 74), [], []⟩
def d__law_next_stand : He.DefD := ⟨("_law_next_stand", none), "_law_next_stand", "_law_next_stand", defArgs (top 75), defBody (top 75), defScope (top 75), [], []⟩
def d__law_ways : He.DefD := ⟨("_law_ways", none), "_law_ways", "_law_ways", defArgs (top 76), defBody (top 76), defScope (top 76), [], []⟩
def d__law_step : He.DefD := ⟨("_law_step", none), "_law_step", "_law_step", defArgs (top 77), defBody (top 77), defScope (top 77), [], []⟩
def d__law_walked : He.DefD := ⟨("_law_walked", none), "_law_walked", "_law_walked", defArgs (top 78), defBody (top 78), defScope (top 78), [], []⟩
def d__law_under : He.DefD := ⟨("_law_under", none), "_law_under", "_law_under", defArgs (top 79), defBody (top 79), defScope (top 79), [], []⟩
def d__law_on_holds : He.DefD := ⟨("_law_on_holds", none), "_law_on_holds", "_law_on_holds", defArgs (top 80), defBody (top 80), defScope (top 80), [], []⟩
def d__law_count_holds : He.DefD := ⟨("_law_count_holds", none), "_law_count_holds", "_law_count_holds", defArgs (top 81), defBody (top 81), defScope (top 81), [], []⟩
def d__law_walk_holds : He.DefD := ⟨("_law_walk_holds", none), "_law_walk_holds", "_law_walk_holds", defArgs (top 82), defBody (top 82), defScope (top 82), [], []⟩
def d__law_holds : He.DefD := ⟨("_law_holds", none), "_law_holds", "_law_holds", defArgs (top 83), defBody (top 83), defScope (top 83), [], []⟩
def d__law_dead : He.DefD := ⟨("_law_dead", none), "_law_dead", "_law_dead", defArgs (top 84), defBody (top 84), defScope (top 84), [], []⟩
def d__law_drawn_days : He.DefD := ⟨("_law_drawn_days", none), "_law_drawn_days", "_law_drawn_days", defArgs (top 85), defBody (top 85), defScope (top 85), [], []⟩
def d__law_lasso : He.DefD := ⟨("_law_lasso", none), "_law_lasso", "_law_lasso", defArgs (top 86), defBody (top 86), defScope (top 86), [], []⟩
def d__law_bent_on : He.DefD := ⟨("_law_bent_on", none), "_law_bent_on", "_law_bent_on", defArgs (top 87), defBody (top 87), defScope (top 87), [], []⟩
def d__law_bent_walk : He.DefD := ⟨("_law_bent_walk", none), "_law_bent_walk", "_law_bent_walk", defArgs (top 88), defBody (top 88), defScope (top 88), [], []⟩
def d__law_answers : He.DefD := ⟨("_law_answers", none), "_law_answers", "_law_answers", defArgs (top 89), defBody (top 89), defScope (top 89), [], []⟩
def d_law : He.DefD := ⟨("law", none), "law", "law", defArgs (top 90), defBody (top 90), defScope (top 90), [], []⟩
def d_H_init : He.DefD := ⟨("Heights", some "__init__"), "__init__", "Heights.__init__", defArgs (inClass (top 59) 0), defBody (inClass (top 59) 0), defScope (inClass (top 59) 0), [], []⟩
def d_H_alike : He.DefD := ⟨("Heights", some "alike"), "alike", "Heights.alike", defArgs (inClass (top 59) 1), defBody (inClass (top 59) 1), defScope (inClass (top 59) 1), [], []⟩
def d_H_covers : He.DefD := ⟨("Heights", some "covers"), "covers", "Heights.covers", defArgs (inClass (top 59) 2), defBody (inClass (top 59) 2), defScope (inClass (top 59) 2), [], []⟩
def d_H_add : He.DefD := ⟨("Heights", some "add"), "add", "Heights.add", defArgs (inClass (top 59) 3), defBody (inClass (top 59) 3), defScope (inClass (top 59) 3), [], []⟩
def fn0 : List He.DefD := [d_is_whole, d_is_row, d_is_rising, d_told_rows, d_is_day, d_are_days, d_is_ring, d_is_numbers, d_is_off, d_is_pair, d_are_pairs, d_is_task, d_asked_task, d_need_of, d_room_of, d_in_ties, d_are_waits, d_is_some_of, d_is_stand_of, d_asked_stand, d_lies_under, d_is_lead, d_is_on, d_is_count, d_is_walk, d_is_answer_of, d_asked_answer, d_all_days, d_is_tied, d_can_be_done]
def fn1 : List He.DefD := [d_later_days, d_wait_behind, d_later_stand, d_led, d_on_holds, d_count_holds, d_runs_out, d_walk_holds, d_answer_holds, d_holds, d__law_cell, d__law_draws, d__law_next, d__law_long, d__law_tied, d__law_off, d__law_task, d__law_made_up, d__law_days, d__law_next_stand, d__law_ways, d__law_step, d__law_walked, d__law_under, d__law_on_holds, d__law_count_holds, d__law_walk_holds, d__law_holds, d__law_dead, d__law_drawn_days]
def fn2 : List He.DefD := [d__law_lasso, d__law_bent_on, d__law_bent_walk, d__law_answers, d_law, d_H_init, d_H_alike, d_H_covers, d_H_add]
def fn : List He.DefD := fn0 ++ fn1 ++ fn2
def fa0 : List He.Fa := [.glo "is_whole", .glo "is_row", .glo "is_rising", .glo "told_rows", .glo "is_day", .glo "are_days", .glo "is_ring", .glo "is_numbers", .glo "is_off", .glo "is_pair", .glo "are_pairs", .glo "is_task", .glo "asked_task", .glo "need_of", .glo "room_of", .glo "in_ties", .glo "are_waits", .glo "is_some_of", .glo "is_stand_of", .glo "asked_stand", .glo "lies_under", .glo "is_lead", .glo "is_on", .glo "is_count", .glo "is_walk", .glo "is_answer_of", .glo "asked_answer", .glo "all_days", .glo "is_tied", .glo "can_be_done"]
def fa1 : List He.Fa := [.glo "later_days", .glo "wait_behind", .glo "later_stand", .glo "led", .glo "on_holds", .glo "count_holds", .glo "runs_out", .glo "walk_holds", .glo "answer_holds", .glo "holds", .glo "_law_cell", .glo "_law_draws", .glo "_law_next", .glo "_law_long", .glo "_law_tied", .glo "_law_off", .glo "_law_task", .glo "_law_made_up", .glo "_law_days", .glo "_law_next_stand", .glo "_law_ways", .glo "_law_step", .glo "_law_walked", .glo "_law_under", .glo "_law_on_holds", .glo "_law_count_holds", .glo "_law_walk_holds", .glo "_law_holds", .glo "_law_dead", .glo "_law_drawn_days"]
def fa2 : List He.Fa := [.glo "_law_lasso", .glo "_law_bent_on", .glo "_law_bent_walk", .glo "_law_answers", .glo "law", .free "isinstance", .free "int", .free "bool", .free "list", .free "tuple", .free "str", .free "len", .free "range", .free "enumerate", .free "all", .free "any", .free "max", .free "sorted", .free "set", .free "sum", .free "dict", .int "MOST_ON_A_DAY" 2, .int "LONGEST" 4000, .int "MOST_THINGS" 8, .int "GREATEST" 40, .int "MOST_OFF" 7, .int "MOST_HANDS" 2, .int "PARTS" 5, .int "MOST_DAYS" 1000000, .int "MOST_LEAD" 4000]
def fa3 : List He.Fa := [.int "MOST_STANDS" 4000, .glo "Heights", .cls "Heights", .noat "Heights" "rows", .mkr "Heights", .meth "Heights" "alike", .meth "Heights" "covers", .meth "Heights" "add"]
def fa : List He.Fa := fa0 ++ fa1 ++ fa2 ++ fa3
def nm0 : List PySem.Str := ["__name__", "DaysError", "NoTask", "NoStand", "is_whole", "is_row", "is_rising", "told_rows", "MOST_ON_A_DAY", "LONGEST", "is_day", "are_days", "is_ring", "MOST_THINGS", "GREATEST", "is_numbers", "MOST_OFF", "MOST_HANDS", "PARTS", "is_off", "is_pair", "are_pairs", "is_task", "asked_task", "MOST_DAYS", "need_of", "room_of", "in_ties", "are_waits", "is_some_of"]
def nm1 : List PySem.Str := ["is_stand_of", "asked_stand", "lies_under", "MOST_LEAD", "MOST_STANDS", "is_lead", "is_on", "is_count", "is_walk", "is_answer_of", "asked_answer", "all_days", "is_tied", "can_be_done", "later_days", "wait_behind", "later_stand", "led", "on_holds", "count_holds", "Heights", "runs_out", "walk_holds", "answer_holds", "holds", "_law_cell", "_law_draws", "_law_next", "_law_of", "_law_long"]
def nm2 : List PySem.Str := ["_law_tied", "_law_off", "_law_task", "_law_made_up", "_law_days", "_law_next_stand", "_law_ways", "_law_step", "_law_walked", "_law_under", "_law_on_holds", "_law_count_holds", "_law_walk_holds", "_law_holds", "_law_dead", "_law_drawn_days", "_law_lasso", "_law_bent_on", "_law_bent_walk", "_law_answers"]
def nm : List PySem.Str := nm0 ++ nm1 ++ nm2
abbrev R : PySem.W.OpenRow := PySem.W.OpenLaw.row PySem.Challenge.rw_withindays_k80_whole_made_up_papers
abbrev hk : PySem.W.Hook := He.hookD 4 fa fn
def ob (s : PySem.W.SharedT) : He.AlD := He.obsDG 4 fa fn (HandSHeadRun.getT s)
theorem ob_eq (s : PySem.W.SharedT) : ob s = hk.obs s.abs := He.obsDG_eq (HandSHeadRun.getT_eq s)
theorem run (w : World) : HandSHeadRun.RunEq R (PySem.W.view R.prog [90]) hk ob 6000 nm w := by
  intro os
  kernel_rfl
end Hd
end
set_option maxHeartbeats 4000000
/-! Z1: what the head tells, as the facts that the walk asks for. -/
namespace Ed
open PySem L2
theorem eq_args (st : Stmt) : defArgs st = C8.fnArgs st := by cases st <;> rfl
theorem eq_body (st : Stmt) : defBody st = C8.fnBody st := by cases st <;> rfl
theorem eq_scope (st : Stmt) : defScope st = C8.fnScope st := by cases st <;> rfl
theorem eq_sub (st : Stmt) (j : Nat) : inClass st j = (C8.clsBody st).getD j (.Pass ⟨0, 0, 0, 0⟩) := by cases st <;> rfl
section
variable {K : PySem.W.Frag} {mg : Str → Option Value} {x qual m : Str} {st : Stmt} {ps : List Str} {f C : Addr} {fd : FuncData} {h : Heap}
theorem fun_of (F : FunD K x qual (defArgs st) (defBody st) (defScope st) [] [] f fd) : C8.Fun K x qual st f fd := by
  obtain ⟨oc, od, dV, kV, doc, pm, an, cdv, ct, osl, e, lk, hcd, _, _⟩ := F.ex
  rw [eq_args, eq_body, eq_scope] at e
  exact ⟨oc, od, dV, kV, doc, pm, an, cdv, ct, osl, e, lk, hcd⟩
abbrev BndP (x qual : Str) (st : Stmt) (ps : List Str) : Prop := ∀ (kV doc pm : Value) (an : Option Addr) (cdv ct : Value) (us : List Value), us.length = ps.length → bindArgs (PySem.W.fnOf x qual (defArgs st) (defBody st) (defScope st) .none kV doc pm an cdv ct) ⟨us, []⟩ = pure (ps.zip us)
theorem dfn_of (F : ∃ fd, FunD K x x (defArgs st) (defBody st) (defScope st) [] [] f fd) (hg : mg x = some (.ref f)) (hb : BndP x x st ps) : Dfn K mg x st ps := by
  obtain ⟨fd, F⟩ := F
  exact ⟨f, fd, ⟨fun_of F, hg, F.kp⟩, F.bindsN hb⟩
theorem mdef_of (F : ∃ fd, FunD K m qual (defArgs st) (defBody st) (defScope st) [] [] f fd) (hm : Meth K C m f) (hb : BndP m qual st ps) : MDef K C m qual st ps := by
  obtain ⟨fd, F⟩ := F
  exact ⟨f, fd, hm, fun_of F, F.bindsN hb⟩
end
theorem b_is_whole : BndP "is_whole" "is_whole" (Hd.top 5) ["thing", "least", "most"] := fun _ _ _ _ _ _ us hl => match us, hl with | [_, _, _], _ => rfl
theorem b_is_row : BndP "is_row" "is_row" (Hd.top 6) ["thing"] := fun _ _ _ _ _ _ us hl => match us, hl with | [_], _ => rfl
theorem b_is_rising : BndP "is_rising" "is_rising" (Hd.top 7) ["thing", "least", "most"] := fun _ _ _ _ _ _ us hl => match us, hl with | [_, _, _], _ => rfl
theorem b_told_rows : BndP "told_rows" "told_rows" (Hd.top 8) ["thing"] := fun _ _ _ _ _ _ us hl => match us, hl with | [_], _ => rfl
theorem b_is_day : BndP "is_day" "is_day" (Hd.top 12) ["many", "thing"] := fun _ _ _ _ _ _ us hl => match us, hl with | [_, _], _ => rfl
theorem b_are_days : BndP "are_days" "are_days" (Hd.top 13) ["many", "thing"] := fun _ _ _ _ _ _ us hl => match us, hl with | [_, _], _ => rfl
theorem b_is_ring : BndP "is_ring" "is_ring" (Hd.top 14) ["many", "thing"] := fun _ _ _ _ _ _ us hl => match us, hl with | [_, _], _ => rfl
theorem b_is_numbers : BndP "is_numbers" "is_numbers" (Hd.top 18) ["thing"] := fun _ _ _ _ _ _ us hl => match us, hl with | [_], _ => rfl
theorem b_is_off : BndP "is_off" "is_off" (Hd.top 23) ["thing"] := fun _ _ _ _ _ _ us hl => match us, hl with | [_], _ => rfl
theorem b_is_pair : BndP "is_pair" "is_pair" (Hd.top 24) ["thing", "many"] := fun _ _ _ _ _ _ us hl => match us, hl with | [_, _], _ => rfl
theorem b_are_pairs : BndP "are_pairs" "are_pairs" (Hd.top 25) ["thing", "many"] := fun _ _ _ _ _ _ us hl => match us, hl with | [_, _], _ => rfl
theorem b_is_task : BndP "is_task" "is_task" (Hd.top 26) ["thing"] := fun _ _ _ _ _ _ us hl => match us, hl with | [_], _ => rfl
theorem b_asked_task : BndP "asked_task" "asked_task" (Hd.top 27) ["thing"] := fun _ _ _ _ _ _ us hl => match us, hl with | [_], _ => rfl
theorem b_need_of : BndP "need_of" "need_of" (Hd.top 30) ["task", "days"] := fun _ _ _ _ _ _ us hl => match us, hl with | [_, _], _ => rfl
theorem b_room_of : BndP "room_of" "room_of" (Hd.top 31) ["task", "days", "phase"] := fun _ _ _ _ _ _ us hl => match us, hl with | [_, _, _], _ => rfl
theorem b_in_ties : BndP "in_ties" "in_ties" (Hd.top 33) ["task"] := fun _ _ _ _ _ _ us hl => match us, hl with | [_], _ => rfl
theorem b_are_waits : BndP "are_waits" "are_waits" (Hd.top 34) ["numbers", "waits"] := fun _ _ _ _ _ _ us hl => match us, hl with | [_, _], _ => rfl
theorem b_is_some_of : BndP "is_some_of" "is_some_of" (Hd.top 35) ["things", "row", "most"] := fun _ _ _ _ _ _ us hl => match us, hl with | [_, _, _], _ => rfl
theorem b_is_stand_of : BndP "is_stand_of" "is_stand_of" (Hd.top 36) ["task", "thing"] := fun _ _ _ _ _ _ us hl => match us, hl with | [_, _], _ => rfl
theorem b_asked_stand : BndP "asked_stand" "asked_stand" (Hd.top 37) ["task", "thing"] := fun _ _ _ _ _ _ us hl => match us, hl with | [_, _], _ => rfl
theorem b_lies_under : BndP "lies_under" "lies_under" (Hd.top 38) ["one", "other"] := fun _ _ _ _ _ _ us hl => match us, hl with | [_, _], _ => rfl
theorem b_is_lead : BndP "is_lead" "is_lead" (Hd.top 42) ["many", "thing"] := fun _ _ _ _ _ _ us hl => match us, hl with | [_, _], _ => rfl
theorem b_is_on : BndP "is_on" "is_on" (Hd.top 43) ["task", "thing"] := fun _ _ _ _ _ _ us hl => match us, hl with | [_, _], _ => rfl
theorem b_is_count : BndP "is_count" "is_count" (Hd.top 44) ["task", "thing"] := fun _ _ _ _ _ _ us hl => match us, hl with | [_, _], _ => rfl
theorem b_is_walk : BndP "is_walk" "is_walk" (Hd.top 45) ["task", "thing"] := fun _ _ _ _ _ _ us hl => match us, hl with | [_, _], _ => rfl
theorem b_is_answer_of : BndP "is_answer_of" "is_answer_of" (Hd.top 46) ["task", "thing"] := fun _ _ _ _ _ _ us hl => match us, hl with | [_, _], _ => rfl
theorem b_asked_answer : BndP "asked_answer" "asked_answer" (Hd.top 47) ["task", "thing"] := fun _ _ _ _ _ _ us hl => match us, hl with | [_, _], _ => rfl
theorem b_all_days : BndP "all_days" "all_days" (Hd.top 49) ["many", "hands"] := fun _ _ _ _ _ _ us hl => match us, hl with | [_, _], _ => rfl
theorem b_is_tied : BndP "is_tied" "is_tied" (Hd.top 50) ["task", "day", "last"] := fun _ _ _ _ _ _ us hl => match us, hl with | [_, _, _], _ => rfl
theorem b_can_be_done : BndP "can_be_done" "can_be_done" (Hd.top 51) ["task", "stand", "day"] := fun _ _ _ _ _ _ us hl => match us, hl with | [_, _, _], _ => rfl
theorem b_later_days : BndP "later_days" "later_days" (Hd.top 52) ["task", "stand"] := fun _ _ _ _ _ _ us hl => match us, hl with | [_, _], _ => rfl
theorem b_wait_behind : BndP "wait_behind" "wait_behind" (Hd.top 53) ["task", "stand", "day", "i"] := fun _ _ _ _ _ _ us hl => match us, hl with | [_, _, _, _], _ => rfl
theorem b_later_stand : BndP "later_stand" "later_stand" (Hd.top 54) ["task", "stand", "day"] := fun _ _ _ _ _ _ us hl => match us, hl with | [_, _, _], _ => rfl
theorem b_led : BndP "led" "led" (Hd.top 56) ["task", "stand", "days"] := fun _ _ _ _ _ _ us hl => match us, hl with | [_, _, _], _ => rfl
theorem b_on_holds : BndP "on_holds" "on_holds" (Hd.top 57) ["task", "stand", "lead", "ring"] := fun _ _ _ _ _ _ us hl => match us, hl with | [_, _, _, _], _ => rfl
theorem b_count_holds : BndP "count_holds" "count_holds" (Hd.top 58) ["task", "days", "phase"] := fun _ _ _ _ _ _ us hl => match us, hl with | [_, _, _], _ => rfl
theorem b_runs_out : BndP "runs_out" "runs_out" (Hd.top 60) ["task", "stand", "heights"] := fun _ _ _ _ _ _ us hl => match us, hl with | [_, _, _], _ => rfl
theorem b_walk_holds : BndP "walk_holds" "walk_holds" (Hd.top 61) ["task", "stand", "stands"] := fun _ _ _ _ _ _ us hl => match us, hl with | [_, _, _], _ => rfl
theorem b_answer_holds : BndP "answer_holds" "answer_holds" (Hd.top 62) ["task", "stand", "answer"] := fun _ _ _ _ _ _ us hl => match us, hl with | [_, _, _], _ => rfl
theorem b_holds : BndP "holds" "holds" (Hd.top 63) ["task", "stand", "answer"] := fun _ _ _ _ _ _ us hl => match us, hl with | [_, _, _], _ => rfl
theorem b__law_cell : BndP "_law_cell" "_law_cell" (Hd.top 65) ["_law_script", "_law_k"] := fun _ _ _ _ _ _ us hl => match us, hl with | [_, _], _ => rfl
theorem b__law_draws : BndP "_law_draws" "_law_draws" (Hd.top 66) ["_law_script", "_law_at", "_law_many"] := fun _ _ _ _ _ _ us hl => match us, hl with | [_, _, _], _ => rfl
theorem b__law_next : BndP "_law_next" "_law_next" (Hd.top 67) ["_law_draws_here"] := fun _ _ _ _ _ _ us hl => match us, hl with | [_], _ => rfl
theorem b__law_long : BndP "_law_long" "_law_long" (Hd.top 69) ["_law_draws_here", "_law_many"] := fun _ _ _ _ _ _ us hl => match us, hl with | [_, _], _ => rfl
theorem b__law_tied : BndP "_law_tied" "_law_tied" (Hd.top 70) ["_law_draws_here", "_law_many"] := fun _ _ _ _ _ _ us hl => match us, hl with | [_, _], _ => rfl
theorem b__law_off : BndP "_law_off" "_law_off" (Hd.top 71) ["_law_draws_here", "_law_left"] := fun _ _ _ _ _ _ us hl => match us, hl with | [_, _], _ => rfl
theorem b__law_task : BndP "_law_task" "_law_task" (Hd.top 72) ["_law_draws_here", "_law_most"] := fun _ _ _ _ _ _ us hl => match us, hl with | [_, _], _ => rfl
theorem b__law_made_up : BndP "_law_made_up" "_law_made_up" (Hd.top 73) ["_law_draws_here", "_law_task_here"] := fun _ _ _ _ _ _ us hl => match us, hl with | [_, _], _ => rfl
theorem b__law_days : BndP "_law_days" "_law_days" (Hd.top 74) ["_law_task_here", "_law_stand"] := fun _ _ _ _ _ _ us hl => match us, hl with | [_, _], _ => rfl
theorem b__law_next_stand : BndP "_law_next_stand" "_law_next_stand" (Hd.top 75) ["_law_task_here", "_law_stand", "_law_day"] := fun _ _ _ _ _ _ us hl => match us, hl with | [_, _, _], _ => rfl
theorem b__law_ways : BndP "_law_ways" "_law_ways" (Hd.top 76) ["_law_task_here", "_law_stand"] := fun _ _ _ _ _ _ us hl => match us, hl with | [_, _], _ => rfl
theorem b__law_step : BndP "_law_step" "_law_step" (Hd.top 77) ["_law_task_here", "_law_stand", "_law_day"] := fun _ _ _ _ _ _ us hl => match us, hl with | [_, _, _], _ => rfl
theorem b__law_walked : BndP "_law_walked" "_law_walked" (Hd.top 78) ["_law_task_here", "_law_stand", "_law_days_here"] := fun _ _ _ _ _ _ us hl => match us, hl with | [_, _, _], _ => rfl
theorem b__law_under : BndP "_law_under" "_law_under" (Hd.top 79) ["_law_one", "_law_other"] := fun _ _ _ _ _ _ us hl => match us, hl with | [_, _], _ => rfl
theorem b__law_on_holds : BndP "_law_on_holds" "_law_on_holds" (Hd.top 80) ["_law_task_here", "_law_stand", "_law_lead", "_law_ring"] := fun _ _ _ _ _ _ us hl => match us, hl with | [_, _, _, _], _ => rfl
theorem b__law_count_holds : BndP "_law_count_holds" "_law_count_holds" (Hd.top 81) ["_law_task_here", "_law_days_here", "_law_phase"] := fun _ _ _ _ _ _ us hl => match us, hl with | [_, _, _], _ => rfl
theorem b__law_walk_holds : BndP "_law_walk_holds" "_law_walk_holds" (Hd.top 82) ["_law_task_here", "_law_stand", "_law_stands"] := fun _ _ _ _ _ _ us hl => match us, hl with | [_, _, _], _ => rfl
theorem b__law_holds : BndP "_law_holds" "_law_holds" (Hd.top 83) ["_law_task_here", "_law_stand", "_law_told"] := fun _ _ _ _ _ _ us hl => match us, hl with | [_, _, _], _ => rfl
theorem b__law_dead : BndP "_law_dead" "_law_dead" (Hd.top 84) ["_law_ways_here"] := fun _ _ _ _ _ _ us hl => match us, hl with | [_], _ => rfl
theorem b__law_drawn_days : BndP "_law_drawn_days" "_law_drawn_days" (Hd.top 85) ["_law_draws_here", "_law_task_here", "_law_stand"] := fun _ _ _ _ _ _ us hl => match us, hl with | [_, _, _], _ => rfl
theorem b__law_lasso : BndP "_law_lasso" "_law_lasso" (Hd.top 86) ["_law_draws_here", "_law_task_here", "_law_stand"] := fun _ _ _ _ _ _ us hl => match us, hl with | [_, _, _], _ => rfl
theorem b__law_bent_on : BndP "_law_bent_on" "_law_bent_on" (Hd.top 87) ["_law_draws_here", "_law_told"] := fun _ _ _ _ _ _ us hl => match us, hl with | [_, _], _ => rfl
theorem b__law_bent_walk : BndP "_law_bent_walk" "_law_bent_walk" (Hd.top 88) ["_law_draws_here", "_law_dead_here"] := fun _ _ _ _ _ _ us hl => match us, hl with | [_, _], _ => rfl
theorem b__law_answers : BndP "_law_answers" "_law_answers" (Hd.top 89) ["_law_draws_here", "_law_task_here", "_law_stand", "_law_dead_here"] := fun _ _ _ _ _ _ us hl => match us, hl with | [_, _, _, _], _ => rfl
theorem b_law : BndP "law" "law" (Hd.top 90) ["_law_script"] := fun _ _ _ _ _ _ us hl => match us, hl with | [_], _ => rfl
theorem b_H_init : BndP "__init__" "Heights.__init__" (hsub 0) ["self"] := fun _ _ _ _ _ _ us hl => match us, hl with | [_], _ => rfl
theorem b_H_alike : BndP "alike" "Heights.alike" (hsub 1) ["self", "stand"] := fun _ _ _ _ _ _ us hl => match us, hl with | [_, _], _ => rfl
theorem b_H_covers : BndP "covers" "Heights.covers" (hsub 2) ["self", "stand"] := fun _ _ _ _ _ _ us hl => match us, hl with | [_, _], _ => rfl
theorem b_H_add : BndP "add" "Heights.add" (hsub 3) ["self", "stand"] := fun _ _ _ _ _ _ us hl => match us, hl with | [_, _], _ => rfl
section
variable {K : PySem.W.Frag} {mg : Str → Option Value} {h : Heap}
theorem top_of (X : K.In h) (G : h.Ns mainGlobals mg) (c : He.SaysD Hd.fa Hd.fn K) : Top K mg where
  f_is_whole := dfn_of (st := Hd.top 5) (f := He.ga K "is_whole") (c.def_ 0 (d := Hd.d_is_whole) rfl) (He.glo_ok X G (c.fact 0 (f := .glo "is_whole") rfl)) b_is_whole
  f_is_row := dfn_of (st := Hd.top 6) (f := He.ga K "is_row") (c.def_ 1 (d := Hd.d_is_row) rfl) (He.glo_ok X G (c.fact 1 (f := .glo "is_row") rfl)) b_is_row
  f_is_rising := dfn_of (st := Hd.top 7) (f := He.ga K "is_rising") (c.def_ 2 (d := Hd.d_is_rising) rfl) (He.glo_ok X G (c.fact 2 (f := .glo "is_rising") rfl)) b_is_rising
  f_told_rows := dfn_of (st := Hd.top 8) (f := He.ga K "told_rows") (c.def_ 3 (d := Hd.d_told_rows) rfl) (He.glo_ok X G (c.fact 3 (f := .glo "told_rows") rfl)) b_told_rows
  f_is_day := dfn_of (st := Hd.top 12) (f := He.ga K "is_day") (c.def_ 4 (d := Hd.d_is_day) rfl) (He.glo_ok X G (c.fact 4 (f := .glo "is_day") rfl)) b_is_day
  f_are_days := dfn_of (st := Hd.top 13) (f := He.ga K "are_days") (c.def_ 5 (d := Hd.d_are_days) rfl) (He.glo_ok X G (c.fact 5 (f := .glo "are_days") rfl)) b_are_days
  f_is_ring := dfn_of (st := Hd.top 14) (f := He.ga K "is_ring") (c.def_ 6 (d := Hd.d_is_ring) rfl) (He.glo_ok X G (c.fact 6 (f := .glo "is_ring") rfl)) b_is_ring
  f_is_numbers := dfn_of (st := Hd.top 18) (f := He.ga K "is_numbers") (c.def_ 7 (d := Hd.d_is_numbers) rfl) (He.glo_ok X G (c.fact 7 (f := .glo "is_numbers") rfl)) b_is_numbers
  f_is_off := dfn_of (st := Hd.top 23) (f := He.ga K "is_off") (c.def_ 8 (d := Hd.d_is_off) rfl) (He.glo_ok X G (c.fact 8 (f := .glo "is_off") rfl)) b_is_off
  f_is_pair := dfn_of (st := Hd.top 24) (f := He.ga K "is_pair") (c.def_ 9 (d := Hd.d_is_pair) rfl) (He.glo_ok X G (c.fact 9 (f := .glo "is_pair") rfl)) b_is_pair
  f_are_pairs := dfn_of (st := Hd.top 25) (f := He.ga K "are_pairs") (c.def_ 10 (d := Hd.d_are_pairs) rfl) (He.glo_ok X G (c.fact 10 (f := .glo "are_pairs") rfl)) b_are_pairs
  f_is_task := dfn_of (st := Hd.top 26) (f := He.ga K "is_task") (c.def_ 11 (d := Hd.d_is_task) rfl) (He.glo_ok X G (c.fact 11 (f := .glo "is_task") rfl)) b_is_task
  f_asked_task := dfn_of (st := Hd.top 27) (f := He.ga K "asked_task") (c.def_ 12 (d := Hd.d_asked_task) rfl) (He.glo_ok X G (c.fact 12 (f := .glo "asked_task") rfl)) b_asked_task
  f_need_of := dfn_of (st := Hd.top 30) (f := He.ga K "need_of") (c.def_ 13 (d := Hd.d_need_of) rfl) (He.glo_ok X G (c.fact 13 (f := .glo "need_of") rfl)) b_need_of
  f_room_of := dfn_of (st := Hd.top 31) (f := He.ga K "room_of") (c.def_ 14 (d := Hd.d_room_of) rfl) (He.glo_ok X G (c.fact 14 (f := .glo "room_of") rfl)) b_room_of
  f_in_ties := dfn_of (st := Hd.top 33) (f := He.ga K "in_ties") (c.def_ 15 (d := Hd.d_in_ties) rfl) (He.glo_ok X G (c.fact 15 (f := .glo "in_ties") rfl)) b_in_ties
  f_are_waits := dfn_of (st := Hd.top 34) (f := He.ga K "are_waits") (c.def_ 16 (d := Hd.d_are_waits) rfl) (He.glo_ok X G (c.fact 16 (f := .glo "are_waits") rfl)) b_are_waits
  f_is_some_of := dfn_of (st := Hd.top 35) (f := He.ga K "is_some_of") (c.def_ 17 (d := Hd.d_is_some_of) rfl) (He.glo_ok X G (c.fact 17 (f := .glo "is_some_of") rfl)) b_is_some_of
  f_is_stand_of := dfn_of (st := Hd.top 36) (f := He.ga K "is_stand_of") (c.def_ 18 (d := Hd.d_is_stand_of) rfl) (He.glo_ok X G (c.fact 18 (f := .glo "is_stand_of") rfl)) b_is_stand_of
  f_asked_stand := dfn_of (st := Hd.top 37) (f := He.ga K "asked_stand") (c.def_ 19 (d := Hd.d_asked_stand) rfl) (He.glo_ok X G (c.fact 19 (f := .glo "asked_stand") rfl)) b_asked_stand
  f_lies_under := dfn_of (st := Hd.top 38) (f := He.ga K "lies_under") (c.def_ 20 (d := Hd.d_lies_under) rfl) (He.glo_ok X G (c.fact 20 (f := .glo "lies_under") rfl)) b_lies_under
  f_is_lead := dfn_of (st := Hd.top 42) (f := He.ga K "is_lead") (c.def_ 21 (d := Hd.d_is_lead) rfl) (He.glo_ok X G (c.fact 21 (f := .glo "is_lead") rfl)) b_is_lead
  f_is_on := dfn_of (st := Hd.top 43) (f := He.ga K "is_on") (c.def_ 22 (d := Hd.d_is_on) rfl) (He.glo_ok X G (c.fact 22 (f := .glo "is_on") rfl)) b_is_on
  f_is_count := dfn_of (st := Hd.top 44) (f := He.ga K "is_count") (c.def_ 23 (d := Hd.d_is_count) rfl) (He.glo_ok X G (c.fact 23 (f := .glo "is_count") rfl)) b_is_count
  f_is_walk := dfn_of (st := Hd.top 45) (f := He.ga K "is_walk") (c.def_ 24 (d := Hd.d_is_walk) rfl) (He.glo_ok X G (c.fact 24 (f := .glo "is_walk") rfl)) b_is_walk
  f_is_answer_of := dfn_of (st := Hd.top 46) (f := He.ga K "is_answer_of") (c.def_ 25 (d := Hd.d_is_answer_of) rfl) (He.glo_ok X G (c.fact 25 (f := .glo "is_answer_of") rfl)) b_is_answer_of
  f_asked_answer := dfn_of (st := Hd.top 47) (f := He.ga K "asked_answer") (c.def_ 26 (d := Hd.d_asked_answer) rfl) (He.glo_ok X G (c.fact 26 (f := .glo "asked_answer") rfl)) b_asked_answer
  f_all_days := dfn_of (st := Hd.top 49) (f := He.ga K "all_days") (c.def_ 27 (d := Hd.d_all_days) rfl) (He.glo_ok X G (c.fact 27 (f := .glo "all_days") rfl)) b_all_days
  f_is_tied := dfn_of (st := Hd.top 50) (f := He.ga K "is_tied") (c.def_ 28 (d := Hd.d_is_tied) rfl) (He.glo_ok X G (c.fact 28 (f := .glo "is_tied") rfl)) b_is_tied
  f_can_be_done := dfn_of (st := Hd.top 51) (f := He.ga K "can_be_done") (c.def_ 29 (d := Hd.d_can_be_done) rfl) (He.glo_ok X G (c.fact 29 (f := .glo "can_be_done") rfl)) b_can_be_done
  f_later_days := dfn_of (st := Hd.top 52) (f := He.ga K "later_days") (c.def_ 30 (d := Hd.d_later_days) rfl) (He.glo_ok X G (c.fact 30 (f := .glo "later_days") rfl)) b_later_days
  f_wait_behind := dfn_of (st := Hd.top 53) (f := He.ga K "wait_behind") (c.def_ 31 (d := Hd.d_wait_behind) rfl) (He.glo_ok X G (c.fact 31 (f := .glo "wait_behind") rfl)) b_wait_behind
  f_later_stand := dfn_of (st := Hd.top 54) (f := He.ga K "later_stand") (c.def_ 32 (d := Hd.d_later_stand) rfl) (He.glo_ok X G (c.fact 32 (f := .glo "later_stand") rfl)) b_later_stand
  f_led := dfn_of (st := Hd.top 56) (f := He.ga K "led") (c.def_ 33 (d := Hd.d_led) rfl) (He.glo_ok X G (c.fact 33 (f := .glo "led") rfl)) b_led
  f_on_holds := dfn_of (st := Hd.top 57) (f := He.ga K "on_holds") (c.def_ 34 (d := Hd.d_on_holds) rfl) (He.glo_ok X G (c.fact 34 (f := .glo "on_holds") rfl)) b_on_holds
  f_count_holds := dfn_of (st := Hd.top 58) (f := He.ga K "count_holds") (c.def_ 35 (d := Hd.d_count_holds) rfl) (He.glo_ok X G (c.fact 35 (f := .glo "count_holds") rfl)) b_count_holds
  f_runs_out := dfn_of (st := Hd.top 60) (f := He.ga K "runs_out") (c.def_ 36 (d := Hd.d_runs_out) rfl) (He.glo_ok X G (c.fact 36 (f := .glo "runs_out") rfl)) b_runs_out
  f_walk_holds := dfn_of (st := Hd.top 61) (f := He.ga K "walk_holds") (c.def_ 37 (d := Hd.d_walk_holds) rfl) (He.glo_ok X G (c.fact 37 (f := .glo "walk_holds") rfl)) b_walk_holds
  f_answer_holds := dfn_of (st := Hd.top 62) (f := He.ga K "answer_holds") (c.def_ 38 (d := Hd.d_answer_holds) rfl) (He.glo_ok X G (c.fact 38 (f := .glo "answer_holds") rfl)) b_answer_holds
  f_holds := dfn_of (st := Hd.top 63) (f := He.ga K "holds") (c.def_ 39 (d := Hd.d_holds) rfl) (He.glo_ok X G (c.fact 39 (f := .glo "holds") rfl)) b_holds
  f__law_cell := dfn_of (st := Hd.top 65) (f := He.ga K "_law_cell") (c.def_ 40 (d := Hd.d__law_cell) rfl) (He.glo_ok X G (c.fact 40 (f := .glo "_law_cell") rfl)) b__law_cell
  f__law_draws := dfn_of (st := Hd.top 66) (f := He.ga K "_law_draws") (c.def_ 41 (d := Hd.d__law_draws) rfl) (He.glo_ok X G (c.fact 41 (f := .glo "_law_draws") rfl)) b__law_draws
  f__law_next := dfn_of (st := Hd.top 67) (f := He.ga K "_law_next") (c.def_ 42 (d := Hd.d__law_next) rfl) (He.glo_ok X G (c.fact 42 (f := .glo "_law_next") rfl)) b__law_next
  f__law_long := dfn_of (st := Hd.top 69) (f := He.ga K "_law_long") (c.def_ 43 (d := Hd.d__law_long) rfl) (He.glo_ok X G (c.fact 43 (f := .glo "_law_long") rfl)) b__law_long
  f__law_tied := dfn_of (st := Hd.top 70) (f := He.ga K "_law_tied") (c.def_ 44 (d := Hd.d__law_tied) rfl) (He.glo_ok X G (c.fact 44 (f := .glo "_law_tied") rfl)) b__law_tied
  f__law_off := dfn_of (st := Hd.top 71) (f := He.ga K "_law_off") (c.def_ 45 (d := Hd.d__law_off) rfl) (He.glo_ok X G (c.fact 45 (f := .glo "_law_off") rfl)) b__law_off
  f__law_task := dfn_of (st := Hd.top 72) (f := He.ga K "_law_task") (c.def_ 46 (d := Hd.d__law_task) rfl) (He.glo_ok X G (c.fact 46 (f := .glo "_law_task") rfl)) b__law_task
  f__law_made_up := dfn_of (st := Hd.top 73) (f := He.ga K "_law_made_up") (c.def_ 47 (d := Hd.d__law_made_up) rfl) (He.glo_ok X G (c.fact 47 (f := .glo "_law_made_up") rfl)) b__law_made_up
  f__law_days := dfn_of (st := Hd.top 74) (f := He.ga K "_law_days") (c.def_ 48 (d := Hd.d__law_days) rfl) (He.glo_ok X G (c.fact 48 (f := .glo "_law_days") rfl)) b__law_days
  f__law_next_stand := dfn_of (st := Hd.top 75) (f := He.ga K "_law_next_stand") (c.def_ 49 (d := Hd.d__law_next_stand) rfl) (He.glo_ok X G (c.fact 49 (f := .glo "_law_next_stand") rfl)) b__law_next_stand
  f__law_ways := dfn_of (st := Hd.top 76) (f := He.ga K "_law_ways") (c.def_ 50 (d := Hd.d__law_ways) rfl) (He.glo_ok X G (c.fact 50 (f := .glo "_law_ways") rfl)) b__law_ways
  f__law_step := dfn_of (st := Hd.top 77) (f := He.ga K "_law_step") (c.def_ 51 (d := Hd.d__law_step) rfl) (He.glo_ok X G (c.fact 51 (f := .glo "_law_step") rfl)) b__law_step
  f__law_walked := dfn_of (st := Hd.top 78) (f := He.ga K "_law_walked") (c.def_ 52 (d := Hd.d__law_walked) rfl) (He.glo_ok X G (c.fact 52 (f := .glo "_law_walked") rfl)) b__law_walked
  f__law_under := dfn_of (st := Hd.top 79) (f := He.ga K "_law_under") (c.def_ 53 (d := Hd.d__law_under) rfl) (He.glo_ok X G (c.fact 53 (f := .glo "_law_under") rfl)) b__law_under
  f__law_on_holds := dfn_of (st := Hd.top 80) (f := He.ga K "_law_on_holds") (c.def_ 54 (d := Hd.d__law_on_holds) rfl) (He.glo_ok X G (c.fact 54 (f := .glo "_law_on_holds") rfl)) b__law_on_holds
  f__law_count_holds := dfn_of (st := Hd.top 81) (f := He.ga K "_law_count_holds") (c.def_ 55 (d := Hd.d__law_count_holds) rfl) (He.glo_ok X G (c.fact 55 (f := .glo "_law_count_holds") rfl)) b__law_count_holds
  f__law_walk_holds := dfn_of (st := Hd.top 82) (f := He.ga K "_law_walk_holds") (c.def_ 56 (d := Hd.d__law_walk_holds) rfl) (He.glo_ok X G (c.fact 56 (f := .glo "_law_walk_holds") rfl)) b__law_walk_holds
  f__law_holds := dfn_of (st := Hd.top 83) (f := He.ga K "_law_holds") (c.def_ 57 (d := Hd.d__law_holds) rfl) (He.glo_ok X G (c.fact 57 (f := .glo "_law_holds") rfl)) b__law_holds
  f__law_dead := dfn_of (st := Hd.top 84) (f := He.ga K "_law_dead") (c.def_ 58 (d := Hd.d__law_dead) rfl) (He.glo_ok X G (c.fact 58 (f := .glo "_law_dead") rfl)) b__law_dead
  f__law_drawn_days := dfn_of (st := Hd.top 85) (f := He.ga K "_law_drawn_days") (c.def_ 59 (d := Hd.d__law_drawn_days) rfl) (He.glo_ok X G (c.fact 59 (f := .glo "_law_drawn_days") rfl)) b__law_drawn_days
  f__law_lasso := dfn_of (st := Hd.top 86) (f := He.ga K "_law_lasso") (c.def_ 60 (d := Hd.d__law_lasso) rfl) (He.glo_ok X G (c.fact 60 (f := .glo "_law_lasso") rfl)) b__law_lasso
  f__law_bent_on := dfn_of (st := Hd.top 87) (f := He.ga K "_law_bent_on") (c.def_ 61 (d := Hd.d__law_bent_on) rfl) (He.glo_ok X G (c.fact 61 (f := .glo "_law_bent_on") rfl)) b__law_bent_on
  f__law_bent_walk := dfn_of (st := Hd.top 88) (f := He.ga K "_law_bent_walk") (c.def_ 62 (d := Hd.d__law_bent_walk) rfl) (He.glo_ok X G (c.fact 62 (f := .glo "_law_bent_walk") rfl)) b__law_bent_walk
  f__law_answers := dfn_of (st := Hd.top 89) (f := He.ga K "_law_answers") (c.def_ 63 (d := Hd.d__law_answers) rfl) (He.glo_ok X G (c.fact 63 (f := .glo "_law_answers") rfl)) b__law_answers
  f_law := dfn_of (st := Hd.top 90) (f := He.ga K "law") (c.def_ 64 (d := Hd.d_law) rfl) (He.glo_ok X G (c.fact 64 (f := .glo "law") rfl)) b_law
  n_isinstance := He.free_ok X G (c.fact 65 (f := .free "isinstance") rfl)
  n_int := He.free_ok X G (c.fact 66 (f := .free "int") rfl)
  n_bool := He.free_ok X G (c.fact 67 (f := .free "bool") rfl)
  n_list := He.free_ok X G (c.fact 68 (f := .free "list") rfl)
  n_tuple := He.free_ok X G (c.fact 69 (f := .free "tuple") rfl)
  n_str := He.free_ok X G (c.fact 70 (f := .free "str") rfl)
  n_len := He.free_ok X G (c.fact 71 (f := .free "len") rfl)
  n_range := He.free_ok X G (c.fact 72 (f := .free "range") rfl)
  n_enumerate := He.free_ok X G (c.fact 73 (f := .free "enumerate") rfl)
  n_all := He.free_ok X G (c.fact 74 (f := .free "all") rfl)
  n_any := He.free_ok X G (c.fact 75 (f := .free "any") rfl)
  n_max := He.free_ok X G (c.fact 76 (f := .free "max") rfl)
  n_sorted := He.free_ok X G (c.fact 77 (f := .free "sorted") rfl)
  n_set := He.free_ok X G (c.fact 78 (f := .free "set") rfl)
  n_sum := He.free_ok X G (c.fact 79 (f := .free "sum") rfl)
  n_dict := He.free_ok X G (c.fact 80 (f := .free "dict") rfl)
  c_MOST_ON_A_DAY := let ⟨t, e⟩ := He.int_ok X G (c.fact 81 (f := .int "MOST_ON_A_DAY" 2) rfl); ⟨_, e, t, rfl⟩
  c_LONGEST := let ⟨t, e⟩ := He.int_ok X G (c.fact 82 (f := .int "LONGEST" 4000) rfl); ⟨_, e, t, rfl⟩
  c_MOST_THINGS := let ⟨t, e⟩ := He.int_ok X G (c.fact 83 (f := .int "MOST_THINGS" 8) rfl); ⟨_, e, t, rfl⟩
  c_GREATEST := let ⟨t, e⟩ := He.int_ok X G (c.fact 84 (f := .int "GREATEST" 40) rfl); ⟨_, e, t, rfl⟩
  c_MOST_OFF := let ⟨t, e⟩ := He.int_ok X G (c.fact 85 (f := .int "MOST_OFF" 7) rfl); ⟨_, e, t, rfl⟩
  c_MOST_HANDS := let ⟨t, e⟩ := He.int_ok X G (c.fact 86 (f := .int "MOST_HANDS" 2) rfl); ⟨_, e, t, rfl⟩
  c_PARTS := let ⟨t, e⟩ := He.int_ok X G (c.fact 87 (f := .int "PARTS" 5) rfl); ⟨_, e, t, rfl⟩
  c_MOST_DAYS := let ⟨t, e⟩ := He.int_ok X G (c.fact 88 (f := .int "MOST_DAYS" 1000000) rfl); ⟨_, e, t, rfl⟩
  c_MOST_LEAD := let ⟨t, e⟩ := He.int_ok X G (c.fact 89 (f := .int "MOST_LEAD" 4000) rfl); ⟨_, e, t, rfl⟩
  c_MOST_STANDS := let ⟨t, e⟩ := He.int_ok X G (c.fact 90 (f := .int "MOST_STANDS" 4000) rfl); ⟨_, e, t, rfl⟩
theorem toph_of (X : K.In h) (G : h.Ns mainGlobals mg) (c : He.SaysD Hd.fa Hd.fn K) : TopH K mg (He.ga K "Heights") where
  g := He.glo_ok X G (c.fact 91 (f := .glo "Heights") rfl)
  cls := He.cls_ok (c.fact 92 (f := .cls "Heights") rfl)
  noat := He.noat_ok (c.fact 93 (f := .noat "Heights" "rows") rfl)
  mkr := by
    obtain ⟨fd, F⟩ := c.def_ 65 (d := Hd.d_H_init) rfl
    have F' : FunD K "__init__" "Heights.__init__" (defArgs (hsub 0)) (defBody (hsub 0)) (defScope (hsub 0)) [] [] (He.ma K (He.ga K "Heights") "__init__") fd := by
      have e : inClass (Hd.top 59) 0 = hsub 0 := eq_sub _ _
      rw [← e]; exact F
    exact ⟨_, fd, He.mkr_ok (c.fact 94 (f := .mkr "Heights") rfl), fun_of F', F'.bindsN b_H_init⟩
  alike := by
    refine mdef_of (f := He.ma K (He.ga K "Heights") "alike") ?_ (He.meth_ok (c.fact 95 (f := .meth "Heights" "alike") rfl)) b_H_alike
    have e : inClass (Hd.top 59) 1 = hsub 1 := eq_sub _ _
    rw [← e]; exact c.def_ 66 (d := Hd.d_H_alike) rfl
  covers := by
    refine mdef_of (f := He.ma K (He.ga K "Heights") "covers") ?_ (He.meth_ok (c.fact 96 (f := .meth "Heights" "covers") rfl)) b_H_covers
    have e : inClass (Hd.top 59) 2 = hsub 2 := eq_sub _ _
    rw [← e]; exact c.def_ 67 (d := Hd.d_H_covers) rfl
  add := by
    refine mdef_of (f := He.ma K (He.ga K "Heights") "add") ?_ (He.meth_ok (c.fact 97 (f := .meth "Heights" "add") rfl)) b_H_add
    have e : inClass (Hd.top 59) 3 = hsub 3 := eq_sub _ _
    rw [← e]; exact c.def_ 68 (d := Hd.d_H_add) rfl
theorem law_of (X : K.In h) (G : h.Ns mainGlobals mg) (c : He.SaysD Hd.fa Hd.fn K) {P : Program} {w : World} {fa : Addr} (hfa : mg ("law" : Str) = some (.ref fa)) : ∃ fd : FuncData, (∀ (s : Shared) (v : Value), BindsTo s fd ⟨[v], []⟩ [("_law_script", v)]) ∧ ∀ base : Heap, FnOk P w K mg base C8.CX0 12 fa fd ["_law_script"] (sp_law K) := by
  obtain ⟨fd, F⟩ := c.def_ 64 (d := Hd.d_law) rfl
  have e := hfa.symm.trans (He.glo_ok X G (c.fact 64 (f := .glo "law") rfl))
  cases e
  have F' : FunD K "law" "law" (defArgs (Hd.top 90)) (defBody (Hd.top 90)) (defScope (Hd.top 90)) [] [] (He.ga K "law") fd := F
  exact ⟨fd, fun s v => F'.bindsA b_law s [v] rfl, fun base => fn_law (top_of X G c) (toph_of X G c) (fun_of F')⟩
end
end Ed
open PySem PySem.W PySem.Calls PyProof.Rows
theorem PySem.Challenge.cw_withindays_k80_whole_made_up_papers_holds : PySem.Challenge.rw_withindays_k80_whole_made_up_papers.Holds := by
  w_on; o_law
  refine HandSHeadRun.head_any (r := OpenLaw.row PySem.Challenge.rw_withindays_k80_whole_made_up_papers) (q := view (OpenLaw.row PySem.Challenge.rw_withindays_k80_whole_made_up_papers).prog [90]) (H := Hd.hk) (ob := Hd.ob) (M := 6000) (loose := Hd.nm) (d := HandSHeadRun.topDef (OpenLaw.row PySem.Challenge.rw_withindays_k80_whole_made_up_papers).prog 90) (kwd := []) Hd.ob_eq
    (by kernel_rfl) (fun s => by kernel_rfl) Hd.run (by kernel_rfl) (by kernel_rfl) (by kernel_rfl) (by rfl) (by first | assumption | decide +kernel) (by decide +kernel) ⟨rfl, rfl, rfl, rfl, rfl, by decide +kernel⟩ ?hw ?hc
  case hw => w_witness2
  case hc =>
    refine L2.walk_ofE (l := PySem.Challenge.rw_withindays_k80_whole_made_up_papers) (n := 63) (k := 12) (x := "_law_script") (CX := C8.CX0) rfl (by decide) (by kernel_rfl) ⟨rfl, by decide, by decide⟩ ?F (fun _ _ _ _ z => z)
    intro w mg fa h Y G hmg0
    obtain ⟨K, KX, c⟩ := Y
    have hmg : mg ("law" : PySem.Str) = some (.ref fa) := by
      have e : (HandSHeadRun.topDef (OpenLaw.row PySem.Challenge.rw_withindays_k80_whole_made_up_papers).prog 90).name = ("law" : PySem.Str) := by kernel_rfl
      rw [← e]
      exact hmg0
    obtain ⟨fd, hb, hF⟩ := Ed.law_of KX G c (P := (PySem.Challenge.rw_withindays_k80_whole_made_up_papers).prog) (w := w) hmg
    exact ⟨K, fd, Ed.sp_law K, KX, hb, fun H a ns hl hO hS => ⟨a, ns, rfl, hS, hO, fun _ => rfl⟩, fun base _ _ => hF base⟩
